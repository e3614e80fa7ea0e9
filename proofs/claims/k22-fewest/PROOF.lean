import PyProof.Rows.All
import Wide.All
import OpenK.AllK
import Wide.FinOn
import HandS.ForMost
import HandS.ForExc
import KE.KDictKeyed
import HandS.Walk
import HandS.ExcCtx
import HandS.Defaults
import HandS.More
import HandS.Wide
import HandS.IsInst
import HandS.TupAny
import HandS.TupMul
import HandS.Style
import HandS.Conv
import HandS.SortInts
import KE.KStateDown
import HandS.HeadEnd
import KE.SortData
import KE.DataCmp
import KE.DataMinMax
import KE.KDictCopyH
import KE.KDictSum
import HandS.TupSets
import HandS.Deep
import HandS.Flow
import HandS.Strs
import HandS.ListItems
import KE.KDictItemsList
import KE.KTupSum
import PyProof.AssignAttr
import KE.GoesEnum
import HandS.OwnIter
import PyProof.Rows.StrInSeq3
import HandS.SetFor
import HandS.HotCalls
import KE.KExcIs
import HandS.ExcIs
import HandS.ExcField
import HandS.ExcInitHot
import HandS.NamedTupSort
import KE.KCallOwn
import HandS.ExcInit
import HandS.WideBits
import PyProof.Rows.ExtendIn
import HandS.WordsDict
import HandS.Small
import HandS.Head2
import HandS.HeadHook4
import Lean
import HandS.Head0
import HandS.Head1
import HandS.HeadHook1
import HandS.HeadHook2
import HandS.HeadHook3
import PySem.Challenge.RW_tuckbook_k22_whole_fewest_goings
set_option Elab.async false
set_option linter.all false
set_option maxRecDepth 100000
set_option maxHeartbeats 0
namespace TB
/-- data -/
inductive D where
  | non | bl (b : Bool) | int (i : Int) | str (s : List Nat)
  | scr (xs : List Int) | tup (xs : List D) | lst (xs : List D) | dic (kvs : List (D × D)) | dit (kvs : List (D × D)) | ldc (kvs : List (D × D)) | ob (c : Nat) (fs : List D) | fn (k : Nat)
  deriving Inhabited
/-- who may change it: fz nobody; else it is owned by the slot (or the temporary) that holds it -/
inductive Kd where
  | fz | li (k : Kd) | dK (k : Kd) | dT (k : Kd) | dR (ks : List Kd) | dN | ob (ks : List Kd)
  deriving Inhabited
abbrev KD := Kd × D
abbrev Slot := Option KD
/-- an exception: its class, what its field (or its text) is -/
structure Xc where
  c : Nat
  arg : D
inductive R (α : Type) where
  | ok (a : α) (S : List Slot) | exc (x : Xc) (S : List Slot) | bad
abbrev M (α : Type) := List Slot → R α
def R.bind {α β : Type} : R α → (α → M β) → R β
  | .ok a S, f => f a S
  | .exc x S, _ => .exc x S
  | .bad, _ => .bad
def M.pure {α : Type} (a : α) : M α := fun S => .ok a S
def M.bind {α β : Type} (m : M α) (f : α → M β) : M β := fun S => (m S).bind f
abbrev E := M KD
/-- a frozen slot -/
def eVar (i : Nat) : E := fun S => match S[i]? with
  | some (some (.fz, d)) => .ok (.fz, d) S
  | _ => .bad
/-- a slot moved out -/
def eMv (i : Nat) : E := fun S => match S[i]? with
  | some (some kd) => .ok kd (S.set i none)
  | _ => .bad
def eCon (d : D) : E := fun S => .ok (.fz, d) S
/-- what is owned is frozen from here on -/
def eFr (e : E) : E := M.bind e fun kd => M.pure (.fz, kd.2)
/-- data without references -/
def D.flat : D → Bool
  | .non => true
  | .bl _ => true
  | .int _ => true
  | .str _ => true
  | _ => false
def frz (s : Slot) : Slot := s.map fun kd => (.fz, kd.2)
/-- a look at owned things that gives flat data -/
def ePeek (e : E) : E := fun S => match e (S.map frz) with
  | .ok (_, d) _ => if d.flat then .ok (.fz, d) S else .bad
  | _ => .bad
/-- frozen data of an expression: what it makes is frozen -/
def eDat (e : E) : M D := M.bind e fun kd => M.pure kd.2
def eAll : List E → M (List D)
  | [] => M.pure []
  | e :: es => M.bind (eDat e) fun d => M.bind (eAll es) fun ds => M.pure (d :: ds)
/-- what an operation gives; no answer: not promised -/
def ofO : Option KD → E
  | some kd => M.pure kd
  | none => fun _ => .bad
def eApp (f : List D → Option KD) (es : List E) : E := M.bind (eAll es) fun ds => ofO (f ds)
def eOp (f : D → D → Option KD) (a b : E) : E := M.bind (eDat a) fun x => M.bind (eDat b) fun y => ofO (f x y)
def eUn (f : D → Option KD) (a : E) : E := M.bind (eDat a) fun x => ofO (f x)
def eBool (e : E) : M Bool := M.bind e fun kd => match kd.2 with
  | .bl b => M.pure b
  | _ => fun _ => .bad
def eAnd (a b : E) : E := M.bind (eBool a) fun c => if c then b else M.pure (.fz, .bl false)
def eOr (a b : E) : E := M.bind (eBool a) fun c => if c then M.pure (.fz, .bl true) else b
def eNot (a : E) : E := M.bind (eBool a) fun c => M.pure (.fz, .bl (!c))
abbrev T := M Bool
def tAnd (a b : T) : T := M.bind a fun c => if c then b else M.pure false
def tOr (a b : T) : T := M.bind a fun c => if c then M.pure true else b
def tNot (a : T) : T := M.bind a fun c => M.pure (!c)
/-- a test that looks at owned things -/
def tPeek (c : T) : T := fun S => match c (S.map frz) with
  | .ok b _ => .ok b S
  | _ => .bad
def eIf (c : T) (a b : E) : E := M.bind c fun x => if x then a else b
/-- a < b < c -/
def chain2 (g : D → D → Option KD) (c : E) (y : D) : Option KD → E
  | some (.fz, .bl b) => if b then M.bind (eDat c) fun z => ofO (g y z) else M.pure (.fz, .bl false)
  | _ => fun _ => .bad
def eChain (f g : D → D → Option KD) (a b c : E) : E := M.bind (eDat a) fun x => M.bind (eDat b) fun y => chain2 g c y (f x y)
def sizeMax : Nat := 16777216
def fTup (ds : List D) : Option KD := if ds.length ≤ sizeMax then some (.fz, .tup ds) else none
def fLst (ds : List D) : Option KD := if ds.length ≤ sizeMax then some (.li .fz, .lst ds) else none
/-- the items of what is walked -/
def itemsOf (d : D) : Option (List D) := match d with
  | .lst xs => some xs
  | .tup xs => some xs
  | _ => none
abbrev It := M (List D)
def itSeq (e : E) : It := M.bind (eDat e) fun d => match itemsOf d with
  | some xs => M.pure xs
  | none => fun _ => .bad
/-- a text, sign by sign -/
def itStr (e : E) : It := M.bind (eDat e) fun d => match d with
  | .str s => M.pure (s.map fun c => .str [c])
  | _ => fun _ => .bad
def rangeL (lo : Int) (n : Nat) : List D := (List.range n).map fun (i : Nat) => D.int (lo + (i : Int))
/-- (naturals on the left: what is compared so does not run off by itself) -/
def limN : Nat := 4611686018427387904
def itRange1 (e : E) : It := M.bind (eDat e) fun d => match d with
  | .int j => if j.natAbs < limN then M.pure (rangeL 0 j.toNat) else fun _ => .bad
  | _ => fun _ => .bad
def itRange2 (a b : E) : It := M.bind (eDat a) fun x => M.bind (eDat b) fun y => match x, y with
  | .int i, .int j => if i.natAbs < limN ∧ j.natAbs < limN then M.pure (rangeL i (j - i).toNat) else fun _ => .bad
  | _, _ => fun _ => .bad
inductive Tg where
  | nm (i : Nat) | tp (is : List Tg)
mutual
def Tg.put : Tg → D → List Slot → Option (List Slot)
  | .nm i, d, S => if i < S.length then some (S.set i (some (.fz, d))) else none
  | .tp is, d, S => match d with
    | .tup xs => Tg.puts is xs S
    | _ => none
def Tg.puts : List Tg → List D → List Slot → Option (List Slot)
  | [], [], S => some S
  | g :: gs, d :: ds, S => (Tg.put g d S).bind fun S => Tg.puts gs ds S
  | _, _, _ => none
end
inductive Fl where
  | nx | rt (r : KD) | bk | ct
abbrev St := M Fl
def sNx : St := M.pure .nx
def sSet (i : Nat) (e : E) : St := M.bind e fun kd S => if i < S.length then .ok .nx (S.set i (some kd)) else .bad
/-- a new tuple laid out -/
def sPut (g : Tg) (e : E) : St := M.bind (eDat e) fun d S => match g.put d S with
  | some S' => .ok .nx S'
  | none => .bad
def sSeq (a b : St) : St := M.bind a fun f => match f with
  | .nx => b
  | f => M.pure f
def sRet (e : E) : St := M.bind e fun kd => M.pure (.rt kd)
def sDrop (e : E) : St := M.bind e fun _ => M.pure .nx
def sIf (c : T) (a b : St) : St := M.bind c fun x => if x then a else b
def sWhile : Nat → T → St → St
  | 0, _, _ => fun _ => .bad
  | n + 1, c, b => M.bind c fun x => if x then M.bind b fun f => match f with
      | .nx => sWhile n c b
      | .ct => sWhile n c b
      | .bk => M.pure .nx
      | .rt r => M.pure (.rt r)
    else M.pure .nx
def loop (g : Tg) (b : St) : List D → St
  | [] => M.pure .nx
  | d :: ds => fun S => match g.put d S with
    | none => .bad
    | some S => (b S).bind fun f => match f with
      | .nx => loop g b ds
      | .ct => loop g b ds
      | .bk => M.pure .nx
      | .rt r => M.pure (.rt r)
def sFor (it : It) (g : Tg) (b : St) : St := M.bind it fun ds => loop g b ds
def wipeS (S : List Slot) : List Nat → List Slot
  | [] => S
  | v :: vs => (wipeS S vs).set v none
/-- the own slots as they were ahead -/
def backS (S0 : List Slot) : List Slot → List Nat → List Slot
  | S, [] => S
  | S, v :: vs => backS S0 (S.set v (S0.getD v none)) vs
def noDup : List Nat → Bool
  | [] => true
  | v :: vs => !vs.contains v && noDup vs
mutual
def Tg.sl : Tg → List Nat
  | .nm i => [i]
  | .tp ts => Tg.sls ts
def Tg.sls : List Tg → List Nat
  | [] => []
  | t :: ts => Tg.sl t ++ Tg.sls ts
end
def cLoop (g : Tg) (vs : List Nat) (c : T) (e : E) : List D → List D → M (List D)
  | [], acc => M.pure acc
  | d :: ds, acc => fun S => match g.put d S with
    | none => .bad
    | some S => (c S).bind fun b => if b then M.bind (eDat e) fun y S => if acc.length < sizeMax then cLoop g vs c e ds (acc ++ [y]) (wipeS S vs) else .bad
      else fun S => cLoop g vs c e ds acc (wipeS S vs)
def fzAt (S : List Slot) (v : Nat) : Bool := match S[v]? with
  | some none => true
  | some (some (.fz, _)) => true
  | _ => false
def eLc (it : It) (g : Tg) (vs : List Nat) (c : T) (e : E) : E := M.bind it fun ds S0 => if (vs.all (fzAt S0) && noDup vs && g.sl.all vs.contains) = true then
    match cLoop g vs c e ds [] (wipeS S0 vs) with
    | .ok acc S => .ok (.li .fz, .lst acc) (backS S0 S vs)
    | _ => .bad
  else .bad
def tTrue : T := M.pure true
def normIx (n : Nat) (i : Int) : Option Nat := if 0 ≤ i then (if i < n then some i.toNat else none) else if -(n : Int) ≤ i then some (i + n).toNat else none
def kz (d : D) : Option KD := some (.fz, d)
/-- below 2^500 -/
abbrev small (i : Int) : Prop := i.natAbs < 3273390607896141870013189696827599152216642046043064789483291368096133796404674554883270092325904157150886684127560071009217256545885393053328527589376
def fAdd : D → D → Option KD
  | .int i, .int j => kz (.int (i + j))
  | .str a, .str b => if a.length + b.length ≤ sizeMax then kz (.str (a ++ b)) else none
  | .lst a, .lst b => if a.length + b.length ≤ sizeMax then some (.li .fz, .lst (a ++ b)) else none
  | .tup a, .tup b => if a.length + b.length ≤ sizeMax then kz (.tup (a ++ b)) else none
  | _, _ => none
def fSub : D → D → Option KD
  | .int i, .int j => kz (.int (i - j))
  | _, _ => none
def fMul : D → D → Option KD
  | .int i, .int j => if small i ∧ small j then kz (.int (i * j)) else none
  | .tup a, .int j => if a ≠ [] ∧ 2 ≤ j ∧ j.natAbs ≤ 1000 ∧ a.length ≤ 1000 then kz (.tup (List.replicate j.toNat a).flatten) else none
  | .lst a, .int j => if 0 ≤ j ∧ j.natAbs ≤ 1000 ∧ a.length ≤ 1000 then some (.li .fz, .lst (List.replicate j.toNat a).flatten) else none
  | _, _ => none
def fMod : D → D → Option KD
  | .int i, .int j => if 0 < j then kz (.int (i % j)) else none
  | _, _ => none
def fDiv : D → D → Option KD
  | .int i, .int j => if 0 < j ∧ small j then kz (.int (i / j)) else none
  | _, _ => none
def fNeg : D → Option KD
  | .int i => kz (.int (-i))
  | _ => none
def fPow : D → D → Option KD
  | .int i, .int j => if 0 ≤ j ∧ j.natAbs ≤ 1000000 ∧ i.natAbs < 2 ^ 64 then kz (.int (i ^ j.toNat)) else none
  | _, _ => none
def fLt : D → D → Option KD
  | .int i, .int j => kz (.bl (decide (i < j)))
  | .str a, .str b => kz (.bl (decide (a < b)))
  | _, _ => none
def fLe : D → D → Option KD
  | .int i, .int j => kz (.bl (decide (i ≤ j)))
  | .str a, .str b => kz (.bl (!decide (b < a)))
  | _, _ => none
def fGt : D → D → Option KD
  | .int i, .int j => kz (.bl (decide (j < i)))
  | .str a, .str b => kz (.bl (decide (b < a)))
  | _, _ => none
def fGe : D → D → Option KD
  | .int i, .int j => kz (.bl (decide (j ≤ i)))
  | .str a, .str b => kz (.bl (!decide (a < b)))
  | _, _ => none
def fIx : D → D → Option KD
  | .scr xs, .int i => (normIx xs.length i).bind fun n => xs[n]?.bind fun j => kz (.int j)
  | .lst xs, .int i => (normIx xs.length i).bind fun n => xs[n]?.bind kz
  | .tup xs, .int i => (normIx xs.length i).bind fun n => xs[n]?.bind kz
  | .str s, .int i => if s.length ≤ sizeMax then (normIx s.length i).bind fun n => s[n]?.bind fun c => kz (.str [c]) else none
  | _, _ => none
def fLen : List D → Option KD
  | [.scr xs] => kz (.int xs.length)
  | [.lst xs] => kz (.int xs.length)
  | [.tup xs] => kz (.int xs.length)
  | [.str s] => if s.length ≤ sizeMax then kz (.int s.length) else none
  | _ => none
def fIsN : D → D → Option KD
  | x, .non => kz (.bl (match x with | .non => true | _ => false))
  | _, _ => none
def fNotN : D → D → Option KD
  | x, .non => kz (.bl (match x with | .non => false | _ => true))
  | _, _ => none
def fIsB : D → D → Option KD
  | .bl a, .bl b => kz (.bl (decide (a = b)))
  | _, _ => none
def fNotB : D → D → Option KD
  | .bl a, .bl b => kz (.bl (!decide (a = b)))
  | _, _ => none
def fIntB : List D → Option KD
  | [.int i] => kz (.int i)
  | [.bl b] => kz (.int (if b then 1 else 0))
  | _ => none
def fMin2 : List D → Option KD
  | [.int i, .int j] => kz (.int (if j < i then j else i))
  | _ => none
def fMax2 : List D → Option KD
  | [.int i, .int j] => kz (.int (if j > i then j else i))
  | _ => none
def fList : List D → Option KD
  | [.lst xs] => some (.li .fz, .lst xs)
  | [.tup xs] => some (.li .fz, .lst xs)
  | [.dic kvs] => some (.li .fz, .lst (kvs.map (·.1)))
  | _ => none
def fTuple : List D → Option KD
  | [.lst xs] => kz (.tup xs)
  | [.tup xs] => kz (.tup xs)
  | _ => none
def boolsOf : List D → Option (List Bool)
  | [] => some []
  | .bl b :: ds => (boolsOf ds).map (b :: ·)
  | _ => none
def fAllB : List D → Option KD
  | [.lst xs] => (boolsOf xs).bind fun bs => kz (.bl (bs.all id))
  | _ => none
/-- c in a text, c one sign -/
def fInS : D → D → Option KD
  | .str [c], .str s => kz (.bl (decide (c ∈ s)))
  | _, _ => none
def fNotInS : D → D → Option KD
  | .str [c], .str s => kz (.bl (!decide (c ∈ s)))
  | _, _ => none
mutual
def D.eqv : D → D → Bool
  | .non, .non => true
  | .bl a, .bl b => a == b
  | .bl a, .int j => (if a then 1 else 0) == j
  | .int i, .bl b => i == (if b then 1 else 0)
  | .int i, .int j => i == j
  | .str a, .str b => a == b
  | .lst xs, .lst ys => D.eqvs xs ys
  | .tup xs, .tup ys => D.eqvs xs ys
  | _, _ => false
def D.eqvs : List D → List D → Bool
  | [], [] => true
  | x :: xs, y :: ys => D.eqv x y && D.eqvs xs ys
  | _, _ => false
end
mutual
/-- made of numbers, truths, None, texts, lists, tuples, at most n within one another -/
def D.lay : Nat → D → Bool
  | _, .non => true
  | _, .bl _ => true
  | _, .int _ => true
  | _, .str s => s.all (· < 1114112)
  | n + 1, .lst xs => D.lays n xs
  | n + 1, .tup xs => D.lays n xs
  | _, _ => false
def D.lays : Nat → List D → Bool
  | _, [] => true
  | n, x :: xs => D.lay n x && D.lays n xs
end
def eqOk (x y : D) : Bool := (x.flat && y.flat) || (x.lay 60 && y.lay 60)
def fEq (x y : D) : Option KD := if eqOk x y = true then kz (.bl (D.eqv x y)) else none
def fNe (x y : D) : Option KD := if eqOk x y = true then kz (.bl (!D.eqv x y)) else none
/-- x in xs, xs of flat data -/
def fIn (x y : D) : Option KD := match itemsOf y with
  | some ys => if x.flat && ys.all D.flat then kz (.bl (ys.any fun y => D.eqv y x)) else none
  | none => none
def fNotIn (x y : D) : Option KD := match itemsOf y with
  | some ys => if x.flat && ys.all D.flat then kz (.bl (!ys.any fun y => D.eqv y x)) else none
  | none => none
def fOr (f g : D → D → Option KD) (x y : D) : Option KD := match f x y with
  | some a => some a
  | none => g x y
def fInA : D → D → Option KD := fOr fIn fInS
def fNotInA : D → D → Option KD := fOr fNotIn fNotInS
def fIsA : D → D → Option KD := fOr fIsN fIsB
def fIsNotA : D → D → Option KD := fOr fNotN fNotB
inductive Ty where
  | int | bool | str | list | tuple
def D.isTy : Ty → D → Option Bool
  | .int, .int _ => some true
  | .int, .bl _ => some true
  | .bool, .bl _ => some true
  | .str, .str _ => some true
  | .list, .lst _ => some true
  | .tuple, .tup _ => some true
  | _, .scr _ => none
  | _, .dic _ => none
  | _, .dit _ => none
  | _, .ldc _ => none
  | _, .ob _ _ => none
  | _, .fn _ => none
  | _, _ => some false
def fIsi (t : Ty) (d : D) : Option KD := (d.isTy t).bind fun b => kz (.bl b)
def eIsi (t : Ty) (e : E) : E := eUn (fIsi t) e
def ixS (n d : Nat) : Option Int → Nat
  | none => d
  | some v => if v < 0 then (v + (n : Int)).toNat else min v.toNat n
def cutL {α : Type} (xs : List α) (lo hi : Option Int) : List α := (xs.drop (ixS xs.length 0 lo)).take (ixS xs.length xs.length hi - ixS xs.length 0 lo)
def fSl (d : D) (lo hi : Option Int) : Option KD := match d with
  | .lst xs => some (.li .fz, .lst (cutL xs lo hi))
  | .tup xs => kz (.tup (cutL xs lo hi))
  | .str s => if s.length ≤ sizeMax then kz (.str (cutL s lo hi)) else none
  | _ => none
def eOpt : Option E → M (Option Int)
  | none => M.pure none
  | some e => M.bind (eDat e) fun d => match d with
    | .int i => M.pure (some i)
    | _ => fun _ => .bad
def eSl (a : E) (lo hi : Option E) : E := M.bind (eDat a) fun x => M.bind (eOpt lo) fun l => M.bind (eOpt hi) fun h => ofO (fSl x l h)
def intsOf : List D → Option (List Int)
  | [] => some []
  | .int i :: ds => (intsOf ds).map (i :: ·)
  | _ => none
def strsOf : List D → Option (List (List Nat))
  | [] => some []
  | .str i :: ds => (strsOf ds).map (i :: ·)
  | _ => none
def sortI (xs : List Int) : List Int := xs.mergeSort fun a b => decide (a ≤ b)
def sortT (xs : List (List Nat)) : List (List Nat) := xs.mergeSort fun a b => !decide (b < a)
def fSorted : List D → Option KD
  | [.lst xs] => match intsOf xs with
    | some is => some (.li .fz, .lst ((sortI is).map D.int))
    | none => match strsOf xs with
      | some ss => if ss.length < 64 then some (.li .fz, .lst ((sortT ss).map D.str)) else none
      | none => none
  | _ => none
def joinD (s : List Nat) : List (List Nat) → List Nat
  | [] => []
  | [p] => p
  | p :: q :: r => p ++ (s ++ joinD s (q :: r))
def fJoin (s : List Nat) (d : D) : Option KD := match d with
  | .lst xs => (strsOf xs).bind fun ss => if (ss.map (·.length)).sum + ss.length * s.length ≤ sizeMax then kz (.str (joinD s ss)) else none
  | _ => none
def eJoin (a b : E) : E := M.bind (eDat a) fun x => match x with
  | .str s => M.bind (eDat b) fun y => ofO (fJoin s y)
  | _ => fun _ => .bad
/-- a look at owned things that gives a new list of flat data -/
def ePeekL (e : E) : E := fun S => match e (S.map frz) with
  | .ok (.li .fz, .lst ds) _ => if ds.all D.flat then .ok (.li .fz, .lst ds) S else .bad
  | _ => .bad
/-- list(range(n)) -/
def eLRg1 (a : E) : E := M.bind (eDat a) fun d => match d with
  | .int j => if j.natAbs ≤ sizeMax then M.pure (.li .fz, .lst (rangeL 0 j.toNat)) else fun _ => .bad
  | _ => fun _ => .bad
/-- the own list of slot i -/
def ownL (S : List Slot) (i : Nat) : Option (List D) := match S[i]? with
  | some (some (.li .fz, .lst xs)) => some xs
  | _ => none
def hasL (i : Nat) : M Unit := fun S => match ownL S i with
  | some _ => .ok () S
  | none => .bad
/-- the own dict of slot i -/
def ownK (S : List Slot) (i : Nat) : Option (List (D × D)) := match S[i]? with
  | some (some (.dK .fz, .dic xs)) => some xs
  | _ => none
def hasK (i : Nat) : M Unit := fun S => match ownK S i with
  | some _ => .ok () S
  | none => .bad
/-- xs[k] = e -/
def sSetIx (i : Nat) (k e : E) : St := M.bind (eDat e) fun y => M.bind (hasL i) fun _ => M.bind (eDat k) fun x S => match ownL S i, x with
  | some xs, .int j => match normIx xs.length j with
    | some n => .ok .nx (S.set i (some (.li .fz, .lst (xs.set n y))))
    | none => .bad
  | _, _ => .bad
/-- xs[k] of an own list: its items are frozen -/
def eIxO (i : Nat) (k : E) : E := M.bind (hasL i) fun _ => M.bind (eDat k) fun x S => match ownL S i, x with
  | some xs, .int j => match (normIx xs.length j).bind fun n => xs[n]? with
    | some d => .ok (.fz, d) S
    | none => .bad
  | _, _ => .bad
/-- the slot i, frozen where it stands -/
def eFzV (i : Nat) : E := fun S => match S[i]? with
  | some (some (_, d)) => .ok (.fz, d) (S.set i (some (.fz, d)))
  | _ => .bad
/-- xs.m(..): what comes, what becomes of xs -/
def eMth (f : List D → List D → Option (D × List D)) (i : Nat) (es : List E) : E := M.bind (hasL i) fun _ => M.bind (eAll es) fun ds S => match ownL S i with
  | some xs => match f xs ds with
    | some (r, ys) => .ok (.fz, r) (S.set i (some (.li .fz, .lst ys)))
    | none => .bad
  | none => .bad
def fAppend : List D → List D → Option (D × List D)
  | xs, [y] => if xs.length < sizeMax then some (.non, xs ++ [y]) else none
  | _, _ => none
/-- xs[a:b] = ys -/
def sSetSl (i : Nat) (a b e : E) : St := M.bind (eDat e) fun y => M.bind (hasL i) fun _ => M.bind (eDat a) fun p => match p with
  | .int l => M.bind (eDat b) fun q => match q with
    | .int h => match y with
      | .lst ys => fun S => match ownL S i with
        | some xs => if 0 ≤ l ∧ l ≤ h ∧ l ≤ xs.length ∧ xs.length + ys.length ≤ sizeMax then .ok .nx (S.set i (some (.li .fz, .lst (xs.take l.toNat ++ ys ++ xs.drop h.toNat)))) else .bad
        | none => .bad
      | _ => fun _ => .bad
    | _ => fun _ => .bad
  | _ => fun _ => .bad
/-- xs[a:b] of an own list -/
def eSlO (i : Nat) (lo hi : Option E) : E := M.bind (hasL i) fun _ => M.bind (eOpt lo) fun l => M.bind (eOpt hi) fun h S => match ownL S i with
  | some xs => .ok (.li .fz, .lst (cutL xs l h)) S
  | none => .bad
/-- {} -/
def eDnew : E := M.pure (.dK .fz, .dic [])
def isKey : D → Bool
  | .int _ => true
  | .str _ => true
  | _ => false
def putD (kvs : List (D × D)) (k v : D) : List (D × D) := if (kvs.any fun p => D.eqv p.1 k) = true then kvs.map (fun p => if D.eqv p.1 k = true then (p.1, v) else p) else kvs ++ [(k, v)]
def valD (kvs : List (D × D)) (k : D) : Option D := (kvs.find? fun p => D.eqv p.1 k).map (·.2)
/-- .. of a frozen one -/
def fGet : D → D → Option KD
  | .dic kvs, x => if isKey x = true then (valD kvs x).bind kz else none
  | _, _ => none
def fNotInD : D → D → Option KD
  | x, .dic kvs => if isKey x = true then kz (.bl (!(valD kvs x).isSome)) else none
  | _, _ => none
/-- d[k] = e -/
def sDput (i : Nat) (k e : E) : St := M.bind (eDat e) fun y => M.bind (hasK i) fun _ => M.bind (eDat k) fun x S => match ownK S i with
  | some kvs => if isKey x = true ∧ kvs.length < sizeMax then .ok .nx (S.set i (some (.dK .fz, .dic (putD kvs x y)))) else .bad
  | none => .bad
inductive FR where
  | ret (r : KD) (outs : List KD) | exc (x : Xc) (outs : List KD) | bad
abbrev Fn := List KD → FR
def Kd.isF : Kd → Bool
  | .fz => true
  | _ => false
/-- what stands in the owned parameters' slots at the end -/
def outsOf : List KD → List Slot → Option (List KD)
  | [], _ => some []
  | (k, _) :: as, s :: S => if k.isF then outsOf as S else match s with
    | some kd => if kd.1.isF then none else (outsOf as S).map (kd :: ·)
    | none => none
  | _ :: _, [] => none
/-- the owned arguments stand in slots that the body leaves to them -/
def pinned (pk : List Nat) : Nat → List KD → Bool
  | _, [] => true
  | i, (k, _) :: as => (k.isF || pk.contains i) && pinned pk (i + 1) as
def frOf (as : List KD) (r : KD) (S : List Slot) : FR := match outsOf as S with
  | some o => .ret r o
  | none => .bad
def runF (n : Nat) (pk : List Nat) (body : St) : Fn := fun as => if pinned pk 0 as = true then match body (as.map some ++ List.replicate (n - as.length) none) with
    | .ok (.rt r) S => frOf as r S
    | .ok .nx S => frOf as (.fz, .non) S
    | .exc x S => (match outsOf as S with | some o => .exc x o | none => .bad)
    | _ => .bad
  else .bad
/-- an argument: frozen data, an owned temporary, a slot lent -/
inductive Ar where
  | v (e : E) | o (e : E) | b (i : Nat)
inductive AV where
  | v (d : D) | o (kd : KD) | b (i : Nat)
def arEv : List Ar → M (List AV)
  | [] => M.pure []
  | .v e :: as => M.bind (eDat e) fun d => M.bind (arEv as) fun r => M.pure (.v d :: r)
  | .o e :: as => M.bind e fun kd => M.bind (arEv as) fun r => if kd.1.isF then fun _ => .bad else M.pure (.o kd :: r)
  | .b i :: as => fun S => match S[i]? with
    | some (some _) => M.bind (arEv as) (fun r => M.pure (.b i :: r)) S
    | _ => .bad
/-- the arguments as the callee has them; lent slots are empty meanwhile -/
def arIn : List AV → List Slot → Option (List KD × List Slot)
  | [], S => some ([], S)
  | .v d :: as, S => (arIn as S).map fun r => ((.fz, d) :: r.1, r.2)
  | .o kd :: as, S => (arIn as S).map fun r => (kd :: r.1, r.2)
  | .b i :: as, S => match S[i]? with
    | some (some kd) => if kd.1.isF then none else (arIn as (S.set i none)).map fun r => (kd :: r.1, r.2)
    | _ => none
/-- lent slots come back -/
def arOut : List AV → List KD → List Slot → Option (List Slot)
  | [], [], S => some S
  | .v _ :: as, os, S => arOut as os S
  | .o _ :: as, _ :: os, S => arOut as os S
  | .b i :: as, o :: os, S => arOut as os (S.set i (some o))
  | _, _, _ => none
def eCall (F : Fn) (as : List Ar) : E := M.bind (arEv as) fun vs S => match arIn vs S with
  | none => .bad
  | some (ks, S1) => match F ks with
    | .ret r os => (match arOut vs os S1 with | some S2 => .ok r S2 | none => .bad)
    | .exc x os => (match arOut vs os S1 with | some S2 => .exc x S2 | none => .bad)
    | .bad => .bad
end TB
namespace TB
mutual
/-- can be compared, place by place -/
def D.alk : D → D → Bool
  | .bl _, .bl _ => true
  | .int _, .int _ => true
  | .str _, .str _ => true
  | .tup xs, .tup ys => D.alks xs ys
  | _, _ => false
def D.alks : List D → List D → Bool
  | x :: xs, y :: ys => D.alk x y && D.alks xs ys
  | [], _ => true
  | _ :: _, [] => true
end
mutual
def D.lt : D → D → Bool
  | .bl a, .bl b => !a && b
  | .int i, .int j => decide (i < j)
  | .str a, .str b => decide (a < b)
  | .tup xs, .tup ys => D.lts xs ys
  | _, _ => false
def D.lts : List D → List D → Bool
  | x :: xs, y :: ys => if D.eqv x y = true then D.lts xs ys else D.lt x y
  | [], _ :: _ => true
  | _, _ => false
end
def leD (x y : D) : Bool := !D.lt y x
def D.isTup1 : D → Bool
  | .tup (_ :: _) => true
  | _ => false
def D.isTup : D → Bool
  | .tup _ => true
  | _ => false
/-- all of one form -/
def alkAll (ds : List D) : Bool := ds.all fun x => ds.all fun y => D.alk x y
/-- tuples, none of them empty, all of one form -/
def sortOk (ds : List D) : Bool := ds.all D.isTup1 && alkAll ds && D.lays 60 ds
def sortD (ds : List D) : List D := ds.mergeSort leD
def fSortD : List D → Option KD
  | [.lst xs] => if sortOk xs = true ∧ xs.length ≤ sizeMax then some (.li .fz, .lst (sortD xs)) else none
  | _ => none
def fOr1 (f g : List D → Option KD) (xs : List D) : Option KD := match f xs with
  | some a => some a
  | none => g xs
def fSortedT : List D → Option KD
  | [.lst xs] => match strsOf xs with
    | some ss => if ss.length ≤ sizeMax then some (.li .fz, .lst ((sortT ss).map D.str)) else none
    | none => none
  | _ => none
def fSortedA : List D → Option KD := fOr1 fSorted (fOr1 fSortedT fSortD)
def minD (x : D) (xs : List D) : D := xs.foldl (fun a y => if D.lt y a = true then y else a) x
def maxD (x : D) (xs : List D) : D := xs.foldl (fun a y => if D.lt a y = true then y else a) x
def fMinL : List D → Option KD
  | [.lst (x :: xs)] => if alkAll (x :: xs) = true ∧ D.lays 60 (x :: xs) = true ∧ (x :: xs).length ≤ sizeMax then kz (minD x xs) else none
  | _ => none
def fMaxL : List D → Option KD
  | [.lst (x :: xs)] => if alkAll (x :: xs) = true ∧ D.lays 60 (x :: xs) = true ∧ (x :: xs).length ≤ sizeMax then kz (maxD x xs) else none
  | _ => none
end TB
namespace TB
mutual
/-- numbers, truths, texts, None, tuples of such -/
def D.imm : D → Bool
  | .non => true
  | .bl _ => true
  | .int _ => true
  | .str _ => true
  | .tup xs => D.imms xs
  | _ => false
def D.imms : List D → Bool
  | [] => true
  | x :: xs => D.imm x && D.imms xs
end
/-- looks at owned things -/
def ePeekI (e : E) : E := fun S => match e (S.map frz) with
  | .ok (_, d) _ => if d.imm = true then .ok (.fz, d) S else .bad
  | _ => .bad
def ePeekLI (e : E) : E := fun S => match e (S.map frz) with
  | .ok (.li .fz, .lst ds) _ => if D.imms ds = true then .ok (.li .fz, .lst ds) S else .bad
  | _ => .bad
mutual
def Kd.beq : Kd → Kd → Bool
  | .fz, .fz => true
  | .li a, .li b => Kd.beq a b
  | .dK a, .dK b => Kd.beq a b
  | .dT a, .dT b => Kd.beq a b
  | .dR a, .dR b => Kd.beqs a b
  | .dN, .dN => true
  | .ob a, .ob b => Kd.beqs a b
  | _, _ => false
def Kd.beqs : List Kd → List Kd → Bool
  | [], [] => true
  | a :: as, b :: bs => Kd.beq a b && Kd.beqs as bs
  | _, _ => false
end
/-- a step of a path, as it came out -/
inductive PV where
  | fld (c n : Nat) | key (d : D) | ix (i : Int)
def keyAt (kvs : List (D × D)) (k : D) : Option Nat := kvs.findIdx? fun p => D.eqv p.1 k
def getKD : List PV → Kd → D → Option KD
  | [], k, d => some (k, d)
  | .fld c n :: p, .ob ks, .ob c' ds => if c' = c then (match ks[n]?, ds[n]? with
    | some k, some d => getKD p k d
    | _, _ => none) else none
  | .key x :: p, .dK k, .dic kvs => if isKey x = true then (keyAt kvs x).bind fun n => kvs[n]?.bind fun q => getKD p k q.2 else none
  | .key x :: p, .dR ks, .dic kvs => if isKey x = true then (keyAt kvs x).bind fun n => match ks[n]?, kvs[n]? with
    | some k, some q => getKD p k q.2
    | _, _ => none else none
  | .ix i :: p, .li k, .lst ds => (normIx ds.length i).bind fun n => ds[n]?.bind fun d => getKD p k d
  | _, _, _ => none
def setKD : List PV → Kd → D → KD → Option KD
  | [], _, _, kd => some kd
  | .fld c n :: p, .ob ks, .ob c' ds, kd => if c' = c then (match ks[n]?, ds[n]? with
    | some k, some d => (setKD p k d kd).bind fun r => some (.ob (ks.set n r.1), .ob c' (ds.set n r.2))
    | _, _ => none) else none
  | .key x :: p, .dK k, .dic kvs, kd => if isKey x = true then (keyAt kvs x).bind fun n => kvs[n]?.bind fun q => (setKD p k q.2 kd).bind fun r => if Kd.beq r.1 k = true then some (.dK k, .dic (kvs.set n (q.1, r.2))) else none else none
  | .key x :: p, .dR ks, .dic kvs, kd => if isKey x = true then (keyAt kvs x).bind fun n => match ks[n]?, kvs[n]? with
    | some k, some q => (setKD p k q.2 kd).bind fun r => some (.dR (ks.set n r.1), .dic (kvs.set n (q.1, r.2)))
    | _, _ => none else none
  | .ix i :: p, .li k, .lst ds, kd => (normIx ds.length i).bind fun n => ds[n]?.bind fun d => (setKD p k d kd).bind fun r => if Kd.beq r.1 k = true then some (.li k, .lst (ds.set n r.2)) else none
  | _, _, _, _ => none
/-- a step of a path, written -/
inductive PS where
  | fld (c n : Nat) | key (e : E) | ix (e : E)
def eFzD (e : E) (S : List Slot) : Option D := match e S with
  | .ok (.fz, d) _ => some d
  | _ => none
def pEv : List PS → List Slot → Option (List PV)
  | [], _ => some []
  | .fld c n :: ps, S => (pEv ps S).map (.fld c n :: ·)
  | .key e :: ps, S => (eFzD e S).bind fun d => (pEv ps S).map (.key d :: ·)
  | .ix e :: ps, S => match eFzD e S with
    | some (.int i) => (pEv ps S).map (.ix i :: ·)
    | _ => none
/-- what stands at the path -/
structure Tgt where
  pv : List PV
  rk : Kd
  rd : D
  k : Kd
  d : D
def tgt (i : Nat) (ps : List PS) (S : List Slot) : Option Tgt := match S[i]?, pEv ps S with
  | some (some (rk, rd)), some pv => (getKD pv rk rd).map fun kd => ⟨pv, rk, rd, kd.1, kd.2⟩
  | _, _ => none
/-- something else there -/
def Tgt.put (t : Tgt) (i : Nat) (kd : KD) (S : List Slot) : Option (List Slot) := (setKD t.pv t.rk t.rd kd).map fun r => S.set i (some r)
def pOk {α : Type} (a : α) : Option (List Slot) → R α
  | some S => .ok a S
  | none => .bad
def eFzDs : List E → List Slot → Option (List D)
  | [], _ => some []
  | e :: es, S => (eFzD e S).bind fun d => (eFzDs es S).map (d :: ·)
/-- o.m(..) of an own list -/
def pMth (f : List D → List D → Option (D × List D)) (i : Nat) (ps : List PS) (es : List E) : E := fun S => match tgt i ps S, eFzDs es S with
  | some t, some ds => match t.k, t.d with
    | .li .fz, .lst xs => match f xs ds with
      | some (r, ys) => pOk (.fz, r) (t.put i (.li .fz, .lst ys) S)
      | none => .bad
    | _, _ => .bad
  | _, _ => .bad
/-- op= of numbers -/
def augI (s : Bool) (i j : Int) : Int := if s then i - j else i + j
def pAugD (i : Nat) (ps : List PS) (k : E) (s : Bool) (e : E) : St := fun S => match tgt i ps S, eFzD k S, eFzD e S with
  | some t, some x, some (.int y) => match t.k, t.d with
    | .dK .fz, .dic kvs => if isKey x = true ∧ kvs.length < sizeMax then (match valD kvs x with
      | some (.int v) => pOk .nx (t.put i (.dK .fz, .dic (putD kvs x (.int (augI s v y)))) S)
      | _ => .bad) else .bad
    | _, _ => .bad
  | _, _, _ => .bad
/-- o.f of a frozen object -/
def fFld (c n : Nat) : D → Option KD
  | .ob c' ds => if c' = c then ds[n]?.bind kz else none
  | _ => none
end TB
namespace TB
def isObj (c : Nat) : AV → List Slot → Bool
  | .v (.ob c' _), _ => c' == c
  | .o (_, .ob c' _), _ => c' == c
  | .b i, S => match S[i]? with
    | some (some (.ob _, .ob c' _)) => c' == c
    | _ => false
  | _, _ => false
def callAV (F : Fn) (vs : List AV) (S : List Slot) : R KD := match arIn vs S with
  | none => .bad
  | some (ks, S1) => match F ks with
    | .ret r os => (match arOut vs os S1 with | some S2 => .ok r S2 | none => .bad)
    | .exc x os => (match arOut vs os S1 with | some S2 => .exc x S2 | none => .bad)
    | .bad => .bad
/-- o.m(.., its defaults), o of the class c -/
def eMeth (c : Nat) (F : Fn) (r : Ar) (as : List Ar) (ds : List D) : E := M.bind (arEv [r]) fun v1 S => match v1 with
  | [x] => if isObj c x S = true then (M.bind (arEv as) fun vs S => callAV F (x :: (vs ++ ds.map .v)) S) S else .bad
  | _ => .bad
/-- C(..) -/
def eMake (c : Nat) (F : Fn) (as : List Ar) : E := M.bind (arEv as) fun vs S => match arIn vs S with
  | none => .bad
  | some (ks, S1) => match F ((.ob [], .ob c []) :: ks) with
    | .ret (_, .non) (o :: os) => (match arOut vs os S1 with | some S2 => .ok o S2 | none => .bad)
    | _ => .bad
end TB
namespace TB
mutual
def D.nk : Nat → D → Bool
  | _, .int _ => true
  | _, .str _ => true
  | n + 1, .tup xs => D.nks n xs
  | _, _ => false
def D.nks : Nat → List D → Bool
  | _, [] => true
  | n, x :: xs => D.nk n x && D.nks n xs
end
def isNK (d : D) : Bool := d.isTup && d.nk 8
/-- {} of that kind -/
def eNnew : E := M.pure (.dN, .dit [])
/-- sorted(d): its keys -/
def fSortN : D → Option KD
  | .dit kvs => if sortOk (kvs.map (·.1)) = true then some (.li .fz, .lst (sortD (kvs.map (·.1)))) else none
  | _ => none
end TB
namespace TB
/-- the same, at a slot, the key any expression -/
def ownN (S : List Slot) (i : Nat) : Option (List (D × D)) := match S[i]? with
  | some (some (.dN, .dit xs)) => some xs
  | _ => none
def hasN (i : Nat) : M Unit := fun S => match ownN S i with
  | some _ => .ok () S
  | none => .bad
def sNput (i : Nat) (k e : E) : St := M.bind (eDat e) fun y => M.bind (hasN i) fun _ => M.bind (eDat k) fun x S => match ownN S i with
  | some kvs => if isNK x = true ∧ kvs.length < sizeMax then .ok .nx (S.set i (some (.dN, .dit (putD kvs x y)))) else .bad
  | none => .bad
end TB
namespace TB
end TB
namespace TB
/-- not promised -/
def eBad : E := fun _ => .bad
def sBad : St := fun _ => .bad
def truD : D → Option Bool
  | .non => some false
  | .bl b => some b
  | .int i => some (i != 0)
  | .str s => if s.length ≤ sizeMax then some ((s.length : Int) != 0) else none
  | .tup xs => some (!xs.isEmpty)
  | .lst xs => some (!xs.isEmpty)
  | _ => none
/-- x or y, x and y, as they are -/
def eOrV (a b : E) : E := M.bind (eDat a) fun x => match truD x with
  | some true => M.pure (.fz, x)
  | some false => b
  | none => eBad
def eAndV (a b : E) : E := M.bind (eDat a) fun x => match truD x with
  | some true => b
  | some false => M.pure (.fz, x)
  | none => eBad
def fNotInN (x y : D) : Option KD := match y with
  | .lst ys => if (x.lay 60 && D.lays 60 ys) = true then kz (.bl (!ys.any fun y => D.eqv y x)) else none
  | _ => none
def fNotInB : D → D → Option KD := fOr fNotInA fNotInN
end TB
namespace TB
/-- sorted(d.items()), d by texts, numbers -/
def pairD (p : D × D) : D := .tup [p.1, p.2]
end TB
namespace TB
def fSortN1 : List D → Option KD
  | [d] => fSortN d
  | _ => none
/-- comparable: of one kind up to the first place that differs -/
def wkDs : List D → List D → Bool
  | x :: xs, y :: ys => if D.eqv x y = true then wkDs xs ys else D.alk x y
  | _, _ => true
def wkD : D → D → Bool
  | .tup (x :: xs), .tup (y :: ys) => D.alk x y && wkDs (x :: xs) (y :: ys)
  | _, _ => false
def D.isTupH : D → Bool
  | .tup (.int _ :: _) => true
  | .tup (.str _ :: _) => true
  | .tup (.bl _ :: _) => true
  | _ => false
def sortWk (ds : List D) : Bool := ds.all D.isTupH && ds.all (fun d => ds.all (wkD d)) && D.lays 60 ds
def fSortW : List D → Option KD
  | [.lst xs] => if sortWk xs = true ∧ xs.length ≤ sizeMax then some (.li .fz, .lst (sortD xs)) else none
  | _ => none
def fSortNW : List D → Option KD
  | [.dit kvs] => if sortWk (kvs.map (·.1)) = true then some (.li .fz, .lst (sortD (kvs.map (·.1)))) else none
  | _ => none
def fSortedB : List D → Option KD := fOr1 fSortedA (fOr1 fSortN1 (fOr1 fSortW fSortNW))
end TB
namespace TB
end TB
namespace TB
def fSum : List D → Option KD
  | [.lst xs] => (intsOf xs).bind fun is => kz (.int is.sum)
  | [.tup xs] => (intsOf xs).bind fun is => kz (.int is.sum)
  | _ => none
def pairKV : D → Option (D × D)
  | .tup [k, v] => if isKey k = true then some (k, v) else none
  | _ => none
def pairsKV : List D → Option (List (D × D))
  | [] => some []
  | d :: ds => (pairKV d).bind fun p => (pairsKV ds).map (p :: ·)
def mergeD (kvs more : List (D × D)) : List (D × D) := more.foldl (fun acc p => putD acc p.1 p.2) kvs
/-- dict(pairs) -/
def fDictL : List D → Option KD
  | [.lst ds] => (pairsKV ds).bind fun kvs => some (.dK .fz, .dic (mergeD [] kvs))
  | _ => none
/-- d.get(k, z) of a frozen dict -/
def fGet3 : D → D → D → Option KD
  | .dic kvs, x, z => if isKey x = true then kz ((valD kvs x).getD z) else none
  | _, _, _ => none
def fNget3 : D → D → D → Option KD
  | .dit kvs, x, z => if isNK x = true then kz ((valD kvs x).getD z) else none
  | _, _, _ => none
def D.isDic : D → Bool
  | .dic _ => true
  | _ => false
def D.isDit : D → Bool
  | .dit _ => true
  | _ => false
def eGet3 (a b c : E) : E := M.bind (eDat a) fun x => if x.isDic = true then M.bind (eDat b) fun y => M.bind (eDat c) fun z => ofO (fGet3 x y z) else eBad
def eNget3 (a b c : E) : E := M.bind (eDat a) fun x => if x.isDit = true then M.bind (eDat b) fun y => M.bind (eDat c) fun z => ofO (fNget3 x y z) else eBad
/-- enumerate: pairs -/
def enumL : Nat → List D → List D
  | _, [] => []
  | i, d :: ds => .tup [.int i, d] :: enumL (i + 1) ds
def itEnum (e : E) : It := M.bind (eDat e) fun d => match itemsOf d with
  | some xs => M.pure (enumL 0 xs)
  | none => fun _ => .bad
/-- xs.extend(ys) -/
def fExtend : List D → List D → Option (D × List D)
  | xs, [.lst ys] => if xs.length + ys.length ≤ sizeMax then some (.non, xs ++ ys) else none
  | _, _ => none
end TB
namespace TB
def sRaise (c : Nat) : St := fun S => .exc ⟨c, .non⟩ S
def raiI (c : Nat) : D → St
  | .int i => fun S => .exc ⟨c, .int i⟩ S
  | _ => sBad
def sRaiseI (c : Nat) (e : E) : St := M.bind (eDat e) (raiI c)
/-- the classes of refusals: 10 TuckError, 11 NoForm, 12 NotNow, 13 NoBook, 14 NoShop, 15 NoRows, 16 NoRow, 17 NoDebts, 18 NoLine, 19 Twice, 20 NotThere, 21 NothingLeft, 22 NoText, 23 TooMany -/
def xLow : List Nat := [13, 14, 15, 16, 17, 18, 22]
def xSub (c t : Nat) : Bool := c == t || t == 10 || (t == 11 && xLow.contains c) || (t == 12 && [19, 20, 21, 23].contains c)
/-- what the clause writes: flat data, or a tuple of such -/
inductive Rs where
  | one (d : D) | tup (ds : List D)
def Rs.d : Rs → D
  | .one d => d
  | .tup ds => .tup ds
def Rs.ok : Rs → Bool
  | .one d => d.flat
  | .tup ds => ds.all D.flat && decide (ds.length ≤ 8)
/-- one clause: its class, the slot of its name, the slot that is written, what is written -/
structure Cl where
  t : Nat
  i : Nat
  j : Nat
  r : Xc → Rs
def itLdc (i : Nat) : It := fun S => match S[i]? with
  | some (some (.fz, .ldc kvs)) => .ok (kvs.map (·.1)) S
  | _ => .bad
def fGetL : D → D → Option KD
  | .ldc kvs, x => if isKey x = true then (valD kvs x).bind kz else none
  | _, _ => none
def eLockLI (i : Nat) (e : E) : E := fun S => match S[i]? with
  | some (some (.dK .fz, .dic kvs)) => (match e ((S.map frz).set i (some (.fz, .ldc kvs))) with
    | .ok (.li .fz, .lst ds) _ => if D.imms ds = true then .ok (.li .fz, .lst ds) S else .bad
    | _ => .bad)
  | _ => .bad
end TB
namespace TB
open PySem L2
/-- what the top has written, by numbers: classes, their fields, constants -/
structure Cfg where
  K : PySem.W.Frag
  ca : Nat → Addr
  cn : Nat → List PySem.Str
  fa : Nat → Addr
  w : World
/-- .. and of one body: the slots that stay as they were at the start -/
structure Cfgx extends Cfg where
  pk : List Nat
  pv : Nat → Option V
instance : Coe Cfgx Cfg := ⟨Cfgx.toCfg⟩
def keyD : Key → D
  | .inl i => .int i
  | .inr z => .str z.cps.toList
mutual
/-- a key of numbers, texts and tuples of such -/
def nkD : NestedKey → D
  | .none => .non
  | .num i => .int i
  | .text z => .str z.cps.toList
  | .tup ks => .tup (nkDs ks)
def nkDs : List NestedKey → List D
  | [] => []
  | k :: ks => nkD k :: nkDs ks
end
/-- the dict whose keys are nested: key, its tuple, the value -/
def NDO (w : World) (a : Addr) (xs : List (NestedKey × Addr × V)) : HO := .ext fun h => (a == sysModules) = false ∧ xs.length ≤ sizeLine ∧ (∀ x ∈ xs, x.1.depth ≤ 8) ∧ ∃ us : List (NestedKey × Addr × Value),
  Paired (fun (p : NestedKey × Addr × V) (q : NestedKey × Addr × Value) => p.1 = q.1 ∧ p.2.1 = q.2.1 ∧ RelV p.2.2 q.2.2) xs us ∧
  ∃ o es ep, h.get? a = some o ∧ o.ExactDict ∧ o.data = .dict es ep ∧ es.toList = us.map (fun x => (⟨NestedKey.hash w x.1, .ref x.2.1, x.2.2⟩ : DictEntry)) ∧ (us.map (·.1)).Nodup
mutual
inductive Rep (G : Cfg) (F : Hp) : V → D → Prop
  | non : Rep G F .non .non
  | bl (b : Bool) : Rep G F (.bl b) (.bl b)
  | int (i : Int) : Rep G F (.int i) (.int i)
  | str (z : PySem.Str) : Rep G F (.str z) (.str z.cps.toList)
  | tup {a : Addr} {vs : List V} {ds : List D} : SqT G.K F a vs → Reps G F vs ds → Rep G F (.ref a) (.tup ds)
  | scr {a : Addr} {ns : List Int} : SqL G.K F a (ns.map V.int) → Rep G F (.ref a) (.scr ns)
  | lst {a : Addr} {vs : List V} {ds : List D} : F a = some (.lst vs) → Reps G F vs ds → Rep G F (.ref a) (.lst ds)
  | dK {a : Addr} {kvs : List (Key × V)} {kds : List (D × D)} : Rd F a (.dK kvs) → kds.map (·.1) = kvs.map (fun p => keyD p.1) → Reps G F (kvs.map (·.2)) (kds.map (·.2)) → Rep G F (.ref a) (.dic kds)
  | dN {a : Addr} {xs : List (NestedKey × Addr × V)} {kds : List (D × D)} : Rd F a (NDO G.w a xs) → kds.map (·.1) = xs.map (fun x => nkD x.1) → Reps G F (xs.map fun x => .ref x.2.1) (kds.map (·.1)) → Reps G F (xs.map (·.2.2)) (kds.map (·.2)) → Rep G F (.ref a) (.dit kds)
  | ldc {a : Addr} {o : Obj} {kvs : List (Key × V)} {kds : List (D × D)} : F a = some (.frz o (.dK kvs)) → kds.map (·.1) = kvs.map (fun p => keyD p.1) → Reps G F (kvs.map (·.2)) (kds.map (·.2)) → Rep G F (.ref a) (.ldc kds)
  | ob {a dx : Addr} {c : Nat} {fs : List (PySem.Str × V)} {ds : List D} : F a = some (.ins (G.ca c) dx fs) → fs.map (·.1) = (G.cn c).take ds.length → Reps G F (fs.map (·.2)) ds → Rep G F (.ref a) (.ob c ds)
  | fn (k : Nat) : Rep G F (.ref (G.fa k)) (.fn k)
inductive Reps (G : Cfg) (F : Hp) : List V → List D → Prop
  | nil : Reps G F [] []
  | cons {v : V} {d : D} {vs : List V} {ds : List D} : Rep G F v d → Reps G F vs ds → Reps G F (v :: vs) (d :: ds)
end
/-- how often an address is owned -/
abbrev Cnt := Addr → Nat
def one (a : Addr) : Cnt := fun b => if b = a then 1 else 0
def nil0 : Cnt := fun _ => 0
def add (f g : Cnt) : Cnt := fun a => f a + g a
mutual
inductive Own (G : Cfg) (F H : Hp) : Kd → V → D → Cnt → Prop
  | fz {v : V} {d : D} : Rep G F v d → Own G F H .fz v d nil0
  | li {k : Kd} {a : Addr} {vs : List V} {ds : List D} {g : Cnt} : H a = some (.lst vs) → Owns G F H k vs ds g → Own G F H (.li k) (.ref a) (.lst ds) (add (one a) g)
  | dK {k : Kd} {a : Addr} {kvs : List (Key × V)} {kds : List (D × D)} {g : Cnt} : H a = some (.dK kvs) → kds.map (·.1) = kvs.map (fun p => keyD p.1) → Owns G F H k (kvs.map (·.2)) (kds.map (·.2)) g → Own G F H (.dK k) (.ref a) (.dic kds) (add (one a) g)
  | dR {ks : List Kd} {a : Addr} {kvs : List (Key × V)} {kds : List (D × D)} {g : Cnt} : H a = some (.dK kvs) → kds.map (·.1) = kvs.map (fun p => keyD p.1) → OwnL G F H ks (kvs.map (·.2)) (kds.map (·.2)) g → Own G F H (.dR ks) (.ref a) (.dic kds) (add (one a) g)
  | dN {a : Addr} {xs : List (NestedKey × Addr × V)} {kds : List (D × D)} : H a = some (NDO G.w a xs) → kds.map (·.1) = xs.map (fun x => nkD x.1) → Reps G F (xs.map fun x => .ref x.2.1) (kds.map (·.1)) → Reps G F (xs.map (·.2.2)) (kds.map (·.2)) → Own G F H .dN (.ref a) (.dit kds) (add (one a) nil0)
  | ob {ks : List Kd} {a dx : Addr} {c : Nat} {fs : List (PySem.Str × V)} {ds : List D} {g : Cnt} : H a = some (.ins (G.ca c) dx fs) → fs.map (·.1) = (G.cn c).take ds.length → OwnL G F H ks (fs.map (·.2)) ds g → Own G F H (.ob ks) (.ref a) (.ob c ds) (add (one a) g)
inductive Owns (G : Cfg) (F H : Hp) : Kd → List V → List D → Cnt → Prop
  | nil {k : Kd} : Owns G F H k [] [] nil0
  | cons {k : Kd} {v : V} {d : D} {vs : List V} {ds : List D} {f g : Cnt} : Own G F H k v d f → Owns G F H k vs ds g → Owns G F H k (v :: vs) (d :: ds) (add f g)
inductive OwnL (G : Cfg) (F H : Hp) : List Kd → List V → List D → Cnt → Prop
  | nil : OwnL G F H [] [] [] nil0
  | cons {k : Kd} {ks : List Kd} {v : V} {d : D} {vs : List V} {ds : List D} {f g : Cnt} : Own G F H k v d f → OwnL G F H ks vs ds g → OwnL G F H (k :: ks) (v :: vs) (d :: ds) (add f g)
end
/-- a tuple stands there -/
def TupAt (o : Option HO) : Prop := (∃ xs, o = some (.tup xs)) ∨ ∃ u xs, o = some (.frz u (.tup xs))
theorem same_rd {F F' : Hp} {a : Addr} {u : HO} (e : Same F F') (h : Rd F a u) : Rd F' a u := by
  rcases h with h | ⟨o, h⟩
  · exact .inl (e _ _ h)
  · exact .inr ⟨o, e _ _ h⟩
theorem same_t {K : PySem.W.Frag} {F F' : Hp} {a : Addr} {xs : List V} (e : Same F F') (h : SqT K F a xs) : SqT K F' a xs := h.elim (fun h => .inl (same_rd e h)) .inr
theorem same_l {K : PySem.W.Frag} {F F' : Hp} {a : Addr} {xs : List V} (e : Same F F') (h : SqL K F a xs) : SqL K F' a xs := h.elim (fun h => .inl (same_rd e h)) .inr
section
variable {G : Cfg} {F F' H H' : Hp}
mutual
theorem Rep.mono (e : Same F F') : ∀ {v : V} {d : D}, Rep G F v d → Rep G F' v d
  | _, _, .non => .non
  | _, _, .bl b => .bl b
  | _, _, .int i => .int i
  | _, _, .str z => .str z
  | _, _, .tup h r => .tup (same_t e h) (Reps.mono e r)
  | _, _, .scr h => .scr (same_l e h)
  | _, _, .lst h r => .lst (e _ _ h) (Reps.mono e r)
  | _, _, .dK h k r => .dK (same_rd e h) k (Reps.mono e r)
  | _, _, .dN h k q r => .dN (same_rd e h) k (Reps.mono e q) (Reps.mono e r)
  | _, _, .ldc h k r => .ldc (e _ _ h) k (Reps.mono e r)
  | _, _, .ob h k r => .ob (e _ _ h) k (Reps.mono e r)
  | _, _, .fn k => .fn k
theorem Reps.mono (e : Same F F') : ∀ {vs : List V} {ds : List D}, Reps G F vs ds → Reps G F' vs ds
  | _, _, .nil => .nil
  | _, _, .cons h r => .cons (Rep.mono e h) (Reps.mono e r)
end
mutual
theorem Own.mono (e : Same F F') : ∀ {k : Kd} {v : V} {d : D} {f : Cnt}, Own G F H k v d f → (∀ a o, f a ≠ 0 → H a = some o → H' a = some o) → Own G F' H' k v d f
  | _, _, _, _, .fz h, _ => .fz (Rep.mono e h)
  | _, _, _, _, .li (g := g) h r, m => .li (m _ _ (by simp [add, one]) h) (Owns.mono e r fun a o n => m a o (by simp only [add]; omega))
  | _, _, _, _, .dK (g := g) h k r, m => .dK (m _ _ (by simp [add, one]) h) k (Owns.mono e r fun a o n => m a o (by simp only [add]; omega))
  | _, _, _, _, .dR (g := g) h k r, m => .dR (m _ _ (by simp [add, one]) h) k (OwnL.mono e r fun a o n => m a o (by simp only [add]; omega))
  | _, _, _, _, .dN h k q r, m => .dN (m _ _ (by simp [add, one]) h) k (Reps.mono e q) (Reps.mono e r)
  | _, _, _, _, .ob (g := g) h k r, m => .ob (m _ _ (by simp [add, one]) h) k (OwnL.mono e r fun a o n => m a o (by simp only [add]; omega))
theorem Owns.mono (e : Same F F') : ∀ {k : Kd} {vs : List V} {ds : List D} {f : Cnt}, Owns G F H k vs ds f → (∀ a o, f a ≠ 0 → H a = some o → H' a = some o) → Owns G F' H' k vs ds f
  | _, _, _, _, .nil, _ => .nil
  | _, _, _, _, .cons h r, m => .cons (Own.mono e h fun a o n => m a o (by simp only [add]; omega)) (Owns.mono e r fun a o n => m a o (by simp only [add]; omega))
theorem OwnL.mono (e : Same F F') : ∀ {k : List Kd} {vs : List V} {ds : List D} {f : Cnt}, OwnL G F H k vs ds f → (∀ a o, f a ≠ 0 → H a = some o → H' a = some o) → OwnL G F' H' k vs ds f
  | _, _, _, _, .nil, _ => .nil
  | _, _, _, _, .cons h r, m => .cons (Own.mono e h fun a o n => m a o (by simp only [add]; omega)) (OwnL.mono e r fun a o n => m a o (by simp only [add]; omega))
end
mutual
/-- what is owned, looked at as frozen -/
theorem Own.rep (e : Same F H) : ∀ {k : Kd} {v : V} {d : D} {f : Cnt}, Own G F H k v d f → Rep G H v d
  | _, _, _, _, .fz h => Rep.mono e h
  | _, _, _, _, .li h r => .lst h (Owns.rep e r)
  | _, _, _, _, .dK h k r => .dK (.inl h) k (Owns.rep e r)
  | _, _, _, _, .dR h k r => .dK (.inl h) k (OwnL.rep e r)
  | _, _, _, _, .dN h k q r => .dN (.inl h) k (Reps.mono e q) (Reps.mono e r)
  | _, _, _, _, .ob h k r => .ob h k (OwnL.rep e r)
theorem Owns.rep (e : Same F H) : ∀ {k : Kd} {vs : List V} {ds : List D} {f : Cnt}, Owns G F H k vs ds f → Reps G H vs ds
  | _, _, _, _, .nil => .nil
  | _, _, _, _, .cons h r => .cons (Own.rep e h) (Owns.rep e r)
theorem OwnL.rep (e : Same F H) : ∀ {k : List Kd} {vs : List V} {ds : List D} {f : Cnt}, OwnL G F H k vs ds f → Reps G H vs ds
  | _, _, _, _, .nil => .nil
  | _, _, _, _, .cons h r => .cons (Own.rep e h) (OwnL.rep e r)
end
mutual
theorem Own.there : ∀ {k : Kd} {v : V} {d : D} {f : Cnt}, Own G F H k v d f → ∀ a, f a ≠ 0 → H a ≠ none
  | _, _, _, _, .fz _, _, n => absurd rfl n
  | _, _, _, _, .li (a := b) (g := g) h r, a, n => by
    by_cases q : a = b
    · rw [q, h]; simp
    · exact Owns.there r a (by simp only [add, one, if_neg q] at n; omega)
  | _, _, _, _, .dK (a := b) (g := g) h _ r, a, n => by
    by_cases q : a = b
    · rw [q, h]; simp
    · exact Owns.there r a (by simp only [add, one, if_neg q] at n; omega)
  | _, _, _, _, .dR (a := b) (g := g) h _ r, a, n => by
    by_cases q : a = b
    · rw [q, h]; simp
    · exact OwnL.there r a (by simp only [add, one, if_neg q] at n; omega)
  | _, _, _, _, .dN (a := b) h _ _ _, a, n => by
    by_cases q : a = b
    · rw [q, h]; simp
    · exact absurd n (by simp [add, one, if_neg q, nil0])
  | _, _, _, _, .ob (a := b) (g := g) h _ r, a, n => by
    by_cases q : a = b
    · rw [q, h]; simp
    · exact OwnL.there r a (by simp only [add, one, if_neg q] at n; omega)
theorem Owns.there : ∀ {k : Kd} {vs : List V} {ds : List D} {f : Cnt}, Owns G F H k vs ds f → ∀ a, f a ≠ 0 → H a ≠ none
  | _, _, _, _, .nil, _, n => absurd rfl n
  | _, _, _, _, .cons (f := f) (g := g) h r, a, n => by
    by_cases q : f a = 0
    · exact Owns.there r a (by simp only [add] at n; omega)
    · exact Own.there h a q
theorem OwnL.there : ∀ {k : List Kd} {vs : List V} {ds : List D} {f : Cnt}, OwnL G F H k vs ds f → ∀ a, f a ≠ 0 → H a ≠ none
  | _, _, _, _, .nil, _, n => absurd rfl n
  | _, _, _, _, .cons (f := f) (g := g) h r, a, n => by
    by_cases q : f a = 0
    · exact OwnL.there r a (by simp only [add] at n; omega)
    · exact Own.there h a q
end
mutual
/-- nobody owns a tuple -/
theorem Own.noT : ∀ {k : Kd} {v : V} {d : D} {f : Cnt}, Own G F H k v d f → ∀ a, f a ≠ 0 → ¬ TupAt (H a)
  | _, _, _, _, .fz _, _, n => absurd rfl n
  | _, _, _, _, .li (a := b) (g := g) h r, a, n => by
    by_cases q : a = b
    · rw [q, h]; rintro (⟨_, z⟩ | ⟨_, _, z⟩) <;> cases z
    · exact Owns.noT r a (by simp only [add, one, if_neg q] at n; omega)
  | _, _, _, _, .dK (a := b) (g := g) h _ r, a, n => by
    by_cases q : a = b
    · rw [q, h]; rintro (⟨_, z⟩ | ⟨_, _, z⟩) <;> cases z
    · exact Owns.noT r a (by simp only [add, one, if_neg q] at n; omega)
  | _, _, _, _, .dR (a := b) (g := g) h _ r, a, n => by
    by_cases q : a = b
    · rw [q, h]; rintro (⟨_, z⟩ | ⟨_, _, z⟩) <;> cases z
    · exact OwnL.noT r a (by simp only [add, one, if_neg q] at n; omega)
  | _, _, _, _, .dN (a := b) h _ _ _, a, n => by
    by_cases q : a = b
    · rw [q, h]; rintro (⟨_, z⟩ | ⟨_, _, z⟩) <;> simp [NDO] at z
    · exact absurd n (by simp [add, one, if_neg q, nil0])
  | _, _, _, _, .ob (a := b) (g := g) h _ r, a, n => by
    by_cases q : a = b
    · rw [q, h]; rintro (⟨_, z⟩ | ⟨_, _, z⟩) <;> cases z
    · exact OwnL.noT r a (by simp only [add, one, if_neg q] at n; omega)
theorem Owns.noT : ∀ {k : Kd} {vs : List V} {ds : List D} {f : Cnt}, Owns G F H k vs ds f → ∀ a, f a ≠ 0 → ¬ TupAt (H a)
  | _, _, _, _, .nil, _, n => absurd rfl n
  | _, _, _, _, .cons (f := f) (g := g) h r, a, n => by
    by_cases q : f a = 0
    · exact Owns.noT r a (by simp only [add] at n; omega)
    · exact Own.noT h a q
theorem OwnL.noT : ∀ {k : List Kd} {vs : List V} {ds : List D} {f : Cnt}, OwnL G F H k vs ds f → ∀ a, f a ≠ 0 → ¬ TupAt (H a)
  | _, _, _, _, .nil, _, n => absurd rfl n
  | _, _, _, _, .cons (f := f) (g := g) h r, a, n => by
    by_cases q : f a = 0
    · exact OwnL.noT r a (by simp only [add] at n; omega)
    · exact Own.noT h a q
end
end
end TB
namespace TB
open PySem L2
inductive SlotOk (G : Cfg) (F H : Hp) : Option V → Slot → Cnt → Prop
  | no (v : Option V) : SlotOk G F H v none nil0
  | yes {k : Kd} {v : V} {d : D} {f : Cnt} : Own G F H k v d f → SlotOk G F H (some v) (some (k, d)) f
inductive Slots (G : Cfg) (F H : Hp) : L2.St → List Slot → Cnt → Prop
  | nil : Slots G F H [] [] nil0
  | cons {v : Option V} {s : Slot} {f g : Cnt} {σ : L2.St} {S : List Slot} : SlotOk G F H v s f → Slots G F H σ S g → Slots G F H (v :: σ) (s :: S) (add f g)
section
variable {G : Cfg} {F F' H H' : Hp} {σ : L2.St} {S : List Slot} {T T' : Cnt}
theorem SlotOk.mono (e : Same F F') {v : Option V} {s : Slot} {f : Cnt} (h : SlotOk G F H v s f) (m : ∀ a o, f a ≠ 0 → H a = some o → H' a = some o) : SlotOk G F' H' v s f := by
  cases h with
  | no v => exact .no v
  | yes h => exact .yes (h.mono e m)
theorem Slots.mono (e : Same F F') (h : Slots G F H σ S T) (m : ∀ a o, T a ≠ 0 → H a = some o → H' a = some o) : Slots G F' H' σ S T := by
  induction h with
  | nil => exact .nil
  | cons h _ ih => exact .cons (h.mono e fun a o n => m a o (by simp only [add]; omega)) (ih fun a o n => m a o (by simp only [add]; omega))
theorem Slots.cast (h : Slots G F H σ S T) (e : ∀ a, T a = T' a) : Slots G F H σ S T' := (show T = T' from funext e) ▸ h
theorem Own.cast {k : Kd} {v : V} {d : D} {f f' : Cnt} (h : Own G F H k v d f) (e : ∀ a, f a = f' a) : Own G F H k v d f' := (show f = f' from funext e) ▸ h
theorem Slots.len (h : Slots G F H σ S T) : σ.length = S.length := by
  induction h with
  | nil => rfl
  | cons _ _ ih => simp [ih]
theorem SlotOk.there {v : Option V} {s : Slot} {f : Cnt} (h : SlotOk G F H v s f) (a : Addr) (n : f a ≠ 0) : H a ≠ none := by
  cases h with
  | no v => exact absurd rfl n
  | yes h => exact h.there a n
theorem Slots.there (h : Slots G F H σ S T) (a : Addr) (n : T a ≠ 0) : H a ≠ none := by
  induction h with
  | nil => exact absurd rfl n
  | @cons _ _ f g _ _ h _ ih =>
    by_cases q : f a = 0
    · exact ih (by simp only [add] at n; omega)
    · exact h.there a q
theorem SlotOk.noT {v : Option V} {s : Slot} {f : Cnt} (h : SlotOk G F H v s f) (a : Addr) (n : f a ≠ 0) : ¬ TupAt (H a) := by
  cases h with
  | no v => exact absurd rfl n
  | yes h => exact h.noT a n
theorem Slots.noT (h : Slots G F H σ S T) (a : Addr) (n : T a ≠ 0) : ¬ TupAt (H a) := by
  induction h with
  | nil => exact absurd rfl n
  | @cons _ _ f g _ _ h _ ih =>
    by_cases q : f a = 0
    · exact ih (by simp only [add] at n; omega)
    · exact h.noT a q
/-- one slot taken out, another one put there -/
theorem Slots.at {i : Nat} {s : Slot} (h : Slots G F H σ S T) (e : S[i]? = some s) : ∃ v f T0, (∀ a, T a = f a + T0 a) ∧ σ[i]? = some v ∧ SlotOk G F H v s f ∧
    ∀ F' H' v' s' f', Same F F' → (∀ a o, T0 a ≠ 0 → H a = some o → H' a = some o) → SlotOk G F' H' v' s' f' → Slots G F' H' (σ.set i v') (S.set i s') (add f' T0) := by
  induction h generalizing i with
  | nil => simp at e
  | @cons v s1 f g σ S h r ih =>
    cases i with
    | zero =>
      have e1 : s1 = s := by simpa using e
      subst e1
      exact ⟨v, f, g, fun a => rfl, rfl, h, fun F' H' v' s' f' sf m h' => .cons h' (r.mono sf m)⟩
    | succ i =>
      have e1 : S[i]? = some s := by simpa using e
      obtain ⟨v2, f2, T0, ht, hv, ho, k⟩ := ih e1
      refine ⟨v2, f2, add f T0, fun a => by simp only [add]; have := ht a; omega, by simpa using hv, ho, fun F' H' v' s' f' sf m h' => ?_⟩
      have q := k F' H' v' s' f' sf (fun a o n => m a o (by simp only [add]; omega)) h'
      have q2 : Slots G F' H' (v :: σ.set i v') (s1 :: S.set i s') (add f (add f' T0)) := .cons (h.mono sf fun a o n => m a o (by simp only [add]; omega)) q
      have e3 : add f (add f' T0) = add f' (add f T0) := by funext a; simp only [add]; omega
      rw [e3] at q2
      simpa using q2
theorem Slots.var {i : Nat} {k : Kd} {d : D} (h : Slots G F H σ S T) (e : S[i]? = some (some (k, d))) : ∃ v f, σ[i]? = some (some v) ∧ Own G F H k v d f ∧ ∀ a, f a ≤ T a := by
  obtain ⟨v, f, T0, ht, hv, ho, _⟩ := h.at e
  cases ho with
  | yes ho => exact ⟨_, f, hv, ho, fun a => by have := ht a; omega⟩
end
/-- the state between two steps: F the frozen part of the heap, T what the slots own -/
structure St' (G : Cfgx) (F H : Hp) (σ : L2.St) (S : List Slot) (T : Cnt) : Prop where
  pi : ∀ i, i ∈ G.pk → σ[i]? = some (G.pv i)
  sub : Same F H
  sl : Slots G F H σ S T
  le : ∀ a, T a ≤ 1
  di : ∀ a, F a ≠ none → T a = 0
/-- what a step may do to the heap -/
structure Step (F H : Hp) (T : Cnt) (F' H' : Hp) (T' : Cnt) : Prop where
  sF : Same F F'
  fr : ∀ a o, T a = 0 → H a = some o → H' a = some o
  nT : ∀ a, T' a ≠ 0 → T a ≠ 0 ∨ H a = none
  nF : ∀ a, F a = none → F' a ≠ none → H a = none ∨ T a ≠ 0 ∨ TupAt (H a)
  tl : ∀ a, H a ≠ none → H' a ≠ none
theorem Step.refl (F H : Hp) (T : Cnt) : Step F H T F H T := ⟨Same.refl F, fun _ _ _ h => h, fun _ h => .inl h, fun _ h n => absurd h n, fun _ h => h⟩
theorem Step.trans {F H F1 H1 F2 H2 : Hp} {T T1 T2 : Cnt} (a : Step F H T F1 H1 T1) (b : Step F1 H1 T1 F2 H2 T2) : Step F H T F2 H2 T2 := by
  refine ⟨a.sF.trans b.sF, fun x o t h => ?_, fun x n => ?_, fun x h n => ?_, fun x h => b.tl x (a.tl x h)⟩
  · have h1 := a.fr x o t h
    refine b.fr x o ?_ h1
    by_cases q : T1 x = 0
    · exact q
    · rcases a.nT x q with z | z
      · exact absurd t z
      · rw [h] at z; cases z
  · rcases b.nT x n with z | z
    · exact a.nT x z
    · by_cases q : H x = none
      · exact .inr q
      · exact absurd z (a.tl x q)
  · by_cases q : F1 x = none
    · rcases b.nF x q n with z | z | z
      · by_cases q2 : H x = none
        · exact .inl q2
        · exact absurd z (a.tl x q2)
      · rcases a.nT x z with y | y
        · exact .inr (.inl y)
        · exact .inl y
      · cases q2 : H x with
        | none => exact .inl rfl
        | some o =>
          by_cases t : T x = 0
          · rw [a.fr x o t q2] at z; exact .inr (.inr z)
          · exact .inr (.inl t)
    · exact a.nF x h q
theorem Step.castL {F H F1 H1 : Hp} {T T' T1 : Cnt} (a : Step F H T F1 H1 T1) (e : ∀ x, T x = T' x) : Step F H T' F1 H1 T1 := (show T = T' from funext e) ▸ a
theorem Step.castR {F H F1 H1 : Hp} {T T1 T1' : Cnt} (a : Step F H T F1 H1 T1) (e : ∀ x, T1 x = T1' x) : Step F H T F1 H1 T1' := (show T1 = T1' from funext e) ▸ a
/-- less is owned afterwards -/
theorem Step.less {F H F1 H1 : Hp} {T T1 T2 : Cnt} (a : Step F H T F1 H1 T1) (e : ∀ x, T2 x ≤ T1 x) : Step F H T F1 H1 T2 := ⟨a.sF, a.fr, fun x n => a.nT x (by have := e x; omega), a.nF, a.tl⟩
/-- a part that is owned besides stays as it is -/
theorem Step.frame {F H F1 H1 : Hp} {T T1 R : Cnt} (a : Step F H T F1 H1 T1) (hT : ∀ x, T x + R x ≤ 1) (hR : ∀ x, R x ≠ 0 → H x ≠ none) : Step F H (add T R) F1 H1 (add T1 R) ∧ (∀ x, R x ≠ 0 → T1 x = 0) ∧ (∀ x o, R x ≠ 0 → H x = some o → H1 x = some o) := by
  have d : ∀ x, R x ≠ 0 → T x = 0 := fun x n => by have := hT x; omega
  refine ⟨⟨a.sF, fun x o t h => a.fr x o (by simp only [add] at t; omega) h, fun x n => ?_, fun x h n => (a.nF x h n).imp id fun z => z.imp (fun z => by simp only [add]; omega) id, a.tl⟩, fun x n => ?_, fun x o n h => a.fr x o (d x n) h⟩
  · by_cases q : T1 x = 0
    · exact .inl (by simp only [add] at n ⊢; omega)
    · exact (a.nT x q).imp (fun z => by simp only [add]; omega) id
  · by_cases q : T1 x = 0
    · exact q
    · rcases a.nT x q with z | z
      · exact absurd (d x n) z
      · exact absurd z (hR x n)
section
variable {G : Cfgx} {F F' H H' : Hp} {σ : L2.St} {S : List Slot} {T T' : Cnt}
theorem St'.noT (s : St' G F H σ S T) (a : Addr) (n : T a ≠ 0) : ¬ TupAt (H a) := s.sl.noT a n
theorem St'.there (s : St' G F H σ S T) (a : Addr) (n : T a ≠ 0) : H a ≠ none := s.sl.there a n
theorem St'.cast (s : St' G F H σ S T) (e : ∀ a, T a = T' a) : St' G F H σ S T' := (show T = T' from funext e) ▸ s
/-- a new object that nobody owns is frozen -/
theorem Step.newF {p : Addr} {o : HO} (hp : H p = none) (sub : Same F H) (nt : T p = 0) : Step F H T (upd F p o) (upd H p o) T := by
  have hf : F p = none := sub.free hp
  refine ⟨fun a u e => ?_, fun a u _ e => ?_, fun _ n => .inl n, fun a h n => ?_, fun a h => ?_⟩
  · rw [upd_ne (ne_of_none e hf)]; exact e
  · rw [upd_ne (ne_of_none e hp)]; exact e
  · by_cases q : a = p
    · rw [q]; exact .inl hp
    · rw [upd_ne q] at n; exact absurd h n
  · by_cases q : a = p
    · rw [q, upd_same]; simp
    · rw [upd_ne q]; exact h
/-- a new object, owned -/
theorem Step.newT {p : Addr} {o : HO} (hp : H p = none) : Step F H T F (upd H p o) (add T (one p)) := by
  refine ⟨Same.refl F, fun a u _ e => ?_, fun a n => ?_, fun a h n => absurd h n, fun a h => ?_⟩
  · rw [upd_ne (ne_of_none e hp)]; exact e
  · by_cases q : a = p
    · rw [q]; exact .inr hp
    · exact .inl (by simp only [add, one, if_neg q] at n; omega)
  · by_cases q : a = p
    · rw [q, upd_same]; simp
    · rw [upd_ne q]; exact h
/-- an owned object changed -/
theorem Step.put {p : Addr} {o : HO} (hp : T p ≠ 0) : Step F H T F (upd H p o) T := by
  refine ⟨Same.refl F, fun a u t e => ?_, fun a n => .inl n, fun a h n => absurd h n, fun a h => ?_⟩
  · rw [upd_ne (fun (q : a = p) => hp (by rw [← q]; exact t))]; exact e
  · by_cases q : a = p
    · rw [q, upd_same]; simp
    · rw [upd_ne q]; exact h
theorem St'.newF {p : Addr} {o : HO} (s : St' G F H σ S T) (hp : H p = none) : St' G (upd F p o) (upd H p o) σ S T ∧ Step F H T (upd F p o) (upd H p o) T := by
  have nt : T p = 0 := Decidable.byContradiction fun n => s.there p n hp
  have st := Step.newF (o := o) hp s.sub nt
  refine ⟨⟨s.pi, fun a u e => ?_, s.sl.mono st.sF fun a u n e => by rw [upd_ne (ne_of_none e hp)]; exact e, s.le, fun a n => ?_⟩, st⟩
  · by_cases q : a = p
    · rw [q, upd_same] at e ⊢; exact e
    · rw [upd_ne q] at e ⊢; exact s.sub _ _ e
  · by_cases q : a = p
    · rw [q]; exact nt
    · rw [upd_ne q] at n; exact s.di a n
theorem St'.newT {p : Addr} {o : HO} (s : St' G F H σ S T) (hp : H p = none) : St' G F (upd H p o) σ S T ∧ Step F H T F (upd H p o) (add T (one p)) ∧ (∀ a, T a + one p a ≤ 1) ∧ F p = none := by
  have nt : T p = 0 := Decidable.byContradiction fun n => s.there p n hp
  refine ⟨⟨s.pi, fun a u e => ?_, s.sl.mono (Same.refl F) fun a u n e => by rw [upd_ne (ne_of_none e hp)]; exact e, s.le, s.di⟩, Step.newT hp, fun a => ?_, s.sub.free hp⟩
  · rw [upd_ne (ne_of_none (s.sub _ _ e) hp)]; exact s.sub _ _ e
  · have := s.le a
    unfold one
    split
    · rename_i q; rw [q, nt]; omega
    · omega
end
end TB
namespace TB
open PySem L2
/-- an exception as it lies: no field, or a dict of its own with one number -/
def ExcR (G : Cfg) (x : Xc) (cls : Value) (dx : Option Addr) (H : Hp) : Prop :=
  cls = .ref (G.ca x.c) ∧ ((x.arg = .non ∧ dx = none) ∨ ∃ d i, x.arg = .int i ∧ dx = some d ∧ H d = some (.xd ((G.cn x.c).map fun n => (n, V.int i))))
def PX (G : Cfgx) (W : WX) (F H : Hp) (σ : L2.St) (T : Cnt) (x : Xc) (S' : List Slot) : Prop :=
  ∀ cls dx F' H' T', Step F H T F' H' T' → St' G F' H' σ S' T' → ExcR G x cls dx H' → W cls dx σ H'
def PR {α : Type} (G : Cfgx) (W : WX) (F H : Hp) (σ : L2.St) (T : Cnt) (K : α → List Slot → Prop) : R α → Prop
  | .ok a S => K a S
  | .exc x S => PX G W F H σ T x S
  | .bad => False
def KE (G : Cfgx) (F H : Hp) (σ : L2.St) (T : Cnt) (Q : VK) (kd : KD) (S' : List Slot) : Prop :=
  ∀ v F' H' T' f, Step F H T F' H' (add T' f) → St' G F' H' σ S' T' → Own G F' H' kd.1 v kd.2 f → (∀ a, T' a + f a ≤ 1) → (∀ a, F' a ≠ none → f a = 0) → Q v H'
def KDt (G : Cfgx) (F H : Hp) (σ : L2.St) (T : Cnt) (Q : VK) (d : D) (S' : List Slot) : Prop :=
  ∀ v F' H' T', Step F H T F' H' T' → St' G F' H' σ S' T' → Rep G F' v d → Q v H'
def KB (G : Cfgx) (F H : Hp) (σ : L2.St) (T : Cnt) (Q : Bool → Hp → Prop) (b : Bool) (S' : List Slot) : Prop :=
  ∀ F' H' T', Step F H T F' H' T' → St' G F' H' σ S' T' → Q b H'
def KL (G : Cfgx) (F H : Hp) (σ : L2.St) (T : Cnt) (Q : List V → Hp → Prop) (ds : List D) (S' : List Slot) : Prop :=
  ∀ vs F' H' T', Step F H T F' H' T' → St' G F' H' σ S' T' → Reps G F' vs ds → Q vs H'
section
variable {G : Cfgx} {W : WX} {F H F1 H1 : Hp} {σ : L2.St} {T T1 : Cnt} {α β : Type}
theorem PX.re {x : Xc} {S : List Slot} (s : Step F H T F1 H1 T1) (h : PX G W F H σ T x S) : PX G W F1 H1 σ T1 x S := fun cls dx F' H' T' s' st e => h cls dx F' H' T' (s.trans s') st e
theorem PR.bind {K1 : α → List Slot → Prop} {K2 : β → List Slot → Prop} {r : R α} {f : α → M β} (h : PR G W F H σ T K2 (r.bind f)) (k : ∀ a S, PR G W F H σ T K2 (f a S) → K1 a S) : PR G W F H σ T K1 r := by
  cases r with
  | ok a S => exact k a S h
  | exc x S => exact h
  | bad => exact h
theorem PR.re {K1 K2 : α → List Slot → Prop} {r : R α} (s : Step F H T F1 H1 T1) (k : ∀ a S, K1 a S → K2 a S) (h : PR G W F H σ T K1 r) : PR G W F1 H1 σ T1 K2 r := by
  cases r with
  | ok a S => exact k a S h
  | exc x S => exact PX.re s h
  | bad => exact h
theorem PR.imp {K1 K2 : α → List Slot → Prop} {r : R α} (k : ∀ a S, K1 a S → K2 a S) (h : PR G W F H σ T K1 r) : PR G W F H σ T K2 r := PR.re (Step.refl F H T) k h
theorem KE.re {Q : VK} {kd : KD} {S : List Slot} (s : Step F H T F1 H1 T1) (h : KE G F H σ T Q kd S) : KE G F1 H1 σ T1 Q kd S := fun v F' H' T' f s' st o l d => h v F' H' T' f (s.trans s') st o l d
theorem KDt.re {Q : VK} {d : D} {S : List Slot} (s : Step F H T F1 H1 T1) (h : KDt G F H σ T Q d S) : KDt G F1 H1 σ T1 Q d S := fun v F' H' T' s' st o => h v F' H' T' (s.trans s') st o
theorem KB.re {Q : Bool → Hp → Prop} {d : Bool} {S : List Slot} (s : Step F H T F1 H1 T1) (h : KB G F H σ T Q d S) : KB G F1 H1 σ T1 Q d S := fun F' H' T' s' st => h F' H' T' (s.trans s') st
theorem KL.re {Q : List V → Hp → Prop} {d : List D} {S : List Slot} (s : Step F H T F1 H1 T1) (h : KL G F H σ T Q d S) : KL G F1 H1 σ T1 Q d S := fun v F' H' T' s' st o => h v F' H' T' (s.trans s') st o
theorem PR.reE {Q : VK} {r : R KD} (s : Step F H T F1 H1 T1) (h : PR G W F H σ T (KE G F H σ T Q) r) : PR G W F1 H1 σ T1 (KE G F1 H1 σ T1 Q) r := PR.re s (fun _ _ => KE.re s) h
/-- data as it is, nothing changed -/
theorem KE.val {Q : VK} {d : D} {S : List Slot} {v : V} (h : KE G F H σ T Q (.fz, d) S) (st : St' G F H σ S T) (r : Rep G F v d) : Q v H :=
  h v F H T nil0 ((Step.refl F H T).castR fun a => rfl) st (.fz r) (fun a => st.le a) fun _ _ => rfl
/-- a new frozen object -/
theorem KE.newF {Q : VK} {d : D} {S : List Slot} {o : HO} (h : KE G F H σ T Q (.fz, d) S) (st : St' G F H σ S T) (r : ∀ p, Rep G (upd F p o) (.ref p) d ∨ F p ≠ none) (p : Addr) (hp : H p = none) : Q (.ref p) (upd H p o) := by
  obtain ⟨st2, s⟩ := st.newF (o := o) hp
  have hf : F p = none := st.sub.free hp
  exact h (.ref p) _ _ T nil0 (s.castR fun a => rfl) st2 (.fz ((r p).resolve_right fun n => n hf)) (fun a => st2.le a) fun _ _ => rfl
/-- a new list, owned -/
theorem KE.newL {Q : VK} {vs : List V} {ds : List D} {S : List Slot} (h : KE G F H σ T Q (.li .fz, .lst ds) S) (st : St' G F H σ S T) (r : Reps G F vs ds) (p : Addr) (hp : H p = none) : Q (.ref p) (upd H p (.lst vs)) := by
  obtain ⟨st2, s, le, fp⟩ := st.newT (o := .lst vs) hp
  have ow : ∀ {vs : List V} {ds : List D}, Reps G F vs ds → Owns G F (upd H p (.lst vs)) .fz vs ds nil0 ∧ ∀ H', Owns G F H' .fz vs ds nil0 := by
    intro vs ds r
    induction vs generalizing ds with
    | nil => cases r; exact ⟨.nil, fun _ => .nil⟩
    | cons v vs ih =>
      cases r with
      | cons r1 r2 => exact ⟨.cons (.fz r1) ((ih r2).2 _), fun H' => .cons (.fz r1) ((ih r2).2 H')⟩
  refine h (.ref p) F _ T (add (one p) nil0) (s.castR fun a => rfl) st2 (.li upd_same ((ow r).2 _)) (fun a => le a) fun a n => ?_
  show one p a + 0 = 0
  unfold one
  split
  · rename_i q; rw [q, fp] at n; exact absurd rfl n
  · rfl
theorem owns_fz {vs : List V} {ds : List D} (r : Reps G F vs ds) : Owns G F H .fz vs ds nil0 := by
  induction vs generalizing ds with
  | nil => cases r; exact .nil
  | cons v vs ih =>
    cases r with
    | cons r1 r2 => exact .cons (.fz r1) (ih r2)
theorem reps_fz {vs : List V} {ds : List D} {f : Cnt} (r : Owns G F H .fz vs ds f) : Reps G F vs ds ∧ f = nil0 := by
  induction vs generalizing ds f with
  | nil => cases r; exact ⟨.nil, rfl⟩
  | cons v vs ih =>
    cases r with
    | cons r1 r2 =>
      cases r1 with
      | fz r1 =>
        obtain ⟨a, b⟩ := ih r2
        subst b
        exact ⟨.cons r1 a, rfl⟩
end
def DenE (G : Cfgx) (W : WX) (t : TE) (m : E) : Prop := ∀ F H σ S T Q, St' G F H σ S T → PR G W F H σ T (KE G F H σ T Q) (m S) → t σ H Q
def DenD (G : Cfgx) (W : WX) (t : TE) (m : M D) : Prop := ∀ F H σ S T Q, St' G F H σ S T → PR G W F H σ T (KDt G F H σ T Q) (m S) → t σ H Q
def DenT (G : Cfgx) (W : WX) (t : TT) (m : T) : Prop := ∀ F H σ S T Q, St' G F H σ S T → PR G W F H σ T (KB G F H σ T Q) (m S) → t σ H Q
def DenA (G : Cfgx) (W : WX) (t : TA) (m : M (List D)) : Prop := ∀ F H σ S T Q, St' G F H σ S T → PR G W F H σ T (KL G F H σ T Q) (m S) → t σ H Q
def TrE (X : Cx) (G : Cfgx) (W : WX) (e : Expr) (m : E) : Prop := ∃ t, PE X e t ∧ DenE G W t m
def TrT (X : Cx) (G : Cfgx) (W : WX) (e : Expr) (m : T) : Prop := ∃ t, PT X e t ∧ DenT G W t m
def TrW (X : Cx) (G : Cfgx) (W : WX) (e : Expr) (m : T) : Prop := ∃ t, PW X e t ∧ DenT G W t m
def TrA (X : Cx) (G : Cfgx) (W : WX) (es : List Expr) (ms : List E) : Prop := ∃ t, PA X es t ∧ DenA G W t (eAll ms)
theorem takesN0 {X : Cx} : L2N.Takes X (fun _ _ _ _ => False) := fun _ _ z => by
  obtain ⟨_, _, _, _, _, _, _, _, _, _, _, _, _, _, _, _, z⟩ := z
  exact z.elim
/-- the context of a body -/
structure Cok (X : Cx) (G : Cfgx) (W : WX) (k : Nat) : Prop where
  hK : X.K = G.K
  tk : L2N.Takes X W
  po : PassesOwn (model X.prog X.w) X.A X.env X.xe
  calm : X.calm = true
  room : Room k X.A
  nd : X.N.Nodup
/-- an operation on two values -/
def S2 (G : Cfgx) (r : R2) (f : D → D → Option KD) : Prop := ∀ F H σ S T x y dx dy kd Q, St' G F H σ S T → Rep G F x dx → Rep G F y dy → f dx dy = some kd → KE G F H σ T Q kd S → r x y H Q
def S1 (G : Cfgx) (r : V → Hp → VK → Prop) (f : D → Option KD) : Prop := ∀ F H σ S T x dx kd Q, St' G F H σ S T → Rep G F x dx → f dx = some kd → KE G F H σ T Q kd S → r x H Q
def SN (G : Cfgx) (r : List V → Hp → VK → Prop) (f : List D → Option KD) : Prop := ∀ F H σ S T xs dxs kd Q, St' G F H σ S T → Reps G F xs dxs → f dxs = some kd → KE G F H σ T Q kd S → r xs H Q
/-- what a temporary owns becomes frozen -/
theorem freeze_core {G : Cfgx} {F H F' H' : Hp} {σ : L2.St} {S : List Slot} {T T' f : Cnt} {k : Kd} {v : V} {d : D} (s' : Step F H T F' H' (add T' f)) (st' : St' G F' H' σ S T') (o : Own G F' H' k v d f) (le : ∀ a, T' a + f a ≤ 1) (di : ∀ a, F' a ≠ none → f a = 0) :
    ∃ F2, Step F H T F2 H' T' ∧ St' G F2 H' σ S T' ∧ Rep G F2 v d ∧ Same F' F2 := by
  have hO : Same F' H' := st'.sub
  let F2 : Hp := fun a => if f a = 0 then F' a else H' a
  have sf : Same F' F2 := fun a o e => by
    show (if f a = 0 then F' a else H' a) = some o
    rw [if_pos (di a (by rw [e]; simp))]; exact e
  have sub2 : Same F2 H' := fun a o e => by
    have e : (if f a = 0 then F' a else H' a) = some o := e
    by_cases z : f a = 0
    · rw [if_pos z] at e; exact hO _ _ e
    · rw [if_neg z] at e; exact e
  have ff : ∀ a, f a ≠ 0 → F2 a = H' a := fun a n => if_neg n
  have rp : ∀ {k : Kd} {v : V} {d : D} {g : Cnt}, Own G F' H' k v d g → (∀ a, g a ≤ f a) → Own G F2 F2 k v d g := fun o l => o.mono sf fun a u n e => by
    rw [ff a (by have := l a; omega)]; exact e
  have r2 : Rep G F2 v d := (rp o fun a => Nat.le_refl _).rep (Same.refl F2)
  refine ⟨F2, ⟨s'.sF.trans sf, s'.fr, fun a n => s'.nT a (by simp only [add]; omega), fun a h n => ?_, s'.tl⟩, ⟨st'.pi, sub2, st'.sl.mono sf fun _ _ _ h => h, st'.le, fun a n => ?_⟩, r2, sf⟩
  · by_cases z : f a = 0
    · refine s'.nF a h ?_
      have n : (if f a = 0 then F' a else H' a) ≠ none := n
      rwa [if_pos z] at n
    · exact ((s'.nT a (by simp only [add]; omega)).symm).imp id .inl
  · have n : (if f a = 0 then F' a else H' a) ≠ none := n
    by_cases z : f a = 0
    · rw [if_pos z] at n; exact st'.di a n
    · have := le a; omega
theorem KDt.freeze {G : Cfgx} {F H : Hp} {σ : L2.St} {T : Cnt} {Q : VK} {kd : KD} {S : List Slot} (q : KDt G F H σ T Q kd.2 S) : KE G F H σ T Q kd S := fun v F' H' T' f s' st' o le di => by
  obtain ⟨F2, s2, st2, r2, _⟩ := freeze_core s' st' o le di
  exact q v F2 H' T' s2 st2 r2
section
variable {X : Cx} {G : Cfgx} {W : WX} {k : Nat}
theorem DenE.dat {t : TE} {m : E} (h : DenE G W t m) : DenD G W t (eDat m) := fun F H σ S T Q st p =>
  h F H σ S T Q st (PR.bind (f := fun kd => M.pure kd.2) p fun kd S1 q => KDt.freeze (show KDt G F H σ T Q kd.2 S1 from q))
theorem tr_var (i : Nat) {x : PySem.Str} {pos : Pos} (hN : X.N[i]? = some x := by rfl) (hv : Vis X.env.scope x := by first | exact Or.inl rfl | exact Or.inr (Or.inl rfl) | exact Or.inr (Or.inr rfl)) (hd : (x == ("__debug__" : PySem.Str)) = false := by decide)
    (hcd : (x == ("__classdict__" : PySem.Str)) = false := by decide) : TrE X G W (.Name x pos) (eVar i) := by
  refine ⟨_, pe_var hN hv hd hcd, fun F H σ S T Q st p => ?_⟩
  unfold eVar at p
  cases e : S[i]? with
  | none => rw [e] at p; exact p.elim
  | some s =>
    rw [e] at p
    cases s with
    | none => exact p.elim
    | some kd =>
      obtain ⟨kk, d⟩ := kd
      cases kk with
      | fz =>
        obtain ⟨v, f, hv, o, _⟩ := st.sl.var e
        cases o with
        | fz r => exact ⟨v, hv, KE.val p st r⟩
      | _ => exact p.elim
theorem tr_int {i : Int} {j} {pos : Pos} : TrE X G W (.Constant (.int i) j pos) (eCon (.int i)) := ⟨_, pe_int, fun F H σ S T Q st p => KE.val p st (.int i)⟩
theorem tr_bl {b : Bool} {j} {pos : Pos} : TrE X G W (.Constant (.bool b) j pos) (eCon (.bl b)) := ⟨_, pe_bl, fun F H σ S T Q st p => KE.val p st (.bl b)⟩
theorem tr_str {z : PySem.Str} {j} {pos : Pos} (s : List Nat) (hs : z.cps.toList = s := by rfl) : TrE X G W (.Constant (.str z) j pos) (eCon (.str s)) := ⟨_, pe_str, fun F H σ S T Q st p => KE.val p st (hs ▸ .str z)⟩
/-- a constant of the module -/
theorem tr_glob {x : PySem.Str} {v : V} {u : Value} {pos : Pos} {d : D} (hm : X.mg x = some u) (r : RelV v u) (rep : ∀ F, Rep G F v d) (hg : Gl X x := by rfl) (hd : (x == ("__debug__" : PySem.Str)) = false := by decide) : TrE X G W (.Name x pos) (eCon d) :=
  ⟨_, pe_glob hg hm r hd, fun F H σ S T Q st p => KE.val p st (rep F)⟩
theorem tr_fr {e : Expr} {m : E} (h : TrE X G W e m) : TrE X G W e (eFr m) := by
  obtain ⟨t, hp, hd⟩ := h
  refine ⟨t, hp, fun F H σ S T Q st p => ?_⟩
  refine hd F H σ S T Q st (PR.bind (f := fun kd => M.pure ((.fz, kd.2) : KD)) p fun kd S1 q => KDt.freeze fun v F' H' T' s' st' r => ?_)
  exact (show KE G F H σ T Q (.fz, kd.2) S1 from q) v F' H' T' nil0 (s'.castR fun a => rfl) st' (.fz r) (fun a => st'.le a) fun _ _ => rfl
theorem slots_frz {F H : Hp} {σ : L2.St} {S : List Slot} {T : Cnt} (e : Same F H) (h : Slots G F H σ S T) : Slots G H H σ (S.map frz) nil0 := by
  induction h with
  | nil => exact .nil
  | @cons v s f g σ S h r ih =>
    have : Slots G H H (v :: σ) (frz s :: S.map frz) (add nil0 nil0) := by
      refine .cons ?_ ih
      cases h with
      | no v => exact .no v
      | yes o => exact .yes (.fz (o.rep e))
    exact this
theorem tra_nil : TrA X G W [] [] := ⟨_, pa_nil, fun F H σ S T Q st p => by
  have p : KL G F H σ T Q [] S := p
  exact p [] F H T (Step.refl F H T) st .nil⟩
theorem tra_cons {e : Expr} {es : List Expr} {m : E} {ms : List E} (h : TrE X G W e m) (r : TrA X G W es ms) (hs : starEach (e :: es) X.env = (false, eval e X.env) :: starEach es X.env := by rfl) : TrA X G W (e :: es) (m :: ms) := by
  obtain ⟨t, hp, hd⟩ := h
  obtain ⟨u, hq, hu⟩ := r
  refine ⟨_, pa_cons hp hq hs, fun F H σ S T Q st p => ?_⟩
  refine DenE.dat hd F H σ S T _ st (PR.bind p fun d S1 q => ?_)
  intro v F1 H1 T1 s1 st1 r1
  refine hu F1 H1 σ S1 T1 _ st1 (PR.bind (PR.re s1 (fun _ _ h => h) q) fun ds S2 q2 => ?_)
  intro vs F2 H2 T2 s2 st2 r2
  have q2 : KL G F H σ T Q (d :: ds) S2 := q2
  exact q2 (v :: vs) F2 H2 T2 (s1.trans s2) st2 (.cons (r1.mono s2.sF) r2)
end
end TB
namespace TB
open PySem L2
theorem Reps.len {G : Cfg} {F : Hp} : ∀ {vs : List V} {ds : List D}, Reps G F vs ds → vs.length = ds.length
  | _, _, .nil => rfl
  | _, _, .cons _ r => by simp [Reps.len r]
section
variable {X : Cx} {G : Cfgx} {W : WX} {k : Nat}
theorem tr_tup {es : List Expr} {ms : List E} {c} {pos : Pos} (h : TrA X G W es ms) : TrE X G W (.Tuple es c pos) (eApp fTup ms) := by
  obtain ⟨t, hp, hd⟩ := h
  refine ⟨_, pe_tup hp, fun F H σ S T Q st p => hd F H σ S T _ st (PR.bind p fun ds S1 q => ?_)⟩
  intro vs F1 H1 T1 s1 st1 r1
  have hl : vs.length = ds.length := r1.len
  have q : PR G W F H σ T (KE G F H σ T Q) (ofO (fTup ds) S1) := q
  unfold fTup at q
  by_cases z : ds.length ≤ sizeMax
  · rw [if_pos z] at q
    have q : KE G F H σ T Q (.fz, .tup ds) S1 := q
    exact ⟨by rw [hl]; exact z, fun x hx => KE.newF (q.re s1) st1 (fun x => by
      by_cases n : F1 x = none
      · exact .inl (.tup (.inl (.inl upd_same)) (r1.mono fun a u e => by rw [upd_ne (ne_of_none e n)]; exact e))
      · exact .inr n) x hx⟩
  · rw [if_neg z] at q; exact q.elim
theorem tr_lst {es : List Expr} {ms : List E} {pos : Pos} (h : TrA X G W es ms) : TrE X G W (.List es pos) (eApp fLst ms) := by
  obtain ⟨t, hp, hd⟩ := h
  refine ⟨_, pe_lst hp, fun F H σ S T Q st p => hd F H σ S T _ st (PR.bind p fun ds S1 q => ?_)⟩
  intro vs F1 H1 T1 s1 st1 r1
  have hl : vs.length = ds.length := r1.len
  have q : PR G W F H σ T (KE G F H σ T Q) (ofO (fLst ds) S1) := q
  unfold fLst at q
  by_cases z : ds.length ≤ sizeMax
  · rw [if_pos z] at q
    have q : KE G F H σ T Q (.li .fz, .lst ds) S1 := q
    exact ⟨by rw [hl]; exact z, fun x hx => KE.newL (q.re s1) st1 r1 x hx⟩
  · rw [if_neg z] at q; exact q.elim
theorem den_op {r : R2} {f : D → D → Option KD} (hs : S2 G r f) {ta tb : TE} {a b : E} (ha : DenE G W ta a) (hb : DenE G W tb b) : DenE G W (tOp r ta tb) (eOp f a b) := fun F H σ S T Q st p => by
  refine ha.dat F H σ S T _ st (PR.bind p fun dx S1 q => ?_)
  intro v F1 H1 T1 s1 st1 r1
  refine hb.dat F1 H1 σ S1 T1 _ st1 (PR.bind (PR.re s1 (fun _ _ h => h) q) fun dy S2 q2 => ?_)
  intro u F2 H2 T2 s2 st2 r2
  cases e : f dx dy with
  | none => rw [e] at q2; exact q2.elim
  | some d =>
    rw [e] at q2
    have q2 : KE G F H σ T Q d S2 := q2
    exact hs F2 H2 σ S2 T2 v u dx dy d Q st2 (r1.mono s2.sF) r2 e (q2.re (s1.trans s2))
theorem den_un {r : V → Hp → VK → Prop} {f : D → Option KD} (hs : S1 G r f) {ta : TE} {a : E} (ha : DenE G W ta a) : DenE G W (tUn r ta) (eUn f a) := fun F H σ S T Q st p => by
  refine ha.dat F H σ S T _ st (PR.bind p fun dx S1 q => ?_)
  intro v F1 H1 T1 s1 st1 r1
  cases e : f dx with
  | none => rw [e] at q; exact q.elim
  | some d =>
    rw [e] at q
    have q : KE G F H σ T Q d S1 := q
    exact hs F1 H1 σ S1 T1 v dx d Q st1 r1 e (q.re s1)
theorem den_app {r : List V → Hp → VK → Prop} {f : List D → Option KD} (hs : SN G r f) {ta : TA} {ms : List E} (ha : DenA G W ta (eAll ms)) : DenE G W (tCB r ta) (eApp f ms) := fun F H σ S T Q st p => by
  refine ha F H σ S T _ st (PR.bind p fun dx S1 q => ?_)
  intro v F1 H1 T1 s1 st1 r1
  cases e : f dx with
  | none => rw [e] at q; exact q.elim
  | some d =>
    rw [e] at q
    have q : KE G F H σ T Q d S1 := q
    exact hs F1 H1 σ S1 T1 v dx d Q st1 r1 e (q.re s1)
theorem tr_op {op : Operator} {r : R2} {f : D → D → Option KD} {a b : Expr} {ma mb : E} {pos : Pos} (ho : OpR X (binaryOp op) r) (hs : S2 G r f) (ha : TrE X G W a ma) (hb : TrE X G W b mb) : TrE X G W (.BinOp a op b pos) (eOp f ma mb) := by
  obtain ⟨ta, pa, da⟩ := ha
  obtain ⟨tb, pb, db⟩ := hb
  exact ⟨_, pe_op ho pa pb, den_op hs da db⟩
theorem tr_un {op : UnaryOp} {r : V → Hp → VK → Prop} {f : D → Option KD} {a : Expr} {ma : E} {pos : Pos} (ho : UnR X (unaryOp op) r) (hs : S1 G r f) (ha : TrE X G W a ma) : TrE X G W (.UnaryOp op a pos) (eUn f ma) := by
  obtain ⟨ta, pa, da⟩ := ha
  exact ⟨_, pe_un ho pa, den_un hs da⟩
theorem tr_cmp {op : CmpOp} {r : R2} {f : D → D → Option KD} {a b : Expr} {ma mb : E} {pos : Pos} (ho : OpR X (compareOp op) r) (hs : S2 G r f) (ha : TrE X G W a ma) (hb : TrE X G W b mb) (hm : behindInMarks op b = false) : TrE X G W (.Compare a [op] [b] pos) (eOp f ma mb) := by
  obtain ⟨ta, pa, da⟩ := ha
  obtain ⟨tb, pb, db⟩ := hb
  exact ⟨_, pe_cmpR ho pa pb hm, den_op hs da db⟩
theorem tr_ix {r : R2} {f : D → D → Option KD} {a b : Expr} {ma mb : E} {pos : Pos} (ho : IxR X r) (hs : S2 G r f) (ha : TrE X G W a ma) (hb : TrE X G W b mb) (hp : PlainIx b := by exact fun _ _ => rfl) : TrE X G W (.Subscript a b pos) (eOp f ma mb) := by
  obtain ⟨ta, pa, da⟩ := ha
  obtain ⟨tb, pb, db⟩ := hb
  exact ⟨_, pe_ix ho pa pb hp, den_op hs da db⟩
theorem den_test {t : TE} {m : E} (h : DenE G W t m) : DenT G W (tTest t) (eBool m) := fun F H σ S T Q st p => by
  refine h F H σ S T _ st (PR.bind p fun kd S1 q => ?_)
  obtain ⟨kk, d⟩ := kd
  intro v F' H' T' f s' st' o le di
  cases d with
  | bl b =>
    have q : KB G F H σ T Q b S1 := q
    cases o with
    | fz r => cases r; exact ⟨b, rfl, q F' H' T' (s'.castR fun a => rfl) st'⟩
  | _ => exact q.elim
theorem tt_cmp {op : CmpOp} {r : R2} {f : D → D → Option KD} {a b : Expr} {ma mb : E} {pos : Pos} (ho : OpR X (compareOp op) r) (hs : S2 G r f) (ha : TrE X G W a ma) (hb : TrE X G W b mb) (hm : behindInMarks op b = false) : TrT X G W (.Compare a [op] [b] pos) (eBool (eOp f ma mb)) := by
  obtain ⟨ta, pa, da⟩ := ha
  obtain ⟨tb, pb, db⟩ := hb
  exact ⟨_, pt_cmpR ho pa pb hm, den_test (den_op hs da db)⟩
theorem tt_val {e : Expr} {m : E} (h : TrE X G W e m) (he : ∀ whole, isTrue e X.env whole = (do let v ← whole; standAt e.pos; holding [v] (truthy v)) := by intro _; rfl) : TrT X G W e (eBool m) := by
  obtain ⟨t, pa, da⟩ := h
  exact ⟨_, pt_val pa he, den_test da⟩
theorem tt_peek {e : Expr} {m : T} {W' : WX} (h : TrT X G W' e m) : TrT X G W e (tPeek m) := by
  obtain ⟨t, hp, hd⟩ := h
  refine ⟨t, hp, fun F H σ S T Q st p => ?_⟩
  have st2 : St' G H H σ (S.map frz) nil0 := ⟨st.pi, Same.refl H, slots_frz st.sub st.sl, fun _ => Nat.zero_le _, fun _ _ => rfl⟩
  unfold tPeek at p
  refine hd H H σ (S.map frz) nil0 Q st2 ?_
  cases e : m (S.map frz) with
  | exc x S => rw [e] at p; exact p.elim
  | bad => rw [e] at p; exact p.elim
  | ok b S1 =>
    rw [e] at p
    have p : KB G F H σ T Q b S := p
    intro F' H' T' s' st'
    have sHH : Same H H' := fun a u e => s'.fr a u rfl e
    exact p F H' T ⟨Same.refl F, fun a u _ e => sHH a u e, fun a n => .inl n, fun a h n => absurd h n, s'.tl⟩ ⟨st.pi, fun a u e => sHH _ _ (st.sub _ _ e), st.sl.mono (Same.refl F) fun a u _ e => sHH a u e, st.le, st.di⟩
theorem tw_and1 {a : Expr} {ma : T} {pos : Pos} (ha : TrT X G W a ma) : TrW X G W (.BoolOp .And [a] pos) ma := by
  obtain ⟨t, p, d⟩ := ha
  exact ⟨_, pw_and1 p, d⟩
theorem tw_or1 {a : Expr} {ma : T} {pos : Pos} (ha : TrT X G W a ma) : TrW X G W (.BoolOp .Or [a] pos) ma := by
  obtain ⟨t, p, d⟩ := ha
  exact ⟨_, pw_or1 p, d⟩
theorem tw_and {a b : Expr} {rest : List Expr} {ma mb : T} {pos : Pos} (ha : TrT X G W a ma) (hb : TrW X G W (.BoolOp .And (b :: rest) pos) mb) : TrW X G W (.BoolOp .And (a :: b :: rest) pos) (tAnd ma mb) := by
  obtain ⟨t, p, d⟩ := ha
  obtain ⟨u, q, e⟩ := hb
  refine ⟨_, pw_and p q, fun F H σ S T Q st z => d F H σ S T _ st (PR.bind z fun c S1 y => ?_)⟩
  intro F1 H1 T1 s1 st1
  cases c with
  | true => exact e F1 H1 σ S1 T1 Q st1 (PR.re s1 (fun _ _ => KB.re s1) y)
  | false => exact (show KB G F H σ T Q false S1 from y) F1 H1 T1 s1 st1
theorem tw_or {a b : Expr} {rest : List Expr} {ma mb : T} {pos : Pos} (ha : TrT X G W a ma) (hb : TrW X G W (.BoolOp .Or (b :: rest) pos) mb) : TrW X G W (.BoolOp .Or (a :: b :: rest) pos) (tOr ma mb) := by
  obtain ⟨t, p, d⟩ := ha
  obtain ⟨u, q, e⟩ := hb
  refine ⟨_, pw_or p q, fun F H σ S T Q st z => d F H σ S T _ st (PR.bind z fun c S1 y => ?_)⟩
  intro F1 H1 T1 s1 st1
  cases c with
  | false => exact e F1 H1 σ S1 T1 Q st1 (PR.re s1 (fun _ _ => KB.re s1) y)
  | true => exact (show KB G F H σ T Q true S1 from y) F1 H1 T1 s1 st1
theorem tt_w {e : Expr} {m : T} (h : TrW X G W e m) : TrT X G W e m := by
  obtain ⟨t, p, d⟩ := h
  exact ⟨t, p.pt, d⟩
theorem tt_not {a : Expr} {ma : T} {pos : Pos} (ha : TrT X G W a ma) : TrT X G W (.UnaryOp .Not a pos) (tNot ma) := by
  obtain ⟨t, p, d⟩ := ha
  refine ⟨_, pt_not p, fun F H σ S T Q st z => d F H σ S T _ st (PR.bind z fun c S1 y => ?_)⟩
  intro F1 H1 T1 s1 st1
  exact (show KB G F H σ T Q (!c) S1 from y) F1 H1 T1 s1 st1
theorem den_boolE {t : TE} {m : E} (h : DenE G W t m) : ∀ F H σ S T (Q : V → Hp → Prop), St' G F H σ S T → PR G W F H σ T (fun b S' => ∀ F' H' T', Step F H T F' H' T' → St' G F' H' σ S' T' → Q (.bl b) H') (eBool m S) → t σ H Q := fun F H σ S T Q st p => by
  refine h F H σ S T _ st (PR.bind p fun kd S1 q => ?_)
  obtain ⟨kk, d⟩ := kd
  intro v F' H' T' f s' st' o le di
  cases d with
  | bl b =>
    have q : ∀ F' H' T', Step F H T F' H' T' → St' G F' H' σ S1 T' → Q (.bl b) H' := q
    cases o with
    | fz r => cases r; exact q F' H' T' (s'.castR fun a => rfl) st'
  | _ => exact q.elim
theorem tr_one {op} {a : Expr} {m : E} {pos : Pos} (h : TrE X G W a m) : TrE X G W (.BoolOp op [a] pos) m := by
  obtain ⟨t, p, d⟩ := h
  exact ⟨t, pe_one p, d⟩
theorem tr_and {a b : Expr} {rest : List Expr} {ma mb : E} {pos : Pos} (ha : TrE X G W a ma) (hb : TrE X G W (.BoolOp .And (b :: rest) pos) mb) : TrE X G W (.BoolOp .And (a :: b :: rest) pos) (eAnd ma mb) := by
  obtain ⟨t, p, d⟩ := ha
  obtain ⟨u, q, e⟩ := hb
  refine ⟨_, pe_and p q, fun F H σ S T Q st z => den_boolE d F H σ S T _ st (PR.bind z fun c S1 y => ?_)⟩
  intro F1 H1 T1 s1 st1
  refine ⟨c, rfl, ?_⟩
  cases c with
  | true => exact e F1 H1 σ S1 T1 Q st1 (PR.reE s1 y)
  | false => exact KE.val (KE.re s1 (show KE G F H σ T Q (.fz, .bl false) S1 from y)) st1 (.bl false)
theorem tr_not {a : Expr} {ma : E} {pos : Pos} (ha : TrE X G W a ma) : TrE X G W (.UnaryOp .Not a pos) (eNot ma) := by
  obtain ⟨t, p, d⟩ := ha
  refine ⟨_, pe_not p, fun F H σ S T Q st z => den_boolE d F H σ S T _ st (PR.bind z fun c S1 y => ?_)⟩
  intro F1 H1 T1 s1 st1
  exact ⟨c, rfl, KE.val (KE.re s1 (show KE G F H σ T Q (.fz, .bl (!c)) S1 from y)) st1 (.bl (!c))⟩
theorem den_chain {r r' : R2} {f g : D → D → Option KD} (hs : S2 G r f) (hs' : S2 G r' g) {ta tb tc : TE} {a b c : E} (ha : DenE G W ta a) (hb : DenE G W tb b) (hc : DenE G W tc c) : DenE G W (tChain r r' ta tb tc) (eChain f g a b c) := fun F H σ S T Q st p => by
  refine ha.dat F H σ S T _ st (PR.bind p fun dx S1 q => ?_)
  intro v F1 H1 T1 s1 st1 r1
  refine hb.dat F1 H1 σ S1 T1 _ st1 (PR.bind (PR.re s1 (fun _ _ h => h) q) fun dy S2 q2 => ?_)
  intro u F2 H2 T2 s2 st2 r2
  cases e : f dx dy with
  | none => rw [e] at q2; exact q2.elim
  | some d =>
    rw [e] at q2
    refine hs F2 H2 σ S2 T2 v u dx dy d _ st2 (r1.mono s2.sF) r2 e ?_
    intro z F3 H3 T3 f3 s3 st3 o le di
    obtain ⟨kk, d⟩ := d
    cases kk with
    | fz =>
      cases d with
      | bl bb =>
        cases o with
        | fz rr =>
          cases rr
          refine ⟨bb, rfl, ?_⟩
          have s03 : Step F H T F3 H3 T3 := (s1.trans s2).trans (s3.castR fun a => rfl)
          cases bb with
          | false => exact KE.val (KE.re s03 (show KE G F H σ T Q (.fz, .bl false) S2 from q2)) st3 (.bl false)
          | true =>
            show tc σ H3 _
            have q2 : PR G W F1 H1 σ T1 (KE G F H σ T Q) (M.bind (eDat c) (fun z => ofO (g dy z)) S2) := q2
            refine hc.dat F3 H3 σ S2 T3 _ st3 (PR.bind (PR.re (s2.trans (s3.castR fun a => rfl)) (fun _ _ h => h) q2) fun dz S4 q4 => ?_)
            intro w F4 H4 T4 s4 st4 r4
            cases e4 : g dy dz with
            | none => rw [e4] at q4; exact q4.elim
            | some d4 =>
              rw [e4] at q4
              have q4 : KE G F H σ T Q d4 S4 := q4
              exact hs' F4 H4 σ S4 T4 u w dy dz d4 Q st4 ((r2.mono s3.sF).mono s4.sF) r4 e4 (q4.re (s03.trans s4))
      | _ => exact q2.elim
    | _ => exact q2.elim
theorem tr_chain {op op' : CmpOp} {r r' : R2} {f g : D → D → Option KD} {a b c : Expr} {ma mb mc : E} {pos : Pos} (ho : OpR X (compareOp op) r) (ho' : OpR X (compareOp op') r') (hs : S2 G r f) (hs' : S2 G r' g) (ha : TrE X G W a ma) (hb : TrE X G W b mb) (hc : TrE X G W c mc)
    (hm : lastMarks [op, op'] [b, c] = false := by with_unfolding_all rfl) : TrE X G W (.Compare a [op, op'] [b, c] pos) (eChain f g ma mb mc) := by
  obtain ⟨ta, pa, da⟩ := ha
  obtain ⟨tb, pb, db⟩ := hb
  obtain ⟨tc, pc, dc⟩ := hc
  exact ⟨_, pe_chain ho ho' pa pb pc hm, den_chain hs hs' da db dc⟩
theorem tr_callB {x : PySem.Str} {id : String} {r : List V → Hp → VK → Prop} {f : List D → Option KD} {p pos : Pos} {e : Expr} {es : List Expr} {ms : List E} (hc : CallR X (.builtin id) r) (hs : SN G r f) (hm : X.mg x = none) (hv : bootBuiltins x = some (.builtin id)) (ha : TrA X G W (e :: es) ms) (hg : Gl X x := by rfl)
    (hn : x ≠ "__name__" := by decide) (hdb : (x == ("__debug__" : PySem.Str)) = false := by decide) (he : starEach (e :: es) X.env = (false, eval e X.env) :: starEach es X.env := by rfl) (hpl : (backTo pos (starEach es X.env)).any (·.1) = false := by rfl) : TrE X G W (.Call (.Name x p) (e :: es) [] pos) (eApp f ms) := by
  obtain ⟨t, pa, da⟩ := ha
  exact ⟨_, pe_callB hc hg hm hv pa hn hdb he hpl, den_app hs da⟩
theorem tr_callT {x : PySem.Str} {id : String} {r : List V → Hp → VK → Prop} {f : List D → Option KD} {p pos : Pos} {e : Expr} {es : List Expr} {ms : List E} (hc : CallR X (.type id) r) (hs : SN G r f) (hm : X.mg x = none) (hv : bootBuiltins x = some (.type id)) (ha : TrA X G W (e :: es) ms) (hg : Gl X x := by rfl)
    (hn : x ≠ "__name__" := by decide) (hdb : (x == ("__debug__" : PySem.Str)) = false := by decide) (he : starEach (e :: es) X.env = (false, eval e X.env) :: starEach es X.env := by rfl) (hpl : (backTo pos (starEach es X.env)).any (·.1) = false := by rfl) : TrE X G W (.Call (.Name x p) (e :: es) [] pos) (eApp f ms) := by
  obtain ⟨t, pa, da⟩ := ha
  exact ⟨_, pe_callTy hc hg hm hv pa hn hdb he hpl, den_app hs da⟩
end
end TB
namespace TB
open PySem L2
def PXs (G : Cfgx) (W : WX) (F H : Hp) (T : Cnt) (x : Xc) (S' : List Slot) : Prop :=
  ∀ σ' cls dx F' H' T', Step F H T F' H' T' → St' G F' H' σ' S' T' → ExcR G x cls dx H' → W cls dx σ' H'
def KS (G : Cfgx) (F H : Hp) (T : Cnt) (D : Ends) (f : Fl) (S' : List Slot) : Prop := match f with
  | .nx => ∀ σ' F' H' T', Step F H T F' H' T' → St' G F' H' σ' S' T' → D.nx σ' H'
  | .bk => ∀ σ' F' H' T', Step F H T F' H' T' → St' G F' H' σ' S' T' → D.bk σ' H'
  | .ct => ∀ σ' F' H' T', Step F H T F' H' T' → St' G F' H' σ' S' T' → D.ct σ' H'
  | .rt r => ∀ v σ' F' H' T' f, Step F H T F' H' (add T' f) → St' G F' H' σ' S' T' → Own G F' H' r.1 v r.2 f → (∀ a, T' a + f a ≤ 1) → (∀ a, F' a ≠ none → f a = 0) → D.rt v H'
def PRs {α : Type} (G : Cfgx) (W : WX) (F H : Hp) (T : Cnt) (K : α → List Slot → Prop) : R α → Prop
  | .ok a S => K a S
  | .exc x S => PXs G W F H T x S
  | .bad => False
section
variable {G : Cfgx} {W : WX} {F H F1 H1 : Hp} {σ : L2.St} {T T1 : Cnt} {α β : Type}
theorem PXs.re {x : Xc} {S : List Slot} (s : Step F H T F1 H1 T1) (h : PXs G W F H T x S) : PXs G W F1 H1 T1 x S := fun σ' cls dx F' H' T' s' st e => h σ' cls dx F' H' T' (s.trans s') st e
theorem KS.re {D : Ends} {f : Fl} {S : List Slot} (s : Step F H T F1 H1 T1) (h : KS G F H T D f S) : KS G F1 H1 T1 D f S := by
  cases f with
  | nx => exact fun σ' F' H' T' s' st => (show ∀ σ' F' H' T', Step F H T F' H' T' → St' G F' H' σ' S T' → D.nx σ' H' from h) σ' F' H' T' (s.trans s') st
  | bk => exact fun σ' F' H' T' s' st => (show ∀ σ' F' H' T', Step F H T F' H' T' → St' G F' H' σ' S T' → D.bk σ' H' from h) σ' F' H' T' (s.trans s') st
  | ct => exact fun σ' F' H' T' s' st => (show ∀ σ' F' H' T', Step F H T F' H' T' → St' G F' H' σ' S T' → D.ct σ' H' from h) σ' F' H' T' (s.trans s') st
  | rt r => exact fun v σ' F' H' T' f s' st => (show ∀ v σ' F' H' T' f, Step F H T F' H' (add T' f) → St' G F' H' σ' S T' → Own G F' H' r.1 v r.2 f → (∀ a, T' a + f a ≤ 1) → (∀ a, F' a ≠ none → f a = 0) → D.rt v H' from h) v σ' F' H' T' f (s.trans s') st
theorem PRs.bind {K1 : α → List Slot → Prop} {K2 : β → List Slot → Prop} {r : R α} {f : α → M β} (h : PRs G W F H T K2 (r.bind f)) (k : ∀ a S, PRs G W F H T K2 (f a S) → K1 a S) : PR G W F H σ T K1 r := by
  cases r with
  | ok a S => exact k a S h
  | exc x S => exact fun cls dx F' H' T' s st e => (show PXs G W F H T x S from h) σ cls dx F' H' T' s st e
  | bad => exact h
theorem PRs.binds {K1 : α → List Slot → Prop} {K2 : β → List Slot → Prop} {r : R α} {f : α → M β} (h : PRs G W F H T K2 (r.bind f)) (k : ∀ a S, PRs G W F H T K2 (f a S) → K1 a S) : PRs G W F H T K1 r := by
  cases r with
  | ok a S => exact k a S h
  | exc x S => exact h
  | bad => exact h
theorem PRs.re {K1 K2 : α → List Slot → Prop} {r : R α} (s : Step F H T F1 H1 T1) (k : ∀ a S, K1 a S → K2 a S) (h : PRs G W F H T K1 r) : PRs G W F1 H1 T1 K2 r := by
  cases r with
  | ok a S => exact k a S h
  | exc x S => exact PXs.re s h
  | bad => exact h
theorem PRs.reS {D : Ends} {r : R Fl} (s : Step F H T F1 H1 T1) (h : PRs G W F H T (KS G F H T D) r) : PRs G W F1 H1 T1 (KS G F1 H1 T1 D) r := PRs.re s (fun _ _ => KS.re s) h
end
def DenS (G : Cfgx) (W : WX) (t : TS) (m : St) : Prop := ∀ F H σ S T D, St' G F H σ S T → PRs G W F H T (KS G F H T D) (m S) → t D σ H
def TrS (X : Cx) (G : Cfgx) (W : WX) (s : Stmt) (m : St) : Prop := ∃ t, L2.PS X s t ∧ DenS G W t m
def TrSs (X : Cx) (G : Cfgx) (W : WX) (s : List Stmt) (m : St) : Prop := ∃ t, PSs X s t ∧ DenS G W t m
/-- the slot i filled anew -/
theorem St'.set {G : Cfgx} {F H : Hp} {σ : L2.St} {S : List Slot} {T f : Cnt} {i : Nat} {k : Kd} {v : V} {d : D} (st : St' G F H σ S T) (hi : i < S.length) (hp : i ∉ G.pk) (o : Own G F H k v d f) (le : ∀ a, T a + f a ≤ 1) (di : ∀ a, F a ≠ none → f a = 0) :
    ∃ T', St' G F H (σ.set i (some v)) (S.set i (some (k, d))) T' ∧ ∀ a, T' a ≤ T a + f a := by
  obtain ⟨v0, f0, T0, ht, hv, ho, back⟩ := st.sl.at (List.getElem?_eq_getElem hi)
  refine ⟨add f T0, ⟨fun j hj => by rw [List.getElem?_set_ne (fun e => hp (by rw [e]; exact hj))]; exact st.pi j hj, st.sub, back F H (some v) (some (k, d)) f (Same.refl F) (fun _ _ _ h => h) (.yes o), fun a => ?_, fun a n => ?_⟩, fun a => ?_⟩
  · have := ht a; have := le a; simp only [add]; omega
  · have := ht a; have := di a n; have := st.di a n; simp only [add]; omega
  · have := ht a; simp only [add]; omega
/-- the slot i emptied -/
theorem St'.drop {G : Cfgx} {F H : Hp} {σ : L2.St} {S : List Slot} {T : Cnt} {i : Nat} (st : St' G F H σ S T) (hp : i ∉ G.pk) (v : Option V) : ∃ T', St' G F H (σ.set i v) (S.set i none) T' ∧ ∀ a, T' a ≤ T a := by
  by_cases hi : i < S.length
  · obtain ⟨v0, f0, T0, ht, hv, ho, back⟩ := st.sl.at (List.getElem?_eq_getElem hi)
    refine ⟨add nil0 T0, ⟨fun j hj => by rw [List.getElem?_set_ne (fun e => hp (by rw [e]; exact hj))]; exact st.pi j hj, st.sub, back F H v none nil0 (Same.refl F) (fun _ _ _ h => h) (.no v), fun a => ?_, fun a n => ?_⟩, fun a => ?_⟩
    · have := ht a; have := st.le a; simp only [add, nil0]; omega
    · have := ht a; have := st.di a n; simp only [add, nil0]; omega
    · have := ht a; simp only [add, nil0]; omega
  · have hs : σ.length ≤ i := by rw [st.sl.len]; omega
    rw [List.set_eq_of_length_le hs, List.set_eq_of_length_le (by omega)]
    exact ⟨T, st, fun a => Nat.le_refl _⟩
section
variable {X : Cx} {G : Cfgx} {W : WX} {k : Nat}
theorem ts_nil : TrSs X G W [] sNx := ⟨_, pss_nil, fun F H σ S T D st p => (show KS G F H T D .nx S from p) σ F H T (Step.refl F H T) st⟩
theorem ts_one {s : Stmt} {m : St} (h : TrS X G W s m) : TrSs X G W [s] m := by
  obtain ⟨t, p, d⟩ := h
  exact ⟨t, pss_one p, d⟩
theorem ts_cons {s : Stmt} {r : List Stmt} {m n : St} (h : TrS X G W s m) (g : TrSs X G W r n) : TrSs X G W (s :: r) (sSeq m n) := by
  obtain ⟨t, p, d⟩ := h
  obtain ⟨u, q, e⟩ := g
  refine ⟨_, pss_cons p q, fun F H σ S T D st z => ?_⟩
  refine d F H σ S T { D with nx := u D } st (PRs.binds z fun f S1 y => ?_)
  cases f with
  | nx => exact fun σ' F' H' T' s' st' => e F' H' σ' S1 T' D st' (PRs.reS s' y)
  | bk => exact y
  | ct => exact y
  | rt r => exact y
theorem pin_ok {i : Nat} (h : G.pk.contains i = false) : i ∉ G.pk := fun z => by rw [List.contains_iff_mem.mpr z] at h; cases h
theorem tr_set (i : Nat) {x : PySem.Str} {e : Expr} {m : E} {p pos : Pos} (C : Cok X G W k) (h : TrE X G W e m) (hp : G.pk.contains i = false := by rfl) (hi : X.N[i]? = some x := by rfl) (hx : Loc X.env.scope x := by first | exact Or.inl rfl | exact Or.inr rfl) (hs : swapsWith e (some (.Name x p)) pos.line X.env = pure false := by rfl)
    (hf : X.fn x = true ∨ X.env.scope.names.lookup x = some .local := by first | exact .inl rfl | exact .inr rfl) : TrS X G W (.Assign [.Name x p] e pos) (sSet i m) := by
  obtain ⟨t, q, d⟩ := h
  refine ⟨_, ps_set C.nd hi hx q hs hf, fun F H σ S T D st z => d F H σ S T _ st (PRs.bind z fun kd S1 y => ?_)⟩
  obtain ⟨kk, dd⟩ := kd
  intro v F' H' T' f s' st' o le di
  show D.nx (σ.set i (some v)) H'
  by_cases hl : i < S1.length
  · have y : PRs G W F H T (KS G F H T D) (if i < S1.length then .ok .nx (S1.set i (some (kk, dd))) else .bad) := y
    rw [if_pos hl] at y
    obtain ⟨T2, st2, l2⟩ := st'.set hl (pin_ok hp) o le di
    exact (show KS G F H T D .nx _ from y) _ F' H' T2 (s'.less l2) st2
  · have y : PRs G W F H T (KS G F H T D) (if i < S1.length then .ok .nx (S1.set i (some (kk, dd))) else .bad) := y
    rw [if_neg hl] at y
    exact y.elim
theorem tr_drop {e : Expr} {m : E} {pos : Pos} (h : TrE X G W e m) (hs : swapsWith e none pos.line X.env = pure false := by rfl) : TrS X G W (.Expr e pos) (sDrop m) := by
  obtain ⟨t, q, d⟩ := h
  refine ⟨_, ps_expr q hs, fun F H σ S T D st z => d F H σ S T _ st (PRs.bind z fun kd S1 y => ?_)⟩
  intro v F' H' T' f s' st' o le di
  exact (show KS G F H T D .nx S1 from y) σ F' H' T' (s'.less fun a => by simp only [add]; omega) st'
theorem tr_ret {e : Expr} {m : E} {pos : Pos} (h : TrE X G W e m) : TrS X G W (.Return (some e) pos) (sRet m) := by
  obtain ⟨t, q, d⟩ := h
  refine ⟨_, ps_ret q, fun F H σ S T D st z => d F H σ S T _ st (PRs.bind z fun kd S1 y => ?_)⟩
  intro v F' H' T' f s' st' o le di
  exact (show KS G F H T D (.rt kd) S1 from y) v σ F' H' T' f s' st' o le di
theorem tr_ifS {c : Expr} {a b : List Stmt} {mc : T} {ma mb : St} {pos : Pos} (hc : TrT X G W c mc) (ha : TrSs X G W a ma) (hb : TrSs X G W b mb) : TrS X G W (.If c a b pos) (sIf mc ma mb) := by
  obtain ⟨t, p, d⟩ := hc
  obtain ⟨u, q, e⟩ := ha
  obtain ⟨w, r, g⟩ := hb
  refine ⟨_, ps_if p q r, fun F H σ S T D st z => d F H σ S T _ st (PRs.bind z fun x S1 y => ?_)⟩
  intro F1 H1 T1 s1 st1
  cases x with
  | true => exact e F1 H1 σ S1 T1 D st1 (PRs.reS s1 y)
  | false => exact g F1 H1 σ S1 T1 D st1 (PRs.reS s1 y)
theorem tr_while (n : Nat) {c : Expr} {b : List Stmt} {mc : T} {mb : St} {pos : Pos} (C : Cok X G W k) (hc : TrT X G W c mc) (hb : TrSs X G W b mb) : TrS X G W (.While c b [] pos) (sWhile n mc mb) := by
  obtain ⟨t, p, d⟩ := hc
  obtain ⟨u, q, e⟩ := hb
  refine ⟨_, ps_while C.po p q, fun F H σ S T D st z => ?_⟩
  refine ⟨fun m σ1 H1 => ∃ F1 S1 T1, St' G F1 H1 σ1 S1 T1 ∧ PRs G W F1 H1 T1 (KS G F1 H1 T1 D) (sWhile m mc mb S1), ⟨n, F, S, T, st, z⟩, ?_⟩
  rintro m σ1 H1 ⟨F1, S1, T1, st1, z1⟩
  cases m with
  | zero => exact z1.elim
  | succ m =>
    have z1 : PRs G W F1 H1 T1 (KS G F1 H1 T1 D) ((mc S1).bind fun x => if x then M.bind mb (fun f => match f with | .nx => sWhile m mc mb | .ct => sWhile m mc mb | .bk => M.pure .nx | .rt r => M.pure (.rt r)) else M.pure .nx) := z1
    refine d F1 H1 σ1 S1 T1 _ st1 (PRs.bind z1 fun x S2 y => ?_)
    intro F2 H2 T2 s2 st2
    cases x with
    | false => exact (show KS G F1 H1 T1 D .nx S2 from y) σ1 F2 H2 T2 s2 st2
    | true =>
      have y : PRs G W F1 H1 T1 (KS G F1 H1 T1 D) ((mb S2).bind fun f => match f with | .nx => sWhile m mc mb | .ct => sWhile m mc mb | .bk => M.pure .nx | .rt r => M.pure (.rt r)) := y
      have y := PRs.reS s2 y
      refine ⟨fun σ3 H3 => ∃ F3 S3 T3, St' G F3 H3 σ3 S3 T3 ∧ PRs G W F3 H3 T3 (KS G F3 H3 T3 D) (sWhile m mc mb S3), fun σ' H' w => ⟨m, Nat.lt_succ_self m, w⟩, ?_⟩
      refine e F2 H2 σ1 S2 T2 _ st2 (PRs.binds y fun f S3 z3 => ?_)
      cases f with
      | nx => exact fun σ' F' H' T' s' st' => ⟨F', S3, T', st', PRs.reS s' z3⟩
      | ct => exact fun σ' F' H' T' s' st' => ⟨F', S3, T', st', PRs.reS s' z3⟩
      | bk => exact fun σ' F' H' T' s' st' => (show KS G F2 H2 T2 D .nx S3 from z3) σ' F' H' T' s' st'
      | rt r => exact (show KS G F2 H2 T2 D (.rt r) S3 from z3)
/-- an item, in a heap that may have got a tuple more -/
def YD (G : Cfgx) (F H : Hp) (x : V) (H' : Hp) (d : D) : Prop := (H' = H ∧ Rep G F x d) ∨ ∃ p vs ds, x = .ref p ∧ H p = none ∧ H' = upd H p (.tup vs) ∧ d = .tup ds ∧ Reps G F vs ds
def WalkD (G : Cfgx) (F : Hp) (J : L2.It) (ds : List D) : Prop := ∃ Y, L2.Walk J ds.length (fun H => Same F H) Y ∧ ∀ i H x H' d, ds[i]? = some d → Y i H x H' → YD G F H x H' d
def KI (G : Cfgx) (F H : Hp) (σ : L2.St) (T : Cnt) (R : L2.It → Hp → Prop) (ds : List D) (S' : List Slot) : Prop :=
  ∀ J F' H' T', Step F H T F' H' T' → St' G F' H' σ S' T' → WalkD G F' J ds → R J H'
def DenI (G : Cfgx) (W : WX) (wi : TI) (m : It) : Prop := ∀ F H σ S T R, St' G F H σ S T → PR G W F H σ T (KI G F H σ T R) (m S) → wi σ H R
def TrI (X : Cx) (G : Cfgx) (W : WX) (tg e : Expr) (m : It) : Prop := ∃ wi, PI X tg e wi ∧ DenI G W wi m
def DenG (G : Cfgx) (g : TG) (tg : Tg) : Prop := ∀ F H σ S T v d S' (Q : L2.St → Hp → Prop), St' G F H σ S T → Rep G F v d → tg.put d S = some S' → (∀ σ' T', St' G F H σ' S' T' → (∀ a, T' a ≤ T a) → (∀ j, j ∉ tg.sl → σ'[j]? = σ[j]?) → Q σ' H) → g v σ H Q
def DenGs (G : Cfgx) (g : TGs) (tg : List Tg) : Prop := ∀ F H σ S T vs ds S' (Q : L2.St → Hp → Prop), St' G F H σ S T → Reps G F vs ds → Tg.puts tg ds S = some S' → (∀ σ' T', St' G F H σ' S' T' → (∀ a, T' a ≤ T a) → (∀ j, j ∉ Tg.sls tg → σ'[j]? = σ[j]?) → Q σ' H) → g vs σ H Q
def TrG (X : Cx) (G : Cfgx) (e : Expr) (tg : Tg) : Prop := ∃ g, PG X e g ∧ DenG G g tg
def TrGs (X : Cx) (G : Cfgx) (es : List Expr) (tg : List Tg) : Prop := ∃ g, PGs X es g ∧ DenGs G g tg
theorem tg_nm (i : Nat) {x : PySem.Str} {pos : Pos} (nd : X.N.Nodup) (hp : G.pk.contains i = false := by rfl) (hi : X.N[i]? = some x := by rfl) (hx : Loc X.env.scope x := by first | exact Or.inl rfl | exact Or.inr rfl) (hf : X.fn x = true ∨ X.env.scope.names.lookup x = some .local := by first | exact .inl rfl | exact .inr rfl) : TrG X G (.Name x pos) (.nm i) := by
  refine ⟨_, pg_name nd hi hx hf, fun F H σ S T v d S' Q st r e k => ?_⟩
  unfold Tg.put at e
  by_cases hl : i < S.length
  · rw [if_pos hl] at e
    cases e
    obtain ⟨T2, st2, l2⟩ := st.set hl (pin_ok hp) (.fz r) (fun a => by simp only [nil0]; exact st.le a) fun _ _ => rfl
    exact k _ T2 st2 (fun a => by have := l2 a; simp only [nil0] at this; omega) fun j hj => List.getElem?_set_ne fun e => hj (by simp [Tg.sl, e])
  · rw [if_neg hl] at e; cases e
theorem tg_nil : TrGs X G [] [] := ⟨_, pgs_nil, fun F H σ S T vs ds S' Q st r e k => by
  cases r with
  | nil => unfold Tg.puts at e; cases e; exact ⟨rfl, k σ T st (fun a => Nat.le_refl _) fun _ _ => rfl⟩
  | cons a b => unfold Tg.puts at e; cases e⟩
theorem tg_cons {e : Expr} {es : List Expr} {t : Tg} {ts : List Tg} (h : TrG X G e t) (hs : TrGs X G es ts) (ha : (assignEach (e :: es) X.env).map (·.2) = assign e X.env :: (assignEach es X.env).map (·.2) := by rfl) : TrGs X G (e :: es) (t :: ts) := by
  obtain ⟨g, p, d⟩ := h
  obtain ⟨g2, p2, d2⟩ := hs
  refine ⟨_, pgs_cons p p2 ha, fun F H σ S T vs ds S' Q st r e k => ?_⟩
  cases r with
  | nil => unfold Tg.puts at e; cases e
  | @cons v dd vs ds r1 r2 =>
    unfold Tg.puts at e
    cases e1 : Tg.put t dd S with
    | none => rw [e1] at e; cases e
    | some S1 =>
      rw [e1] at e
      exact ⟨v, vs, rfl, d F H σ S T v dd S1 _ st r1 e1 fun σ1 T1 st1 l1 a1 => d2 F H σ1 S1 T1 vs ds S' Q st1 r2 e fun σ2 T2 st2 l2 a2 => k σ2 T2 st2 (fun a => Nat.le_trans (l2 a) (l1 a)) fun j hj => by
        unfold Tg.sls at hj
        exact (a2 j fun z => hj (List.mem_append_right _ z)).trans (a1 j fun z => hj (List.mem_append_left _ z))⟩
theorem tg_tup {es : List Expr} {kk : Nat} {ts : List Tg} {n : Nat} {pos : Pos} (C : Cok X G W k) (h : TrGs X G es ts) (hl : ts.length = n := by rfl) (hn : (assignEach es X.env).length = n := by rfl) (hst : (assignEach es X.env).findIdx? (·.1) = none := by rfl) : TrG X G (.Tuple es kk pos) (.tp ts) := by
  obtain ⟨g, p, d⟩ := h
  refine ⟨_, pg_tup C.calm p hn hst, fun F H σ S T v dd S' Q st r e k => ?_⟩
  cases r with
  | tup hs rs =>
    unfold Tg.put at e
    refine ⟨_, _, rfl, C.hK ▸ same_t st.sub hs, ?_, d F H σ S T _ _ S' Q st rs e (fun σ' T' st' l a => k σ' T' st' l fun j hj => a j (by unfold Tg.sl at hj; exact hj))⟩
    have : ∀ (ts : List Tg) (ds : List D) (S S' : List Slot), Tg.puts ts ds S = some S' → ds.length = ts.length := by
      intro ts
      induction ts with
      | nil => intro ds S S' e; cases ds with
        | nil => rfl
        | cons a b => unfold Tg.puts at e; cases e
      | cons t ts ih => intro ds S S' e; cases ds with
        | nil => unfold Tg.puts at e; cases e
        | cons a b =>
          unfold Tg.puts at e
          cases e1 : Tg.put t a S with
          | none => rw [e1] at e; cases e
          | some S1 => rw [e1] at e; simp [ih _ _ _ e]
    rw [rs.len, this _ _ _ _ e, hl]
  | _ => unfold Tg.put at e; cases e
theorem den_loop {wi : TI} {it : It} {g : TG} {tg : Tg} {tb : TS} {mb : St} (hi : DenI G W wi it) (hg : DenG G g tg) (hb : DenS G W tb mb) : DenS G W (tFor wi g tb) (sFor it tg mb) := fun F H σ S T D st z => by
  refine hi F H σ S T _ st (PRs.bind z fun ds S1 y => ?_)
  intro J F1 H1 T1 s1 st1 ⟨Y, w, hY⟩
  refine L2.for_it w (fun i σ' H' => ∃ F' S' T', St' G F' H' σ' S' T' ∧ Same F1 F' ∧ PRs G W F' H' T' (KS G F' H' T' D) (loop tg mb (ds.drop i) S')) ⟨F1, S1, T1, st1, Same.refl F1, PRs.reS s1 y⟩ (fun i σ' H' _ ⟨F', S', T', st', sf, _⟩ => sf.trans st'.sub) ?_ ?_
  · rintro i x σ2 H2 H3 hi ⟨F2, S2, T2, st2, sf2, p⟩ hy
    have hd : ds[i]? = some ds[i] := List.getElem?_eq_getElem hi
    have yd := hY i H2 x H3 ds[i] hd hy
    rw [List.drop_eq_getElem_cons hi] at p
    unfold loop at p
    cases e : tg.put ds[i] S2 with
    | none => rw [e] at p; exact p.elim
    | some S3 =>
      rw [e] at p
      have p : PRs G W F2 H2 T2 (KS G F2 H2 T2 D) ((mb S3).bind fun f => match f with | .nx => loop tg mb (ds.drop (i + 1)) | .ct => loop tg mb (ds.drop (i + 1)) | .bk => M.pure .nx | .rt r => M.pure (.rt r)) := p
      have turn : ∀ F3 H3 T3, Step F2 H2 T2 F3 H3 T3 → St' G F3 H3 σ2 S2 T3 → Rep G F3 x ds[i] → g x σ2 H3 fun σ4 H4 => tb { D with nx := fun σ' H' => ∃ F' S' T', St' G F' H' σ' S' T' ∧ Same F1 F' ∧ PRs G W F' H' T' (KS G F' H' T' D) (loop tg mb (ds.drop (i + 1)) S'), ct := fun σ' H' => ∃ F' S' T', St' G F' H' σ' S' T' ∧ Same F1 F' ∧ PRs G W F' H' T' (KS G F' H' T' D) (loop tg mb (ds.drop (i + 1)) S'), bk := D.nx } σ4 H4 := by
        intro F3 H3 T3 s3 st3 r3
        refine hg F3 H3 σ2 S2 T3 x ds[i] S3 _ st3 r3 e fun σ4 T4 st4 l4 _ => ?_
        have s4 : Step F2 H2 T2 F3 H3 T4 := s3.less l4
        refine hb F3 H3 σ4 S3 T4 _ st4 (PRs.binds (PRs.reS s4 p) fun f S5 q => ?_)
        cases f with
        | nx => exact fun σ' F' H' T' s' st' => ⟨F', S5, T', st', (sf2.trans s4.sF).trans s'.sF, PRs.reS s' q⟩
        | ct => exact fun σ' F' H' T' s' st' => ⟨F', S5, T', st', (sf2.trans s4.sF).trans s'.sF, PRs.reS s' q⟩
        | bk => exact fun σ' F' H' T' s' st' => (show KS G F3 H3 T4 D .nx S5 from q) σ' F' H' T' s' st'
        | rt r => exact (show KS G F3 H3 T4 D (.rt r) S5 from q)
      rcases yd with ⟨e1, r⟩ | ⟨pp, vs, dd, e1, hp, e2, e3, r⟩
      · subst e1
        exact turn F2 H3 T2 (Step.refl _ _ _) st2 (r.mono sf2)
      · subst e1 e2
        obtain ⟨st3, s3⟩ := st2.newF (o := .tup vs) hp
        refine turn _ _ T2 s3 st3 ?_
        rw [e3]
        exact .tup (.inl (.inl upd_same)) ((r.mono sf2).mono s3.sF)
  · rintro σ2 H2 ⟨F2, S2, T2, st2, sf2, p⟩
    rw [List.drop_length] at p
    exact (show KS G F2 H2 T2 D .nx S2 from p) σ2 F2 H2 T2 (Step.refl _ _ _) st2
theorem tr_for {tg iter : Expr} {body : List Stmt} {it : It} {t : Tg} {mb : St} {pos : Pos} (C : Cok X G W k) (hi : TrI X G W tg iter it) (hg : TrG X G tg t) (hb : TrSs X G W body mb) (hs : ∀ x, foldedSetIterable iter X.env x = pure x := by intro _; rfl) : TrS X G W (.For tg iter body [] pos) (sFor it t mb) := by
  obtain ⟨wi, p, d⟩ := hi
  obtain ⟨g, q, e⟩ := hg
  obtain ⟨tb, r, f⟩ := hb
  exact ⟨_, ps_for C.po C.calm p q r hs, den_loop d e f⟩
def tE (G : Cfgx) (W : WX) (m : E) : TE := fun σ H Q => ∃ F S T, St' G F H σ S T ∧ PR G W F H σ T (KE G F H σ T Q) (m S)
def tT (G : Cfgx) (W : WX) (m : T) : TT := fun σ H Q => ∃ F S T, St' G F H σ S T ∧ PR G W F H σ T (KB G F H σ T Q) (m S)
def gG (G : Cfgx) (tg : Tg) : TG := fun v σ H Q => ∃ F S T d S', St' G F H σ S T ∧ Rep G F v d ∧ tg.put d S = some S' ∧ ∀ σ' T', St' G F H σ' S' T' → (∀ a, T' a ≤ T a) → (∀ j, j ∉ tg.sl → σ'[j]? = σ[j]?) → Q σ' H
theorem TrE.can {e : Expr} {m : E} (h : TrE X G W e m) : PE X e (tE G W m) := by
  obtain ⟨t, p, d⟩ := h
  exact ⟨fun pins s σ H Q I ⟨F, S, T, st, q⟩ => p.run pins s σ H Q I (d F H σ S T Q st q)⟩
theorem TrT.can {e : Expr} {m : T} (h : TrT X G W e m) : PT X e (tT G W m) := by
  obtain ⟨t, p, d⟩ := h
  exact ⟨fun pins s σ H Q I ⟨F, S, T, st, q⟩ => p.run pins s σ H Q I (d F H σ S T Q st q)⟩
theorem TrG.can {e : Expr} {tg : Tg} (h : TrG X G e tg) : PG X e (gG G tg) := by
  obtain ⟨g, p, d⟩ := h
  exact ⟨fun pins s σ H v u Q I r ⟨F, S, T, dd, S', st, rr, e, k⟩ => p.run pins s σ H v u Q I r (d F H σ S T v dd S' Q st rr e k)⟩
def TrTs (X : Cx) (G : Cfgx) (W : WX) (ifs : List Expr) (m : T) : Prop := PTs X ifs (tT G W m)
theorem tts_nil : TrTs X G W [] tTrue := ⟨fun pins s σ H Q I ⟨F, S, T, st, q⟩ => pts_nil.run pins s σ H Q I ((show KB G F H σ T Q true S from q) F H T (Step.refl F H T) st)⟩
theorem tts_one {c : Expr} {m : T} (h : TrT X G W c m) : TrTs X G W [c] m := pts_one h.can
theorem wipe_at (σ : L2.St) : ∀ (vs : List Nat) (j : Nat), (L2.wipe σ vs)[j]? = if j ∈ vs ∧ j < σ.length then some none else σ[j]?
  | [], j => by simp [L2.wipe]
  | v :: vs, j => by
    have ih := wipe_at σ vs j
    unfold L2.wipe
    by_cases h : v = j
    · subst h
      by_cases hl : v < σ.length
      · rw [List.getElem?_set_self (by rw [L2.wipe_length]; exact hl), if_pos ⟨List.mem_cons_self, hl⟩]
      · rw [List.getElem?_eq_none (by rw [List.length_set, L2.wipe_length]; omega), if_neg (fun z => hl z.2), List.getElem?_eq_none (by omega)]
    · rw [List.getElem?_set_ne h, ih]
      have e : j ∈ v :: vs ↔ j ∈ vs := by simp [Ne.symm h]
      simp only [e]
theorem wipe_eq {σ σ' : L2.St} {vs : List Nat} (hl : σ'.length = σ.length) (h : ∀ j, j ∉ vs → σ'[j]? = σ[j]?) : L2.wipe σ' vs = L2.wipe σ vs := by
  apply List.ext_getElem?
  intro j
  rw [wipe_at, wipe_at, hl]
  by_cases z : j ∈ vs
  · by_cases y : j < σ.length
    · simp [z, y]
    · rw [if_neg (fun w => y w.2), if_neg (fun w => y w.2), List.getElem?_eq_none (by omega), List.getElem?_eq_none (by omega)]
  · rw [if_neg (fun w => z w.1), if_neg (fun w => z w.1)]; exact h j z
theorem wipe_wipe (σ : L2.St) (vs : List Nat) : L2.wipe (L2.wipe σ vs) vs = L2.wipe σ vs := wipe_eq (L2.wipe_length σ vs) fun j hj => by rw [wipe_at, if_neg fun w => hj w.1]
theorem wipe_slots {F H : Hp} {σ : L2.St} {S : List Slot} {T : Cnt} (st : St' G F H σ S T) : ∀ vs : List Nat, (∀ v, v ∈ vs → v ∉ G.pk) → ∃ T', St' G F H (L2.wipe σ vs) (wipeS S vs) T' ∧ ∀ a, T' a ≤ T a
  | [], _ => ⟨T, st, fun a => Nat.le_refl _⟩
  | v :: vs, h => by
    obtain ⟨T1, st1, l1⟩ := wipe_slots st vs fun x hx => h x (List.mem_cons_of_mem _ hx)
    obtain ⟨T2, st2, l2⟩ := st1.drop (i := v) (h v List.mem_cons_self) none
    exact ⟨T2, st2, fun a => Nat.le_trans (l2 a) (l1 a)⟩
/-- the block's own slots as they were ahead -/
theorem back_slots {F F0 H H0 : Hp} {σ : L2.St} {S0 : List Slot} {T0 : Cnt} (st0 : St' G F0 H0 σ S0 T0) (sF : Same F0 F) : ∀ {vs : List Nat} {S : List Slot} {T : Cnt}, vs.all (fzAt S0) = true → noDup vs = true → St' G F H (L2.wipe σ vs) S T → ∃ T', St' G F H σ (backS S0 S vs) T' ∧ ∀ a, T' a ≤ T a
  | [], S, T, _, _, st => ⟨T, st, fun a => Nat.le_refl _⟩
  | v :: vs, S, T, h, nd, st => by
    obtain ⟨h1, h2⟩ := Bool.and_eq_true_iff.mp (show (fzAt S0 v && vs.all (fzAt S0)) = true from h)
    obtain ⟨n1, n2⟩ := Bool.and_eq_true_iff.mp (show (!vs.contains v && noDup vs) = true from nd)
    have nv : v ∉ vs := by simpa using n1
    have lS : S.length = σ.length := by rw [← st.sl.len, L2.wipe_length]
    have l0 : σ.length = S0.length := st0.sl.len
    cases e : S0[v]? with
    | none => unfold fzAt at h1; rw [e] at h1; cases h1
    | some s0 =>
      have hv : v < S0.length := (List.getElem?_eq_some_iff.mp e).1
      have gd : S0.getD v none = s0 := by rw [List.getD_eq_getElem?_getD, e]; rfl
      obtain ⟨x, f, Tr, ht, hx, ho, back⟩ := st.sl.at (i := v) (List.getElem?_eq_getElem (by omega))
      obtain ⟨x0, f0, Tr0, _, hx0, ho0, _⟩ := st0.sl.at (i := v) e
      have ok : SlotOk G F H x0 s0 nil0 := by
        unfold fzAt at h1
        rw [e] at h1
        cases ho0 with
        | no => exact .no _
        | @yes k1 v1 d1 f1 o =>
          cases k1 with
          | fz => cases o with | fz r => exact .yes (.fz (r.mono sF))
          | _ => cases h1
      have q := back F H x0 s0 nil0 (Same.refl F) (fun _ _ _ h => h) ok
      have e2 : (L2.wipe σ (v :: vs)).set v x0 = L2.wipe σ vs := by
        show ((L2.wipe σ vs).set v none).set v x0 = _
        rw [List.set_set]
        have z : (L2.wipe σ vs)[v]? = some x0 := by rw [wipe_at, if_neg fun w => nv w.1]; exact hx0
        obtain ⟨hi, q1⟩ := List.getElem?_eq_some_iff.mp z
        rw [← q1, List.set_getElem_self]
      rw [e2] at q
      have st2 : St' G F H (L2.wipe σ vs) (S.set v s0) (add nil0 Tr) := ⟨fun j hj => by
        have z := st.pi j hj
        rw [wipe_at] at z ⊢
        by_cases y : j ∈ vs ∧ j < σ.length
        · rw [if_pos ⟨List.mem_cons_of_mem _ y.1, y.2⟩] at z
          rw [if_pos y]; exact z
        · rw [if_neg y]; exact st0.pi j hj, st.sub, q, fun a => by have := ht a; have := st.le a; simp only [add, nil0]; omega, fun a n => by have := ht a; have := st.di a n; simp only [add, nil0]; omega⟩
      obtain ⟨T', st3, l3⟩ := back_slots st0 sF h2 n2 st2
      refine ⟨T', ?_, fun a => by have := l3 a; have := ht a; simp only [add, nil0] at *; omega⟩
      show St' G F H σ (backS S0 (S.set v (S0.getD v none)) vs) T'
      rw [gd]
      exact st3
abbrev W0 : WX := fun _ _ _ _ => False
theorem den_lc {wi : TI} {it : It} {tg : Tg} {vs : List Nat} {c : T} {e : E} (hpn : ∀ v, v ∈ vs → v ∉ G.pk) (hi : DenI G W wi it) : DenE G W (tLc wi (gG G tg) (tT G W0 c) (tE G W0 e) vs) (eLc it tg vs c e) := fun F H σ S T Q st z => by
  refine hi F H σ S T _ st (PR.bind z fun ds S0 y => ?_)
  intro J F1 H1 T1 s1 st1 ⟨Y, w, hY⟩ L hL
  by_cases hc : (vs.all (fzAt S0) && noDup vs && tg.sl.all vs.contains) = true
  case neg => rw [if_neg hc] at y; exact y.elim
  rw [if_pos hc] at y
  obtain ⟨hc1, hc3⟩ := Bool.and_eq_true_iff.mp hc
  obtain ⟨hc1, hc2⟩ := Bool.and_eq_true_iff.mp hc1
  have tgv : ∀ j, j ∈ tg.sl → j ∈ vs := fun j hj => by simpa using List.all_eq_true.mp hc3 j hj
  -- what the loop is to reach
  let Fin : R (List D) → Prop := fun r => match r with
    | .ok acc S' => KE G F H σ T Q (.li .fz, .lst acc) (backS S0 S' vs)
    | _ => False
  have y : Fin (cLoop tg vs c e ds [] (wipeS S0 vs)) := by
    cases q : cLoop tg vs c e ds [] (wipeS S0 vs) with
    | ok acc S' => rw [q] at y; exact y
    | exc x S' => rw [q] at y; exact y
    | bad => rw [q] at y; exact y
  obtain ⟨stN, sN, leN, fN⟩ := st1.newT (o := .lst []) hL
  obtain ⟨Tw, stw, lw⟩ := wipe_slots stN vs hpn
  have sB : Step F H T F1 (upd H1 L (.lst [])) (add Tw (one L)) := (s1.trans sN).less fun a => by have := lw a; simp only [add]; omega
  have tL : T1 L = 0 := by have := leN L; simp only [one, if_pos] at this; omega
  let Inv (i : Nat) (H' : Hp) : Prop := ∃ F' S' T' av acc, St' G F' H' (L2.wipe σ vs) S' T' ∧ Step F H T F' H' (add T' (one L)) ∧ Same F1 F' ∧ H' L = some (.lst av) ∧ Reps G F' av acc ∧ T' L = 0 ∧ F' L = none ∧ Fin (cLoop tg vs c e (ds.drop i) acc S')
  refine L2.lc_it w Inv ⟨F1, wipeS S0 vs, Tw, [], [], stw, sB, Same.refl F1, upd_same, .nil, by have := lw L; omega, fN, y⟩ (fun i H' _ ⟨F', S', T', av, acc, st', _, sf, _⟩ => sf.trans st'.sub) ?_ ?_
  · rintro i x H2 H3 hi' ⟨F2, S2, T2, av, acc, st2, s2, sf2, hl2, ra2, t2, f2, p⟩ hy
    have yd := hY i H2 x H3 ds[i] (List.getElem?_eq_getElem hi') hy
    rw [List.drop_eq_getElem_cons hi'] at p
    unfold cLoop at p
    cases ep : tg.put ds[i] S2 with
    | none => rw [ep] at p; exact p.elim
    | some S3 =>
      rw [ep] at p
      have p : Fin ((c S3).bind fun b => if b then M.bind (eDat e) fun y S => if acc.length < sizeMax then cLoop tg vs c e (ds.drop (i + 1)) (acc ++ [y]) (wipeS S vs) else .bad else fun S => cLoop tg vs c e (ds.drop (i + 1)) acc (wipeS S vs)) := p
      have turn : ∀ F3 H3, Step F H T F3 H3 (add T2 (one L)) → St' G F3 H3 (L2.wipe σ vs) S2 T2 → Same F1 F3 → H3 L = some (.lst av) → Reps G F3 av acc → F3 L = none → Rep G F3 x ds[i] →
          gG G tg x (L2.wipe σ vs) H3 fun σ2 H2 => L2.wipe σ2 vs = L2.wipe σ vs ∧ tT G W0 c σ2 H2 fun b H3 => if b = true then tE G W0 e σ2 H3 fun y H4 => ∃ acc, H4 L = some (.lst acc) ∧ acc.length < sizeLine ∧ Inv (i + 1) (upd H4 L (.lst (acc ++ [y]))) else Inv (i + 1) H3 := by
        intro F3 H3 s3 st3 sf3 hl3 ra3 f3 r3
        refine ⟨F3, S2, T2, ds[i], S3, st3, r3, ep, fun σ4 T4 st4 l4 a4 => ?_⟩
        have lens : σ4.length = σ.length := by
          have a := st4.sl.len
          have : ∀ (t : Tg) (d : D) (S S' : List Slot), t.put d S = some S' → S'.length = S.length := by
            intro t
            apply Tg.rec (motive_1 := fun t => ∀ (d : D) (S S' : List Slot), t.put d S = some S' → S'.length = S.length) (motive_2 := fun ts => ∀ (d : List D) (S S' : List Slot), Tg.puts ts d S = some S' → S'.length = S.length)
            · intro i d S S' h
              unfold Tg.put at h
              split at h
              · cases h; simp
              · cases h
            · intro is ih d S S' h
              unfold Tg.put at h
              split at h
              · exact ih _ _ _ h
              · cases h
            · intro d S S' h
              cases d with
              | nil => unfold Tg.puts at h; cases h; rfl
              | cons a b => unfold Tg.puts at h; cases h
            · intro t ts i1 i2 d S S' h
              cases d with
              | nil => unfold Tg.puts at h; cases h
              | cons a b =>
                unfold Tg.puts at h
                cases q : Tg.put t a S with
                | none => rw [q] at h; cases h
                | some S1 => rw [q] at h; exact (i2 _ _ _ h).trans (i1 _ _ _ q)
          have b := this tg ds[i] _ _ ep
          have c := st3.sl.len
          rw [L2.wipe_length] at c
          omega
        refine ⟨(wipe_eq (σ := L2.wipe σ vs) (by rw [L2.wipe_length]; exact lens) fun j hj => a4 j fun z => hj (tgv j z)).trans (wipe_wipe σ vs), ?_⟩
        have hTz : ∀ a, T4 a ≤ T2 a := l4
        have s4 : Step F H T F3 H3 (add T4 (one L)) := s3.less fun a => by have := hTz a; simp only [add]; omega
        have fr : ∀ {F5 H5 : Hp} {T5 : Cnt}, Step F3 H3 T4 F5 H5 T5 → Step F H T F5 H5 (add T5 (one L)) ∧ T5 L = 0 ∧ H5 L = some (.lst av) ∧ F5 L = none := by
          intro F5 H5 T5 s5
          have tl : ∀ a, T4 a + one L a ≤ 1 := fun a => by
            unfold one
            split
            · rename_i q; have := hTz a; rw [q] at this ⊢; omega
            · have := st4.le a; omega
          have oh : ∀ a, one L a ≠ 0 → H3 a ≠ none := fun a n => by
            unfold one at n
            split at n
            · rename_i q; rw [q, hl3]; simp
            · exact absurd rfl n
          obtain ⟨b1, b2, b3⟩ := s5.frame tl oh
          have oL : one L L ≠ 0 := by simp [one]
          refine ⟨s4.trans b1, b2 L oL, b3 L _ oL hl3, ?_⟩
          cases q : F5 L with
          | none => rfl
          | some o =>
            rcases s5.nF L f3 (by rw [q]; simp) with z | z | z
            · rw [hl3] at z; cases z
            · have := hTz L; omega
            · rw [hl3] at z; rcases z with ⟨_, z⟩ | ⟨_, _, z⟩ <;> cases z
        refine ⟨F3, S3, T4, st4, ?_⟩
        cases ec : c S3 with
        | bad => rw [ec] at p; exact p.elim
        | exc x S5 => rw [ec] at p; exact p.elim
        | ok b S5 =>
          rw [ec] at p
          intro F5 H5 T5 s5 st5
          obtain ⟨g1, g2, g3, g4⟩ := fr s5
          have wback : ∀ {F6 H6 T6 S6}, St' G F6 H6 σ4 S6 T6 → ∃ T7, St' G F6 H6 (L2.wipe σ vs) (wipeS S6 vs) T7 ∧ ∀ a, T7 a ≤ T6 a := fun {F6 H6 T6 S6} st6 => by
            obtain ⟨T7, st7, l7⟩ := wipe_slots st6 vs hpn
            have ew : L2.wipe σ4 vs = L2.wipe σ vs := (wipe_eq (σ := L2.wipe σ vs) (by rw [L2.wipe_length]; exact lens) fun j hj => a4 j fun z => hj (tgv j z)).trans (wipe_wipe σ vs)
            rw [ew] at st7
            exact ⟨T7, st7, l7⟩
          cases b with
          | false =>
            obtain ⟨T7, st7, l7⟩ := wback st5
            exact ⟨F5, wipeS S5 vs, T7, av, acc, st7, g1.less fun a => by have := l7 a; simp only [add]; omega, sf3.trans s5.sF, g3, ra3.mono s5.sF, by have := l7 L; omega, g4, p⟩
          | true =>
            have p : Fin ((eDat e S5).bind fun y S => if acc.length < sizeMax then cLoop tg vs c e (ds.drop (i + 1)) (acc ++ [y]) (wipeS S vs) else .bad) := p
            refine ⟨F5, S5, T5, st5, ?_⟩
            cases ee : e S5 with
            | bad => unfold eDat M.bind at p; rw [ee] at p; exact p.elim
            | exc x S6 => unfold eDat M.bind at p; rw [ee] at p; exact p.elim
            | ok kd S6 =>
              obtain ⟨kk, dd⟩ := kd
              unfold eDat M.bind at p
              rw [ee] at p
              have p : Fin (if acc.length < sizeMax then cLoop tg vs c e (ds.drop (i + 1)) (acc ++ [dd]) (wipeS S6 vs) else .bad) := p
              by_cases hz : acc.length < sizeMax
              · rw [if_pos hz] at p
                intro v F6' H6 T6 f6 s6' st6' o6 le6 di6
                obtain ⟨F6, s6, st6, r6, _⟩ := freeze_core s6' st6' o6 le6 di6
                obtain ⟨k1, k2, k3, k4⟩ := fr (s5.trans s6)
                obtain ⟨T7, st7, l7⟩ := wback st6
                have ra6 : Reps G F6 av acc := (ra3.mono s5.sF).mono s6.sF
                have t7 : T7 L = 0 := by have := l7 L; omega
                refine ⟨av, k3, by rw [ra6.len]; exact hz, F6, wipeS S6 vs, T7, av ++ [v], acc ++ [dd], ⟨st7.pi, fun a u ea => ?_, st7.sl.mono (Same.refl F6) fun a u n ea => ?_, st7.le, st7.di⟩, ?_, (sf3.trans s5.sF).trans s6.sF, upd_same, ?_, t7, k4, p⟩
                · rw [upd_ne (fun q => by rw [q, k4] at ea; cases ea)]; exact st7.sub _ _ ea
                · rw [upd_ne (fun q => n (by rw [q]; exact t7))]; exact ea
                · refine (k1.less (T2 := add T7 (one L)) fun a => by have := l7 a; simp only [add]; omega).trans (Step.put ?_)
                  simp [add, one]
                · clear p
                  have : ∀ {xs : List V} {ys : List D}, Reps G F6 xs ys → Reps G F6 (xs ++ [v]) (ys ++ [dd]) := by
                    intro xs
                    induction xs with
                    | nil => intro ys h; cases h; exact .cons r6 .nil
                    | cons a xs ih => intro ys h; cases h with | cons h1 h2 => exact .cons h1 (ih h2)
                  exact this ra6
              · rw [if_neg hz] at p; exact p.elim
      rcases yd with ⟨e1, r⟩ | ⟨pp, vv, dd, e1, hp, e2, e3, r⟩
      · subst e1
        exact turn F2 H3 s2 st2 sf2 hl2 ra2 f2 (r.mono sf2)
      · subst e1 e2
        obtain ⟨st3, s3⟩ := st2.newF (o := .tup vv) hp
        have np : L ≠ pp := ne_of_none hl2 hp
        have tp : T2 pp = 0 := Decidable.byContradiction fun n => st2.there pp n hp
        have s3' : Step F2 H2 (add T2 (one L)) (upd F2 pp (.tup vv)) (upd H2 pp (.tup vv)) (add T2 (one L)) := Step.newF hp st2.sub (by simp only [add, one, if_neg (Ne.symm np)]; omega)
        refine turn _ _ (s2.trans s3') st3 (sf2.trans s3.sF) (by rw [upd_ne np]; exact hl2) (ra2.mono s3.sF) (by rw [upd_ne np]; exact f2) ?_
        rw [e3]
        exact .tup (.inl (.inl upd_same)) ((r.mono sf2).mono s3.sF)
  · rintro H2 ⟨F2, S2, T2, av, acc, st2, s2, sf2, hl2, ra2, t2, f2, p⟩
    rw [List.drop_length] at p
    have p : KE G F H σ T Q (.li .fz, .lst acc) (backS S0 S2 vs) := p
    obtain ⟨T3, st3, l3⟩ := back_slots st1 sf2 hc1 hc2 st2
    refine p (.ref L) F2 H2 T3 (add (one L) nil0) (s2.less fun a => by have := l3 a; simp only [add, nil0]; omega) st3 (.li hl2 (owns_fz ra2)) (fun a => ?_) fun a n => ?_
    · have l := l3 a
      simp only [add, nil0, one]
      split
      · rename_i q; rw [q] at l ⊢; omega
      · have := st2.le a; omega
    · simp only [add, nil0, one]
      split
      · rename_i q; rw [q] at n; exact absurd f2 n
      · rfl
theorem pins_ok {own : List (PySem.Str × Nat)} (h : (own.map (·.2)).all (fun v => !G.pk.contains v) = true) : ∀ v, v ∈ own.map (·.2) → v ∉ G.pk := fun v hv => pin_ok (by simpa using List.all_eq_true.mp h v hv)
theorem tr_lc {elt tg iter : Expr} {ifs : List Expr} {scope : Scope} {own : List (PySem.Str × Nat)} {pos : Pos} {it : It} {t : Tg} {c : T} {e : E} (C : Cok X G W k) (hi : TrI X G W tg iter it) (ok : BlkOk X.N X.env.scope scope own)
    (hg : ∀ (s : Shared) (H : Hp) (C : Addr) (cl : List (PySem.Str × Addr)) (fp : List Addr), TrG (X.blk s H scope (compEnvC scope cl C X.env) fp) G tg t)
    (ht : ∀ (s : Shared) (H : Hp) (C : Addr) (cl : List (PySem.Str × Addr)) (fp : List Addr), Cok (X.blk s H scope (compEnvC scope cl C X.env) fp) G W0 k → TrTs (X.blk s H scope (compEnvC scope cl C X.env) fp) G W0 ifs c)
    (he : ∀ (s : Shared) (H : Hp) (C : Addr) (cl : List (PySem.Str × Addr)) (fp : List Addr), Cok (X.blk s H scope (compEnvC scope cl C X.env) fp) G W0 k → TrE (X.blk s H scope (compEnvC scope cl C X.env) fp) G W0 elt e) (hs : ∀ x, foldedSetIterable iter X.env x = pure x := by intro _; rfl) (hpn : (own.map (·.2)).all (fun v => !G.pk.contains v) = true := by rfl) :
    TrE X G W (.ListComp elt [⟨tg, iter, ifs, 0⟩] scope pos) (eLc it t (own.map (·.2)) c e) := by
  obtain ⟨wi, p, d⟩ := hi
  have cb : ∀ (s : Shared) (H : Hp) (A : Addr) (cl : List (PySem.Str × Addr)) (fp : List Addr), Cok (X.blk s H scope (compEnvC scope cl A X.env) fp) G W0 k := fun s H A cl fp => ⟨C.hK, takesN0, PassesOwn.never, C.calm, C.room, C.nd⟩
  exact ⟨_, pe_lc C.calm C.nd p ok (fun s H A cl fp => (hg s H A cl fp).can) (fun s H A cl fp => ht s H A cl fp (cb s H A cl fp)) (fun s H A cl fp => (he s H A cl fp (cb s H A cl fp)).can) hs, den_lc (pins_ok hpn) d⟩
end
end TB
namespace TB
open PySem PyProof.Rows L2
inductive Args (G : Cfg) (F H : Hp) : List KD → List V → Cnt → Prop
  | nil : Args G F H [] [] nil0
  | cons {k : Kd} {d : D} {v : V} {as : List KD} {vs : List V} {f g : Cnt} : Own G F H k v d f → Args G F H as vs g → Args G F H ((k, d) :: as) (v :: vs) (add f g)
/-- the owned arguments behind the call -/
inductive Outs (G : Cfg) (F H : Hp) : List KD → List V → List KD → Cnt → Prop
  | nil : Outs G F H [] [] [] nil0
  | skip {k : Kd} {d : D} {v : V} {as : List KD} {vs : List V} {os : List KD} {g : Cnt} : k.isF = true → Outs G F H as vs os g → Outs G F H ((k, d) :: as) (v :: vs) os g
  | own {k k' : Kd} {d d' : D} {v : V} {as : List KD} {vs : List V} {os : List KD} {f g : Cnt} : k.isF = false → k'.isF = false → Own G F H k' v d' f → Outs G F H as vs os g → Outs G F H ((k, d) :: as) (v :: vs) ((k', d') :: os) (add f g)
def spF (G : Cfg) (n : Nat) (fn : Fn) : Sp := fun vs H Q E => ∃ F T as, vs.length = n ∧ Same F H ∧ Args G F H as vs T ∧ (∀ a, T a ≤ 1) ∧ (∀ a, F a ≠ none → T a = 0) ∧ match fn as with
  | .ret r os => ∀ v F' H' T' f, Step F H T F' H' (add T' f) → Same F' H' → Outs G F' H' as vs os T' → Own G F' H' r.1 v r.2 f → (∀ a, T' a + f a ≤ 1) → (∀ a, F' a ≠ none → T' a + f a = 0) → Q v H'
  | .exc x os => ∀ cls dx F' H' T', Step F H T F' H' T' → Same F' H' → Outs G F' H' as vs os T' → (∀ a, T' a ≤ 1) → (∀ a, F' a ≠ none → T' a = 0) → ExcR G x cls dx H' → E cls dx H'
  | .bad => False
theorem Args.len {G : Cfg} {F H : Hp} {as : List KD} {vs : List V} {T : Cnt} (h : Args G F H as vs T) : as.length = vs.length := by
  induction h with
  | nil => rfl
  | cons _ _ ih => simp [ih]
theorem slots_none {G : Cfg} {F H : Hp} : ∀ n, Slots G F H (List.replicate n none) (List.replicate n none) nil0
  | 0 => .nil
  | n + 1 => by
    have : Slots G F H (none :: List.replicate n none) (none :: List.replicate n none) (add nil0 nil0) := .cons (.no none) (slots_none n)
    exact this
theorem Args.slots {G : Cfg} {F H : Hp} {as : List KD} {vs : List V} {T : Cnt} (h : Args G F H as vs T) (n : Nat) : Slots G F H (vs.map some ++ List.replicate n none) (as.map some ++ List.replicate n none) T := by
  induction h with
  | nil => exact slots_none n
  | cons o _ ih => exact .cons (.yes o) ih
theorem outs_of {G : Cfg} {F H : Hp} : ∀ {as : List KD} {vs : List V} {S : List Slot} {σ : L2.St} {T : Cnt} {os : List KD} (i : Nat), Slots G F H σ S T → (∀ j (h : j < vs.length), (match as[j]? with | some a => a.1.isF = false | none => False) → σ[j]? = some (some vs[j])) →
    as.length = vs.length → outsOf as S = some os → ∃ T', Outs G F H as vs os T' ∧ ∀ a, T' a ≤ T a
  | [], [], _, _, _, _, _, _, _, _, e => by
    unfold outsOf at e; cases e; exact ⟨nil0, .nil, fun a => Nat.zero_le _⟩
  | [], _ :: _, _, _, _, _, _, _, _, hl, _ => by simp at hl
  | _ :: _, [], _, _, _, _, _, _, _, hl, _ => by simp at hl
  | (k, d) :: as, v :: vs, S, σ, T, os, i, hs, hp, hl, e => by
    cases hs with
    | nil => unfold outsOf at e; cases e
    | @cons w s f g σ S h1 h2 =>
      unfold outsOf at e
      have hl' : as.length = vs.length := by simpa using hl
      have hp' : ∀ j (h : j < vs.length), (match as[j]? with | some a => a.1.isF = false | none => False) → σ[j]? = some (some vs[j]) := fun j h z => by
        have := hp (j + 1) (by simp; omega) (by simpa using z)
        simpa using this
      cases hk : k.isF with
      | true =>
        rw [hk, if_pos rfl] at e
        obtain ⟨T', o, l⟩ := outs_of (i + 1) h2 hp' hl' e
        exact ⟨T', .skip hk o, fun a => by have := l a; simp only [add]; omega⟩
      | false =>
        rw [hk, if_neg (by simp)] at e
        cases s with
        | none => cases e
        | some kd =>
          obtain ⟨k', d'⟩ := kd
          cases hk' : k'.isF with
          | true => simp [hk'] at e
          | false =>
            simp only [hk', Bool.false_eq_true, if_false] at e
            cases e2 : outsOf as S with
            | none => rw [e2] at e; cases e
            | some os2 =>
              rw [e2] at e
              cases e
              obtain ⟨T', o, l⟩ := outs_of (i + 1) h2 hp' hl' e2
              cases h1 with
              | @yes k1 v1 d1 f1 ow =>
                have := hp 0 (by simp) (by simpa using hk)
                have ev : v1 = v := by simpa using this
                subst ev
                exact ⟨add f T', .own hk hk' ow o, fun a => by have := l a; simp only [add]; omega⟩
theorem pinned_at : ∀ {pk : List Nat} {as : List KD} {i : Nat}, pinned pk i as = true → ∀ j, (match as[j]? with | some a => a.1.isF = false | none => False) → i + j ∈ pk
  | _, [], _, _, j, z => by simp at z
  | pk, (k, d) :: as, i, h, 0, z => by
    unfold pinned at h
    obtain ⟨h1, _⟩ := Bool.and_eq_true_iff.mp h
    have z : k.isF = false := by simpa using z
    rw [z, Bool.false_or] at h1
    simpa using h1
  | pk, (k, d) :: as, i, h, j + 1, z => by
    unfold pinned at h
    obtain ⟨_, h2⟩ := Bool.and_eq_true_iff.mp h
    have := pinned_at h2 j (by simpa using z)
    rw [show i + (j + 1) = i + 1 + j by omega]; exact this
/-- the pins of a body: the slots pk hold what they held at the start -/
def pinG (G : Cfg) (pk : List Nat) (σ : L2.St) : Cfgx := { G with pk := pk, pv := fun i => (σ[i]?).getD none }
abbrev cxF (P : Program) (w : World) (K : PySem.W.Frag) (mg : PySem.Str → Option Value) (base : Heap) (N : List PySem.Str) (qual : PySem.Str) (scope : Scope) (f : Addr) (cd : Value) (A : Around) (outer : List Env) (s : Shared) (H : Hp) (E : XK) : Cx := cxOf (L2N.CX P w) P w K mg base N qual scope f cd A outer s H E
theorem cok_fn {P : Program} {w : World} {G : Cfg} {mg : PySem.Str → Option Value} {base : Heap} {N : List PySem.Str} {qual : PySem.Str} {scope : Scope} {f : Addr} {cd : Value} {A : Around} {outer : List Env} {s : Shared} {H : Hp} {E : XK} {k : Nat} {pk : List Nat} {σ : L2.St} (hk : scope.kind = .function) (nd : N.Nodup) (hr : Room k (A.deeper (envOfC qual scope s.heap.objs.size f cd))) :
    Cok (cxF P w G.K mg base N qual scope f cd A outer s H E) (pinG G pk σ) (fun cls d _ H' => E cls d H') k :=
  ⟨rfl, L2N.takes_of rfl rfl rfl rfl, passes_of rfl, rfl, hr, nd⟩
/-- THE RULE of a def -/
theorem fn_ok {P : Program} {w : World} {G : Cfg} {mg : PySem.Str → Option Value} {base : Heap} {x qual : PySem.Str} {params : Arguments} {body : List Stmt} {scope : Scope} {dvs : List V} {kws : List (PySem.Str × V)} {f : Addr} {fd : FuncData} {N ps : List PySem.Str} {k : Nat} {m : St} (pk : List Nat)
    (FD : FunD G.K x qual params body scope dvs kws f fd) (S : FnScope N ps scope) (hpk : pk.all (· < ps.length) = true)
    (hb : ∀ (cdv : Value) (A : Around) (outer : List Env) (s : Shared) (H : Hp) (E : XK) (σ : L2.St), Cok (cxF P w G.K mg base N qual scope f cdv A outer s H E) (pinG G pk σ) (fun cls d _ H' => E cls d H') k → TrSs (cxF P w G.K mg base N qual scope f cdv A outer s H E) (pinG G pk σ) (fun cls d _ H' => E cls d H') body m) :
    FnOk P w G.K mg base (L2N.CX P w) (k + 1) f fd ps (spF G ps.length (runF N.length pk m)) := by
  refine FD.ok S (fun vs H Q E ⟨F, T, as, h, _⟩ => h) fun cdv A outer s H vs Q E hr ⟨F, T, as, hl, sub, ar, le, di, h⟩ => ?_
  obtain ⟨t, p, d⟩ := hb cdv A outer s H E (L2.start N vs) (cok_fn S.kind S.nd hr)
  refine ⟨t, p, ?_⟩
  have hal := ar.len
  unfold runF at h
  by_cases hp : pinned pk 0 as = true
  case neg => rw [if_neg hp] at h; exact h.elim
  rw [if_pos hp] at h
  have st : St' (pinG G pk (L2.start N vs)) F H (L2.start N vs) (as.map some ++ List.replicate (N.length - as.length) none) T := by
    refine ⟨fun i hi => ?_, sub, ?_, le, di⟩
    · have hlt : i < ps.length := by simpa using List.all_eq_true.mp hpk i hi
      have : (L2.start N vs)[i]? = some (some (vs[i]'(by omega))) := by
        unfold L2.start
        rw [List.getElem?_append_left (by simp; omega)]
        simp [hl, hlt]
      show (L2.start N vs)[i]? = some (((L2.start N vs)[i]?).getD none)
      rw [this]; rfl
    · unfold L2.start
      rw [← hal]
      exact ar.slots _
  have pinv : ∀ {F' H' : Hp} {σ' : L2.St} {S' : List Slot} {T' : Cnt}, St' (pinG G pk (L2.start N vs)) F' H' σ' S' T' → ∀ j (h : j < vs.length), (match as[j]? with | some a => a.1.isF = false | none => False) → σ'[j]? = some (some vs[j]) := fun st' j hj z => by
    have q := pinned_at hp j z
    rw [Nat.zero_add] at q
    have y := st'.pi j q
    rw [y]
    show some (((L2.start N vs)[j]?).getD none) = _
    unfold L2.start
    rw [List.getElem?_append_left (by simpa using hj)]
    simp [hj]
  refine d F H (L2.start N vs) _ T { nx := fun _ H' => Q .non H', rt := Q } st ?_
  cases e : m (as.map some ++ List.replicate (N.length - as.length) none) with
  | bad => rw [e] at h; exact h.elim
  | exc x S' =>
    rw [e] at h
    intro σ' cls dx F' H' T' s' st' ex
    cases eo : outsOf as S' with
    | none => simp only [eo] at h
    | some os =>
      simp only [eo] at h
      obtain ⟨T2, o2, l2⟩ := outs_of 0 st'.sl (pinv st') hal eo
      exact h cls dx F' H' T2 (s'.less l2) st'.sub o2 (fun a => Nat.le_trans (l2 a) (st'.le a)) (fun a n => by have := st'.di a n; have := l2 a; omega) ex
  | ok fl S' =>
    rw [e] at h
    cases fl with
    | bk => exact h.elim
    | ct => exact h.elim
    | nx =>
      have h : match frOf as (.fz, .non) S' with | .ret r os => _ | .exc x os => _ | .bad => False := h
      intro σ' F' H' T' s' st'
      unfold frOf at h
      cases eo : outsOf as S' with
      | none => simp only [eo] at h
      | some os =>
        simp only [eo] at h
        obtain ⟨T2, o2, l2⟩ := outs_of 0 st'.sl (pinv st') hal eo
        exact h .non F' H' T2 nil0 (s'.less l2) st'.sub o2 (.fz .non) (fun a => by have := l2 a; have := st'.le a; simp only [nil0]; omega) fun a n => by have := st'.di a n; have := l2 a; simp only [nil0]; omega
    | rt r =>
      have h : match frOf as r S' with | .ret r os => _ | .exc x os => _ | .bad => False := h
      intro v σ' F' H' T' f' s' st' o lo dd
      unfold frOf at h
      cases eo : outsOf as S' with
      | none => simp only [eo] at h
      | some os =>
        simp only [eo] at h
        obtain ⟨T2, o2, l2⟩ := outs_of 0 st'.sl (pinv st') hal eo
        exact h v F' H' T2 f' (s'.less fun a => by have := l2 a; simp only [add]; omega) st'.sub o2 o (fun a => by have := l2 a; have := lo a; omega) fun a n => by have := st'.di a n; have := dd a n; have := l2 a; omega
end TB
namespace TB
open PySem PyProof.Rows L2
inductive AVs (G : Cfg) (F H : Hp) (σ : L2.St) : List AV → List V → Cnt → Prop
  | nil : AVs G F H σ [] [] nil0
  | v {d : D} {x : V} {as : List AV} {vs : List V} {g : Cnt} : Rep G F x d → AVs G F H σ as vs g → AVs G F H σ (.v d :: as) (x :: vs) g
  | o {kd : KD} {x : V} {as : List AV} {vs : List V} {f g : Cnt} : kd.1.isF = false → Own G F H kd.1 x kd.2 f → AVs G F H σ as vs g → AVs G F H σ (.o kd :: as) (x :: vs) (add f g)
  | b {i : Nat} {x : V} {as : List AV} {vs : List V} {g : Cnt} : σ[i]? = some (some x) → AVs G F H σ as vs g → AVs G F H σ (.b i :: as) (x :: vs) g
theorem AVs.mono {G : Cfg} {F F' H H' : Hp} {σ : L2.St} {as : List AV} {vs : List V} {f : Cnt} (e : Same F F') (h : AVs G F H σ as vs f) (m : ∀ a o, f a ≠ 0 → H a = some o → H' a = some o) : AVs G F' H' σ as vs f := by
  induction h with
  | nil => exact .nil
  | v r _ ih => exact .v (r.mono e) (ih m)
  | o k o _ ih => exact .o k (o.mono e fun a u n => m a u (by simp only [add]; omega)) (ih fun a u n => m a u (by simp only [add]; omega))
  | b x _ ih => exact .b x (ih m)
theorem AVs.there {G : Cfg} {F H : Hp} {σ : L2.St} {as : List AV} {vs : List V} {f : Cnt} (h : AVs G F H σ as vs f) (a : Addr) (n : f a ≠ 0) : H a ≠ none := by
  induction h with
  | nil => exact absurd rfl n
  | v _ _ ih => exact ih n
  | @o _ _ _ _ f g _ o _ ih =>
    by_cases q : f a = 0
    · exact ih (by simp only [add] at n; omega)
    · exact o.there a q
  | b _ _ ih => exact ih n
def KAr (G : Cfgx) (F H : Hp) (σ : L2.St) (T : Cnt) (Q : List V → Hp → Prop) (as : List AV) (S' : List Slot) : Prop :=
  ∀ vs F' H' T' f, Step F H T F' H' (add T' f) → St' G F' H' σ S' T' → AVs G F' H' σ as vs f → (∀ a, T' a + f a ≤ 1) → (∀ a, F' a ≠ none → f a = 0) → Q vs H'
def DenAr (G : Cfgx) (W : WX) (t : TA) (m : M (List AV)) : Prop := ∀ F H σ S T Q, St' G F H σ S T → PR G W F H σ T (KAr G F H σ T Q) (m S) → t σ H Q
def TrAr (X : Cx) (G : Cfgx) (W : WX) (es : List Expr) (as : List Ar) : Prop := ∃ t, PA X es t ∧ DenAr G W t (arEv as)
section
variable {X : Cx} {G : Cfgx} {W : WX} {k : Nat}
theorem tar_nil : TrAr X G W [] [] := ⟨_, pa_nil, fun F H σ S T Q st p => (show KAr G F H σ T Q [] S from p) [] F H T nil0 ((Step.refl F H T).castR fun a => rfl) st .nil (fun a => st.le a) fun _ _ => rfl⟩
theorem tar_v {e : Expr} {es : List Expr} {m : E} {ms : List Ar} (h : TrE X G W e m) (r : TrAr X G W es ms) (hs : starEach (e :: es) X.env = (false, eval e X.env) :: starEach es X.env := by rfl) : TrAr X G W (e :: es) (.v m :: ms) := by
  obtain ⟨t, hp, hd⟩ := h
  obtain ⟨u, hq, hu⟩ := r
  refine ⟨_, pa_cons hp hq hs, fun F H σ S T Q st p => ?_⟩
  have p : PR G W F H σ T (KAr G F H σ T Q) ((eDat m S).bind fun d => M.bind (arEv ms) fun r => M.pure (.v d :: r)) := p
  refine hd.dat F H σ S T _ st (PR.bind p fun d S1 q => ?_)
  intro v F1 H1 T1 s1 st1 r1
  refine hu F1 H1 σ S1 T1 _ st1 (PR.bind (PR.re s1 (fun _ _ h => h) q) fun ds S2 q2 => ?_)
  intro vs F2 H2 T2 f2 s2 st2 r2 le2 di2
  have q2 : KAr G F H σ T Q (.v d :: ds) S2 := q2
  exact q2 (v :: vs) F2 H2 T2 f2 (s1.trans s2) st2 (.v (r1.mono s2.sF) r2) le2 di2
theorem tar_o {e : Expr} {es : List Expr} {m : E} {ms : List Ar} (h : TrE X G W e m) (r : TrAr X G W es ms) (hs : starEach (e :: es) X.env = (false, eval e X.env) :: starEach es X.env := by rfl) : TrAr X G W (e :: es) (.o m :: ms) := by
  obtain ⟨t, hp, hd⟩ := h
  obtain ⟨u, hq, hu⟩ := r
  refine ⟨_, pa_cons hp hq hs, fun F H σ S T Q st p => ?_⟩
  have p : PR G W F H σ T (KAr G F H σ T Q) ((m S).bind fun kd => M.bind (arEv ms) fun r => if kd.1.isF then fun _ => .bad else M.pure (.o kd :: r)) := p
  refine hd F H σ S T _ st (PR.bind p fun kd S1 q => ?_)
  intro v F1 H1 T1 f1 s1 st1 o1 le1 di1
  refine hu F1 H1 σ S1 T1 _ st1 (PR.bind (PR.re (s1.less (T2 := T1) fun a => by simp only [add]; omega) (fun _ _ h => h) q) fun ds S2 q2 => ?_)
  intro vs F2 H2 T2 f2 s2 st2 r2 le2 di2
  cases hk : kd.1.isF with
  | true => rw [hk, if_pos rfl] at q2; exact q2.elim
  | false =>
    rw [hk, if_neg (by simp)] at q2
    have q2 : KAr G F H σ T Q (.o kd :: ds) S2 := q2
    have th : ∀ a, f1 a ≠ 0 → H1 a ≠ none := fun a n => o1.there a n
    obtain ⟨b1, b2, b3⟩ := s2.frame le1 th
    refine q2 (v :: vs) F2 H2 T2 (add f1 f2) (s1.trans (b1.castR fun a => by simp only [add]; omega)) st2 (.o hk (o1.mono s2.sF b3) r2) (fun a => ?_) fun a n => ?_
    · by_cases z : f1 a = 0
      · have := le2 a; simp only [add]; omega
      · have y := b2 a z; have := le1 a; simp only [add] at y ⊢; omega
    · by_cases z : f1 a = 0
      · have := di2 a n; simp only [add]; omega
      · have y := b2 a z
        exfalso
        by_cases w : F1 a = none
        · rcases s2.nF a w n with u | u | u
          · exact th a z u
          · have := le1 a; omega
          · exact o1.noT a z u
        · exact z (di1 a w)
theorem tar_b (i : Nat) {x : PySem.Str} {pos : Pos} {es : List Expr} {ms : List Ar} (r : TrAr X G W es ms) (hN : X.N[i]? = some x := by rfl) (hv : Vis X.env.scope x := by first | exact Or.inl rfl | exact Or.inr (Or.inl rfl) | exact Or.inr (Or.inr rfl)) (hd : (x == ("__debug__" : PySem.Str)) = false := by decide)
    (hcd : (x == ("__classdict__" : PySem.Str)) = false := by decide) (hs : starEach (.Name x pos :: es) X.env = (false, eval (.Name x pos) X.env) :: starEach es X.env := by rfl) : TrAr X G W (.Name x pos :: es) (.b i :: ms) := by
  obtain ⟨u, hq, hu⟩ := r
  refine ⟨_, pa_cons (pe_var hN hv hd hcd) hq hs, fun F H σ S T Q st p => ?_⟩
  unfold arEv at p
  cases e : S[i]? with
  | none => simp only [e] at p; exact p.elim
  | some s =>
    cases s with
    | none => simp only [e] at p; exact p.elim
    | some kd =>
      simp only [e] at p
      obtain ⟨kk, d⟩ := kd
      obtain ⟨v, f, hv, _⟩ := st.sl.var e
      have p : PR G W F H σ T (KAr G F H σ T Q) ((arEv ms S).bind fun r => M.pure (.b i :: r)) := p
      refine ⟨v, hv, hu F H σ S T _ st (PR.bind p fun ds S2 q2 => ?_)⟩
      intro vs F2 H2 T2 f2 s2 st2 r2 le2 di2
      exact (show KAr G F H σ T Q (.b i :: ds) S2 from q2) (v :: vs) F2 H2 T2 f2 s2 st2 (.b hv r2) le2 di2
end
/-- which arguments are owned -/
inductive AKs : List AV → List KD → Prop
  | nil : AKs [] []
  | v {d : D} {as : List AV} {ks : List KD} : AKs as ks → AKs (.v d :: as) ((.fz, d) :: ks)
  | o {kd : KD} {as : List AV} {ks : List KD} : kd.1.isF = false → AKs as ks → AKs (.o kd :: as) (kd :: ks)
  | b {i : Nat} {kd : KD} {as : List AV} {ks : List KD} : kd.1.isF = false → AKs as ks → AKs (.b i :: as) (kd :: ks)
theorem ar_in {G : Cfg} {F H : Hp} {σ : L2.St} {avs : List AV} {vs : List V} {f : Cnt} (h : AVs G F H σ avs vs f) : ∀ {S S1 : List Slot} {T : Cnt} {ks : List KD}, Slots G F H σ S T → arIn avs S = some (ks, S1) →
    ∃ Ta Tr, Args G F H ks vs Ta ∧ Slots G F H σ S1 Tr ∧ AKs avs ks ∧ ∀ a, Ta a + Tr a ≤ T a + f a := by
  induction h with
  | nil =>
    intro S S1 T ks st e
    unfold arIn at e
    cases e
    exact ⟨nil0, T, .nil, st, .nil, fun a => by simp only [nil0]; omega⟩
  | @v d x as vs g r _ ih =>
    intro S S1 T ks st e
    unfold arIn at e
    cases e1 : arIn as S with
    | none => rw [e1] at e; cases e
    | some q =>
      rw [e1] at e
      cases e
      obtain ⟨Ta, Tr, h1, h2, h3, h4⟩ := ih st e1
      exact ⟨add nil0 Ta, Tr, .cons (.fz r) h1, h2, .v h3, fun a => by have := h4 a; simp only [add, nil0]; omega⟩
  | @o kd x as vs f g hk o _ ih =>
    intro S S1 T ks st e
    unfold arIn at e
    cases e1 : arIn as S with
    | none => rw [e1] at e; cases e
    | some q =>
      rw [e1] at e
      cases e
      obtain ⟨Ta, Tr, h1, h2, h3, h4⟩ := ih st e1
      exact ⟨add f Ta, Tr, .cons o h1, h2, .o hk h3, fun a => by have := h4 a; simp only [add]; omega⟩
  | @b i x as vs g hx _ ih =>
    intro S S1 T ks st e
    unfold arIn at e
    cases es : S[i]? with
    | none => simp only [es] at e; cases e
    | some s =>
      cases s with
      | none => simp only [es] at e; cases e
      | some kd =>
        simp only [es] at e
        cases hk : kd.1.isF with
        | true => rw [hk, if_pos rfl] at e; cases e
        | false =>
          rw [hk, if_neg (by simp)] at e
          obtain ⟨v0, f0, T0, ht, hv, ho, back⟩ := st.at es
          cases e1 : arIn as (S.set i none) with
          | none => rw [e1] at e; cases e
          | some q =>
            rw [e1] at e
            cases e
            have st2 := back F H (some x) none nil0 (Same.refl F) (fun _ _ _ h => h) (.no _)
            have e2 : σ.set i (some x) = σ := by
              obtain ⟨hi, q1⟩ := List.getElem?_eq_some_iff.mp hx
              rw [← q1, List.set_getElem_self]
            rw [e2] at st2
            obtain ⟨Ta, Tr, h1, h2, h3, h4⟩ := ih st2 e1
            rw [hx] at hv
            cases hv
            cases ho with
            | yes o => exact ⟨add f0 Ta, Tr, .cons o h1, h2, .b hk h3, fun a => by have := h4 a; have := ht a; simp only [add, nil0] at *; omega⟩
theorem ar_out {G : Cfg} {F H F0 H0 : Hp} {σ : L2.St} {avs : List AV} {vs : List V} {f : Cnt} (h : AVs G F0 H0 σ avs vs f) : ∀ {S1 S2 : List Slot} {Tr To : Cnt} {ks os : List KD}, AKs avs ks → Outs G F H ks vs os To → Slots G F H σ S1 Tr → arOut avs os S1 = some S2 →
    ∃ T2, Slots G F H σ S2 T2 ∧ ∀ a, T2 a ≤ To a + Tr a := by
  induction h with
  | nil =>
    intro S1 S2 Tr To ks os ak ou st e
    cases ak
    cases ou
    unfold arOut at e
    cases e
    exact ⟨Tr, st, fun a => by simp only [nil0]; omega⟩
  | v r _ ih =>
    intro S1 S2 Tr To ks os ak ou st e
    cases ak with
    | v ak =>
      cases ou with
      | skip _ ou => unfold arOut at e; exact ih ak ou st e
      | own h => cases h
  | o hk o _ ih =>
    intro S1 S2 Tr To ks os ak ou st e
    cases ak with
    | o hk ak =>
      cases ou with
      | skip h _ => rw [hk] at h; cases h
      | own _ _ o2 ou =>
        unfold arOut at e
        obtain ⟨T2, s2, l2⟩ := ih ak ou st e
        exact ⟨T2, s2, fun a => by have := l2 a; simp only [add]; omega⟩
  | @b i x as vs g hx _ ih =>
    intro S1 S2 Tr To ks os ak ou st e
    cases ak with
    | b hk ak =>
      cases ou with
      | skip h _ => rw [hk] at h; cases h
      | @own _ k' _ d' _ _ _ _ f1 g1 _ hk' o2 ou =>
        unfold arOut at e
        by_cases hi : i < S1.length
        · obtain ⟨v0, f0, T0, ht, hv, ho, back⟩ := st.at (List.getElem?_eq_getElem hi)
          have st2 := back F H (some x) (some (k', d')) f1 (Same.refl F) (fun _ _ _ h => h) (.yes o2)
          have e2 : σ.set i (some x) = σ := by
            obtain ⟨hi, q1⟩ := List.getElem?_eq_some_iff.mp hx
            rw [← q1, List.set_getElem_self]
          rw [e2] at st2
          obtain ⟨T2, s2, l2⟩ := ih ak ou st2 e
          exact ⟨T2, s2, fun a => by have := l2 a; have := ht a; simp only [add] at *; omega⟩
        · rw [List.set_eq_of_length_le (by omega)] at e
          obtain ⟨T2, s2, l2⟩ := ih ak ou st e
          exact ⟨T2, s2, fun a => by have := l2 a; simp only [add]; omega⟩
/-- the arguments stand, the callee is asked, what it leaves comes back -/
theorem call_core {G : Cfgx} {W : WX} {F H F1 H1 : Hp} {σ : L2.St} {T T1 f : Cnt} {S1 : List Slot} {avs : List AV} {vs : List V} {Q : VK} {fn : Fn} {n : Nat} (hn : ∀ ks, AKs avs ks → vs.length = n)
    (s1 : Step F H T F1 H1 (add T1 f)) (st1 : St' G F1 H1 σ S1 T1) (av : AVs G F1 H1 σ avs vs f) (le1 : ∀ a, T1 a + f a ≤ 1) (di1 : ∀ a, F1 a ≠ none → f a = 0)
    (h : PR G W F H σ T (KE G F H σ T Q) (match arIn avs S1 with
      | none => .bad
      | some (ks, S1) => match fn ks with
        | .ret r os => (match arOut avs os S1 with | some S2 => .ok r S2 | none => .bad)
        | .exc x os => (match arOut avs os S1 with | some S2 => .exc x S2 | none => .bad)
        | .bad => .bad)) : spF G n fn vs H1 Q (WE W σ) := by
  cases e : arIn avs S1 with
  | none => rw [e] at h; exact h.elim
  | some q =>
    obtain ⟨ks, S2⟩ := q
    rw [e] at h
    obtain ⟨Ta, Tr, h1, h2, h3, h4⟩ := ar_in av st1.sl e
    have le : ∀ a, Ta a + Tr a ≤ 1 := fun a => Nat.le_trans (h4 a) (le1 a)
    have di : ∀ a, F1 a ≠ none → Ta a + Tr a = 0 := fun a n => by have := h4 a; have := st1.di a n; have := di1 a n; omega
    have th : ∀ a, Tr a ≠ 0 → H1 a ≠ none := fun a n => h2.there a n
    have nt : ∀ a, Tr a ≠ 0 → ¬ TupAt (H1 a) := fun a n => h2.noT a n
    have base : Step F H T F1 H1 (add Ta Tr) := s1.less fun a => by have := h4 a; simp only [add]; omega
    refine ⟨F1, Ta, ks, hn ks h3, st1.sub, h1, fun a => by have := le a; omega, fun a n => by have := di a n; omega, ?_⟩
    cases hf : fn ks with
    | bad => simp only [hf] at h; exact h.elim
    | ret r os =>
      simp only [hf] at h
      cases ho : arOut avs os S2 with
      | none => simp only [ho] at h; exact h.elim
      | some S3 =>
        simp only [ho] at h
        have h : KE G F H σ T Q r S3 := h
        intro v F2 H2 To f2 s2 sub2 ou o2 le2 di2
        obtain ⟨b1, b2, b3⟩ := s2.frame le th
        obtain ⟨T3, sl3, l3⟩ := ar_out av h3 ou (h2.mono s2.sF b3) ho
        have tz : ∀ a, Tr a ≠ 0 → To a = 0 ∧ f2 a = 0 := fun a n => by have := b2 a n; simp only [add] at this; omega
        have fz : ∀ a, Tr a ≠ 0 → F2 a = none := fun a n => Decidable.byContradiction fun w => by
          by_cases u : F1 a = none
          · rcases s2.nF a u w with z | z | z
            · exact th a n z
            · have := le a; omega
            · exact nt a n z
          · have := di a u; omega
        have le3 : ∀ a, T3 a + f2 a ≤ 1 := fun a => by
          have := l3 a
          by_cases z : Tr a = 0
          · have := le2 a; omega
          · have := tz a z; have := le a; omega
        refine h v F2 H2 T3 f2 (base.trans (b1.less fun a => by have := l3 a; simp only [add]; omega)) ⟨st1.pi, sub2, sl3, fun a => by have := le3 a; omega, fun a n => ?_⟩ o2 le3 fun a n => by have := di2 a n; omega
        have := l3 a
        by_cases z : Tr a = 0
        · have := di2 a n; omega
        · exact absurd (fz a z) n
    | exc x os =>
      simp only [hf] at h
      cases ho : arOut avs os S2 with
      | none => simp only [ho] at h; exact h.elim
      | some S3 =>
        simp only [ho] at h
        have h : PX G W F H σ T x S3 := h
        intro cls dx F2 H2 To s2 sub2 ou le2 di2 ex
        obtain ⟨b1, b2, b3⟩ := s2.frame le th
        obtain ⟨T3, sl3, l3⟩ := ar_out av h3 ou (h2.mono s2.sF b3) ho
        have tz : ∀ a, Tr a ≠ 0 → To a = 0 := fun a n => b2 a n
        have fz : ∀ a, Tr a ≠ 0 → F2 a = none := fun a n => Decidable.byContradiction fun w => by
          by_cases u : F1 a = none
          · rcases s2.nF a u w with z | z | z
            · exact th a n z
            · have := le a; omega
            · exact nt a n z
          · have := di a u; omega
        refine h cls dx F2 H2 T3 (base.trans (b1.less fun a => by have := l3 a; simp only [add]; omega)) ⟨st1.pi, sub2, sl3, fun a => ?_, fun a n => ?_⟩ ex
        · have := l3 a
          by_cases z : Tr a = 0
          · have := le2 a; omega
          · have := tz a z; have := le a; omega
        · have := l3 a
          by_cases z : Tr a = 0
          · have := di2 a n; omega
          · exact absurd (fz a z) n
theorem avs_len {G : Cfg} {F H : Hp} {σ : L2.St} {avs : List AV} {vs : List V} {f : Cnt} (h : AVs G F H σ avs vs f) : vs.length = avs.length := by
  induction h with
  | nil => rfl
  | v _ _ ih => simp [ih]
  | o _ _ _ ih => simp [ih]
  | b _ _ ih => simp [ih]
theorem arEv_len : ∀ (as : List Ar) (S S' : List Slot) (avs : List AV), arEv as S = .ok avs S' → avs.length = as.length
  | [], S, S', avs, h => by unfold arEv at h; cases h; rfl
  | .v e :: as, S, S', avs, h => by
    unfold arEv at h
    have h : (eDat e S).bind (fun d => M.bind (arEv as) fun r => M.pure (.v d :: r)) = .ok avs S' := h
    cases q : eDat e S with
    | ok d S1 =>
      rw [q] at h
      have h : (arEv as S1).bind (fun r => M.pure (.v d :: r)) = .ok avs S' := h
      cases q1 : arEv as S1 with
      | ok r S2 => rw [q1] at h; cases h; simp [arEv_len as _ _ _ q1]
      | exc x S2 => rw [q1] at h; cases h
      | bad => rw [q1] at h; cases h
    | exc x S1 => rw [q] at h; cases h
    | bad => rw [q] at h; cases h
  | .o e :: as, S, S', avs, h => by
    unfold arEv at h
    have h : (e S).bind (fun kd => M.bind (arEv as) fun r => if kd.1.isF then fun _ => .bad else M.pure (.o kd :: r)) = .ok avs S' := h
    cases q : e S with
    | ok kd S1 =>
      rw [q] at h
      have h : (arEv as S1).bind (fun r => if kd.1.isF then fun _ => .bad else M.pure (.o kd :: r)) = .ok avs S' := h
      cases q1 : arEv as S1 with
      | ok r S2 =>
        rw [q1] at h
        have h : (if kd.1.isF then (fun _ => .bad : M (List AV)) else M.pure (.o kd :: r)) S2 = .ok avs S' := h
        cases hk : kd.1.isF with
        | true => rw [hk, if_pos rfl] at h; cases h
        | false => rw [hk, if_neg (by simp)] at h; cases h; simp [arEv_len as _ _ _ q1]
      | exc x S2 => rw [q1] at h; cases h
      | bad => rw [q1] at h; cases h
    | exc x S1 => rw [q] at h; cases h
    | bad => rw [q] at h; cases h
  | .b i :: as, S, S', avs, h => by
    unfold arEv at h
    cases e : S[i]? with
    | none => simp only [e] at h; cases h
    | some s =>
      cases s with
      | none => simp only [e] at h; cases h
      | some kd =>
        simp only [e] at h
        have h : (arEv as S).bind (fun r => M.pure (.b i :: r)) = .ok avs S' := h
        cases q1 : arEv as S with
        | ok r S2 => rw [q1] at h; cases h; simp [arEv_len as _ _ _ q1]
        | exc x S2 => rw [q1] at h; cases h
        | bad => rw [q1] at h; cases h
section
variable {X : Cx} {G : Cfgx} {W : WX} {k : Nat}
theorem den_call {fn : Fn} {n : Nat} {ms : List Ar} {t : TA} (hn : ms.length = n) (h : DenAr G W t (arEv ms)) : DenE G W (tCallS (spF G n fn) (WE W) t) (eCall fn ms) := fun F H σ S T Q st p => by
  refine h F H σ S T _ st ?_
  have p : PR G W F H σ T (KE G F H σ T Q) ((arEv ms S).bind _) := p
  cases e : arEv ms S with
  | bad => rw [e] at p; exact p.elim
  | exc x S1 => rw [e] at p; exact p
  | ok avs S1 =>
    rw [e] at p
    intro vs F1 H1 T1 f s1 st1 av le1 di1
    exact call_core (fun ks _ => by rw [avs_len av, arEv_len ms S S1 avs e, hn]) s1 st1 av le1 di1 p
theorem tr_call {fn : Fn} {f : Addr} {fd : FuncData} {ps : List PySem.Str} {x : PySem.Str} {p pos : Pos} {e : Expr} {es : List Expr} {ms : List Ar} (C : Cok X G W k) (F : FnOk X.prog X.w X.K X.mg X.base (L2N.CX X.prog X.w) k f fd ps (spF G ps.length fn)) (hm : X.mg x = some (.ref f)) (hk : PySem.W.keepIn X.K (.ref f) = true) (hb : Binds X.K fd ps [])
    (ha : TrAr X G W (e :: es) ms) (hn : ms.length = ps.length := by rfl) (hg : Gl X x := by rfl) (hdb : (x == ("__debug__" : PySem.Str)) = false := by decide) (he : starEach (e :: es) X.env = (false, eval e X.env) :: starEach es X.env := by rfl) (hpl : (backTo pos (starEach es X.env)).any (·.1) = false := by rfl) :
    TrE X G W (.Call (.Name x p) (e :: es) [] pos) (eCall fn ms) := by
  obtain ⟨t, pa, da⟩ := ha
  exact ⟨_, pe_callS F C.room hg hm hk hb (fun σ => L2N.passAt C.tk σ) pa hdb he hpl, den_call hn da⟩
end
end TB
namespace TB
open PySem PyProof.Rows L2
theorem orR {X : Cx} {f : Value → Value → Sem Value} {r r' : R2} (h : OpR X f r) (h' : OpR X f r') : OpR X f (fun x y H Q => r x y H Q ∨ r' x y H Q) := by
  intro pins s σ H x y v u Q I rx ry q
  rcases q with q | q
  · exact h pins s σ H x y v u Q I rx ry q
  · exact h' pins s σ H x y v u Q I rx ry q
theorem str_len (z : PySem.Str) : z.length = z.cps.toList.length := by simp [PySem.Str.length]
section
variable {X : Cx} {G : Cfgx} {W : WX} {k : Nat} {F H : Hp} {σ : L2.St} {S : List Slot} {T : Cnt}
/-- a new tuple of what is represented -/
theorem KE.newT {Q : VK} {vs : List V} {ds : List D} {S : List Slot} (h : KE G F H σ T Q (.fz, .tup ds) S) (st : St' G F H σ S T) (r : Reps G F vs ds) (p : Addr) (hp : H p = none) : Q (.ref p) (upd H p (.tup vs)) :=
  KE.newF h st (fun p => by
    by_cases n : F p = none
    · exact .inl (.tup (.inl (.inl upd_same)) (r.mono fun a u e => by rw [upd_ne (ne_of_none e n)]; exact e))
    · exact .inr n) p hp
theorem Reps.app {F : Hp} : ∀ {xs ys : List V} {as bs : List D}, Reps G F xs as → Reps G F ys bs → Reps G F (xs ++ ys) (as ++ bs)
  | _, _, _, _, .nil, h => h
  | _, _, _, _, .cons r s, h => .cons r (Reps.app s h)
theorem Reps.get {F : Hp} : ∀ {xs : List V} {as : List D} {n : Nat} {d : D}, Reps G F xs as → as[n]? = some d → ∃ v, xs[n]? = some v ∧ Rep G F v d
  | _, _, n, d, .nil, h => by simp at h
  | _, _, 0, d, .cons r s, h => by
    have e := Option.some.inj (show some _ = some d from h)
    exact ⟨_, rfl, e ▸ r⟩
  | _, _, n + 1, d, .cons r s, h => by
    obtain ⟨v, h1, h2⟩ := Reps.get (n := n) s (by simpa using h)
    exact ⟨v, by simpa using h1, h2⟩
theorem Reps.drop {F : Hp} : ∀ {xs : List V} {as : List D} (n : Nat), Reps G F xs as → Reps G F (xs.drop n) (as.drop n)
  | _, _, 0, h => h
  | _, _, _ + 1, .nil => .nil
  | _, _, n + 1, .cons _ s => Reps.drop n s
theorem Reps.take {F : Hp} : ∀ {xs : List V} {as : List D} (n : Nat), Reps G F xs as → Reps G F (xs.take n) (as.take n)
  | _, _, 0, h => .nil
  | _, _, _ + 1, .nil => .nil
  | _, _, n + 1, .cons r s => .cons r (Reps.take n s)
theorem Reps.rep {F : Hp} {xs : List V} {as : List D} (h : Reps G F xs as) : ∀ n : Nat, Reps G F (List.replicate n xs).flatten (List.replicate n as).flatten
  | 0 => by simp; exact .nil
  | n + 1 => by simp only [List.replicate_succ, List.flatten_cons]; exact h.app (h.rep n)
theorem Reps.set {F : Hp} {v : V} {d : D} (r : Rep G F v d) : ∀ {xs : List V} {as : List D} (n : Nat), Reps G F xs as → Reps G F (xs.set n v) (as.set n d)
  | _, _, _, .nil => .nil
  | _, _, 0, .cons _ s => .cons r s
  | _, _, n + 1, .cons q s => .cons q (Reps.set r n s)
theorem Reps.ins {F : Hp} {v : V} {d : D} (r : Rep G F v d) : ∀ {xs : List V} {as : List D} (n : Nat), Reps G F xs as → Reps G F (xs.insertIdx n v) (as.insertIdx n d)
  | _, _, 0, h => by simp only [List.insertIdx_zero]; exact .cons r h
  | _, _, n + 1, .nil => by simp; exact .nil
  | _, _, n + 1, .cons q s => by simp only [List.insertIdx_succ_cons]; exact .cons q (Reps.ins r n s)
theorem cls_add (hK : X.K = G.K) : ∃ r, OpR X (binaryOp .Add) r ∧ S2 G r fAdd := by
  refine ⟨_, orR op_add (orR op_add_str (orR op_cat op_catA)), fun F H σ S T x y dx dy kd Q st rx ry e k => ?_⟩
  cases rx <;> cases ry <;> simp only [fAdd, kz, reduceCtorEq] at e
  · cases e; exact .inl ⟨_, _, rfl, rfl, KE.val k st (.int _)⟩
  · rename_i z w
    split at e
    · rename_i hz
      cases e
      refine .inr (.inl ⟨z, w, rfl, rfl, by rw [str_len, str_len]; exact hz, KE.val k st ?_⟩)
      have := Rep.str (G := G) (F := F) (z ++ w)
      have e2 : (z ++ w).cps.toList = z.cps.toList ++ w.cps.toList := by
        show (z.cps ++ w.cps).toList = _
        simp
      rw [e2] at this
      exact this
    · cases e
  · rename_i a xs as h1 r1 b ys bs h2 r2
    split at e
    · rename_i hz
      cases e
      refine .inr (.inr (.inr ⟨a, b, xs, ys, rfl, rfl, hK ▸ same_t st.sub h1, hK ▸ same_t st.sub h2, by rw [r1.len, r2.len]; exact hz, fun q => ?_, fun q1 q2 => ?_, fun q1 q2 p hp => ?_⟩))
      · subst q
        cases r1
        exact KE.val k st (.tup h2 r2)
      · subst q2
        cases r2
        rw [List.append_nil] at k
        exact KE.val k st (.tup h1 r1)
      · exact KE.newT k st (r1.app r2) p hp
    · cases e
  · rename_i a xs as h1 r1 b ys bs h2 r2
    split at e
    · rename_i hz
      cases e
      exact .inr (.inr (.inl ⟨a, b, xs, ys, rfl, rfl, st.sub _ _ h1, st.sub _ _ h2, by rw [r1.len, r2.len]; exact hz, fun p hp => KE.newL k st (r1.app r2) p hp⟩))
    · cases e
theorem cls_sub : ∃ r, OpR X (binaryOp .Sub) r ∧ S2 G r fSub := by
  refine ⟨_, op_sub, fun F H σ S T x y dx dy kd Q st rx ry e k => ?_⟩
  cases rx <;> cases ry <;> simp only [fSub, kz, reduceCtorEq] at e
  cases e; exact ⟨_, _, rfl, rfl, KE.val k st (.int _)⟩
theorem log_small {i : Int} (h : small i) : i.natAbs.log2 < 1000 := PySem.Flt.log2_lt_of (by decide) (Nat.lt_of_lt_of_le h (by decide +kernel))
theorem cls_mul (hK : X.K = G.K) : ∃ r, OpR X (binaryOp .Mult) r ∧ S2 G r fMul := by
  refine ⟨_, orR op_mulW (orR op_rep op_repT), fun F H σ S T x y dx dy kd Q st rx ry e k => ?_⟩
  cases rx <;> cases ry <;> simp only [fMul, kz, reduceCtorEq] at e
  · split at e
    · rename_i hz
      cases e
      exact .inl ⟨_, _, rfl, rfl, by have := log_small hz.1; have := log_small hz.2; unfold CMulW; omega, KE.val k st (.int _)⟩
    · cases e
  · rename_i a xs as h1 r1 j
    split at e
    · rename_i hz
      cases e
      refine .inr (.inr ⟨a, j, xs, rfl, rfl, hK ▸ same_t st.sub h1, fun q => ?_, hz.2.1, by have := hz.2.2.1; omega, by rw [r1.len]; exact hz.2.2.2, fun p hp => KE.newT k st (r1.rep _) p hp⟩)
      subst q
      cases r1
      exact hz.1 rfl
    · cases e
  · rename_i a xs as h1 r1 j
    split at e
    · rename_i hz
      cases e
      refine .inr (.inl ⟨a, j, xs, rfl, rfl, st.sub _ _ h1, by omega, by omega, ?_, fun p hp => KE.newL k st (r1.rep _) p hp⟩)
      rw [r1.len]
      have : as.length * j.toNat ≤ 1000 * 1000 := Nat.mul_le_mul hz.2.2 (by omega)
      have : sizeLine = 16777216 := rfl
      omega
    · cases e
theorem cls_mod : ∃ r, OpR X (binaryOp .Mod) r ∧ S2 G r fMod := by
  refine ⟨_, op_mod, fun F H σ S T x y dx dy kd Q st rx ry e k => ?_⟩
  cases rx <;> cases ry <;> simp only [fMod, kz, reduceCtorEq] at e
  split at e
  · rename_i hz; cases e; exact ⟨_, _, rfl, rfl, hz, KE.val k st (.int _)⟩
  · cases e
theorem cls_div : ∃ r, OpR X (binaryOp .FloorDiv) r ∧ S2 G r fDiv := by
  refine ⟨_, op_fdivW, fun F H σ S T x y dx dy kd Q st rx ry e k => ?_⟩
  cases rx <;> cases ry <;> simp only [fDiv, kz, reduceCtorEq] at e
  split at e
  · rename_i hz; cases e; exact ⟨_, _, rfl, rfl, ⟨hz.1, by have := log_small hz.2; omega⟩, KE.val k st (.int _)⟩
  · cases e
theorem cls_pow : ∃ r, OpR X (binaryOp .Pow) r ∧ S2 G r fPow := by
  refine ⟨_, op_pow, fun F H σ S T x y dx dy kd Q st rx ry e k => ?_⟩
  cases rx <;> cases ry <;> simp only [fPow, kz, reduceCtorEq] at e
  split at e
  · rename_i hz; cases e; exact ⟨_, _, rfl, rfl, ⟨hz.1, by have := hz.2.1; omega, hz.2.2⟩, KE.val k st (.int _)⟩
  · cases e
theorem cls_lt : ∃ r, OpR X (compareOp .Lt) r ∧ S2 G r fLt := by
  refine ⟨_, orR op_lt op_lt_str, fun F H σ S T x y dx dy kd Q st rx ry e k => ?_⟩
  cases rx <;> cases ry <;> simp only [fLt, kz, reduceCtorEq] at e <;> cases e
  · exact .inl ⟨_, _, rfl, rfl, KE.val k st (.bl _)⟩
  · exact .inr ⟨_, _, rfl, rfl, KE.val k st (.bl _)⟩
theorem cls_le : ∃ r, OpR X (compareOp .LtE) r ∧ S2 G r fLe := by
  refine ⟨_, orR op_le op_le_str, fun F H σ S T x y dx dy kd Q st rx ry e k => ?_⟩
  cases rx <;> cases ry <;> simp only [fLe, kz, reduceCtorEq] at e <;> cases e
  · exact .inl ⟨_, _, rfl, rfl, KE.val k st (.bl _)⟩
  · exact .inr ⟨_, _, rfl, rfl, KE.val k st (.bl _)⟩
theorem cls_gt : ∃ r, OpR X (compareOp .Gt) r ∧ S2 G r fGt := by
  refine ⟨_, orR op_gt op_gt_str, fun F H σ S T x y dx dy kd Q st rx ry e k => ?_⟩
  cases rx <;> cases ry <;> simp only [fGt, kz, reduceCtorEq] at e <;> cases e
  · exact .inl ⟨_, _, rfl, rfl, KE.val k st (.bl _)⟩
  · exact .inr ⟨_, _, rfl, rfl, KE.val k st (.bl _)⟩
theorem cls_ge : ∃ r, OpR X (compareOp .GtE) r ∧ S2 G r fGe := by
  refine ⟨_, orR op_ge op_ge_str, fun F H σ S T x y dx dy kd Q st rx ry e k => ?_⟩
  cases rx <;> cases ry <;> simp only [fGe, kz, reduceCtorEq] at e <;> cases e
  · exact .inl ⟨_, _, rfl, rfl, KE.val k st (.bl _)⟩
  · exact .inr ⟨_, _, rfl, rfl, KE.val k st (.bl _)⟩
theorem atI_of {α : Type} {xs : List α} {i : Int} {n : Nat} {v : α} (h : normIx xs.length i = some n) (e : xs[n]? = some v) : atI xs i = some v := by
  have h2 : ixN xs.length i = some n := h
  unfold atI
  rw [h2]; exact e
theorem cls_ix (hK : X.K = G.K) : ∃ r, IxR X r ∧ S2 G r fIx := by
  refine ⟨_, ix_seq, fun F H σ S T x y dx dy kd Q st rx ry e k => ?_⟩
  cases rx <;> cases ry <;> simp only [fIx, kz, reduceCtorEq] at e
  · rename_i z i
    split at e
    · rename_i hz
      cases h1 : normIx z.cps.toList.length i with
      | none => rw [h1] at e; cases e
      | some n =>
        rw [h1] at e
        have e : (z.cps.toList[n]?.bind fun c => some ((Kd.fz, D.str [c]) : KD)) = some kd := e
        cases h2 : z.cps.toList[n]? with
        | none => rw [h2] at e; cases e
        | some c =>
          rw [h2] at e
          cases e
          exact .inr (.inr ⟨z, i, c, rfl, rfl, by rw [str_len]; exact hz, atI_of h1 h2, KE.val k st (.str ⟨#[c]⟩)⟩)
    · cases e
  · rename_i a xs as h1 r1 i
    cases h2 : normIx as.length i with
    | none => rw [h2] at e; cases e
    | some n =>
      rw [h2] at e
      have e : (as[n]?.bind fun d => some ((Kd.fz, d) : KD)) = some kd := e
      cases h3 : as[n]? with
      | none => rw [h3] at e; cases e
      | some d =>
        rw [h3] at e
        cases e
        obtain ⟨v, h4, h5⟩ := r1.get h3
        exact .inr (.inl ⟨a, xs, i, v, rfl, rfl, hK ▸ same_t st.sub h1, atI_of (n := n) (by rw [r1.len]; exact h2) h4, KE.val k st h5⟩)
  · rename_i a ns h1 i
    cases h2 : normIx ns.length i with
    | none => rw [h2] at e; cases e
    | some n =>
      rw [h2] at e
      have e : (ns[n]?.bind fun j => some ((Kd.fz, D.int j) : KD)) = some kd := e
      cases h3 : ns[n]? with
      | none => rw [h3] at e; cases e
      | some j =>
        rw [h3] at e
        cases e
        exact .inl ⟨a, _, i, .int j, rfl, rfl, hK ▸ same_l st.sub h1, atI_of (n := n) (by rw [List.length_map]; exact h2) (by simp [h3]), KE.val k st (.int j)⟩
  · rename_i a xs as h1 r1 i
    cases h2 : normIx as.length i with
    | none => rw [h2] at e; cases e
    | some n =>
      rw [h2] at e
      have e : (as[n]?.bind fun d => some ((Kd.fz, d) : KD)) = some kd := e
      cases h3 : as[n]? with
      | none => rw [h3] at e; cases e
      | some d =>
        rw [h3] at e
        cases e
        obtain ⟨v, h4, h5⟩ := r1.get h3
        exact .inl ⟨a, xs, i, v, rfl, rfl, .inl (.inl (st.sub _ _ h1)), atI_of (n := n) (by rw [r1.len]; exact h2) h4, KE.val k st h5⟩
theorem cls_isN : ∃ r, OpR X (compareOp .Is) r ∧ S2 G r fIsN := by
  refine ⟨_, op_isN, fun F H σ S T x y dx dy kd Q st rx ry e k => ?_⟩
  cases ry <;> simp only [fIsN, kz, reduceCtorEq] at e
  refine ⟨rfl, ?_⟩
  cases rx <;> cases e <;> exact KE.val k st (.bl _)
theorem cls_notN : ∃ r, OpR X (compareOp .IsNot) r ∧ S2 G r fNotN := by
  refine ⟨_, op_notN, fun F H σ S T x y dx dy kd Q st rx ry e k => ?_⟩
  cases ry <;> simp only [fNotN, kz, reduceCtorEq] at e
  refine ⟨rfl, ?_⟩
  cases rx <;> cases e <;> exact KE.val k st (.bl _)
theorem cls_isB : ∃ r, OpR X (compareOp .Is) r ∧ S2 G r fIsB := by
  refine ⟨_, op_isBl, fun F H σ S T x y dx dy kd Q st rx ry e k => ?_⟩
  cases rx <;> cases ry <;> simp only [fIsB, kz, reduceCtorEq] at e
  cases e; exact ⟨_, _, rfl, rfl, KE.val k st (.bl _)⟩
theorem cls_notB : ∃ r, OpR X (compareOp .IsNot) r ∧ S2 G r fNotB := by
  refine ⟨_, op_notBl, fun F H σ S T x y dx dy kd Q st rx ry e k => ?_⟩
  cases rx <;> cases ry <;> simp only [fNotB, kz, reduceCtorEq] at e
  cases e; exact ⟨_, _, rfl, rfl, KE.val k st (.bl _)⟩
theorem cls_len (hK : X.K = G.K) : ∃ r, CallR X (.builtin "len") r ∧ SN G r fLen := by
  refine ⟨_, call_len, fun F H σ S T xs ds kd Q st rs e k => ?_⟩
  cases rs with
  | nil => simp [fLen] at e
  | cons r1 r2 =>
    cases r2 with
    | cons _ _ => cases r1 <;> simp [fLen] at e
    | nil =>
      cases r1 <;> simp only [fLen, kz, reduceCtorEq] at e
      · rename_i z
        split at e
        · rename_i hz
          cases e
          exact ⟨_, z.length, rfl, ⟨by rw [str_len]; exact hz, rfl⟩, by rw [str_len]; exact KE.val k st (.int _)⟩
        · cases e
      · rename_i a xs as h1 r1
        cases e
        exact ⟨_, as.length, rfl, .inr ⟨_, hK ▸ same_t st.sub h1, by rw [r1.len]⟩, KE.val k st (.int _)⟩
      · rename_i a ns h1
        cases e
        exact ⟨_, ns.length, rfl, .inl ⟨_, hK ▸ same_l st.sub h1, by rw [List.length_map]⟩, KE.val k st (.int _)⟩
      · rename_i a xs as h1 r1
        cases e
        exact ⟨_, as.length, rfl, .inl ⟨_, .inl (.inl (st.sub _ _ h1)), by rw [r1.len]⟩, KE.val k st (.int _)⟩
theorem cls_intB : ∃ r, CallR X (.type "int") r ∧ SN G r fIntB := by
  refine ⟨_, call_int1, fun F H σ S T xs ds kd Q st rs e k => ?_⟩
  cases rs with
  | nil => simp [fIntB] at e
  | cons r1 r2 =>
    cases r2 with
    | cons _ _ => cases r1 <;> simp [fIntB] at e
    | nil =>
      cases r1 <;> simp only [fIntB, kz, reduceCtorEq] at e <;> cases e
      · exact .inr ⟨_, rfl, KE.val k st (.int _)⟩
      · exact .inl ⟨_, rfl, KE.val k st (.int _)⟩
theorem cls_min2 (hc : X.calm = true) : ∃ r, CallR X (.builtin "min") r ∧ SN G r fMin2 := by
  refine ⟨_, call_min2 hc, fun F H σ S T xs ds kd Q st rs e k => ?_⟩
  rcases rs with _ | ⟨r1, _ | ⟨r2, _ | ⟨r3, r4⟩⟩⟩
  · simp [fMin2] at e
  · cases r1 <;> simp [fMin2] at e
  · cases r1 <;> cases r2 <;> simp only [fMin2, kz, reduceCtorEq] at e
    cases e; exact ⟨_, _, rfl, KE.val k st (.int _)⟩
  · cases r1 <;> cases r2 <;> simp [fMin2] at e
theorem cls_max2 (hc : X.calm = true) : ∃ r, CallR X (.builtin "max") r ∧ SN G r fMax2 := by
  refine ⟨_, call_max2 hc, fun F H σ S T xs ds kd Q st rs e k => ?_⟩
  rcases rs with _ | ⟨r1, _ | ⟨r2, _ | ⟨r3, r4⟩⟩⟩
  · simp [fMax2] at e
  · cases r1 <;> simp [fMax2] at e
  · cases r1 <;> cases r2 <;> simp only [fMax2, kz, reduceCtorEq] at e
    cases e; exact ⟨_, _, rfl, KE.val k st (.int _)⟩
  · cases r1 <;> cases r2 <;> simp [fMax2] at e
theorem reps_keys {F : Hp} : ∀ {kvs : List (Key × V)} {ks : List D}, ks = kvs.map (fun p => keyD p.1) → Reps G F (kvs.map fun p => kV p.1) ks
  | [], _, h => by subst h; exact .nil
  | (k, v) :: r, _, h => by
    subst h
    refine .cons ?_ (reps_keys rfl)
    cases k with
    | inl i => exact .int i
    | inr z => exact .str z
theorem cls_list (hK : X.K = G.K) (hc : X.calm = true) : ∃ r, CallR X (.type "list") r ∧ SN G r fList := by
  refine ⟨_, call_list_of.or (call_listD hc), fun F H σ S T xs ds kd Q st rs e k => ?_⟩
  rcases rs with _ | ⟨r1, _ | ⟨r2, r3⟩⟩
  · simp [fList] at e
  · cases r1 <;> simp only [fList, kz, reduceCtorEq] at e <;> cases e
    · rename_i a xs as h1 r1
      exact .inl ⟨a, xs, rfl, .inr (hK ▸ same_t st.sub h1), fun p hp => KE.newL k st r1 p hp⟩
    · rename_i a xs as h1 r1
      exact .inl ⟨a, xs, rfl, .inl (.inl (.inl (st.sub _ _ h1))), fun p hp => KE.newL k st r1 p hp⟩
    · rename_i a kvs kds h1 hk r1
      exact .inr ⟨a, kvs, rfl, same_rd st.sub h1, fun p hp => KE.newL k st (reps_keys hk) p hp⟩
  · cases r1 <;> simp [fList] at e
theorem bools_of {F : Hp} : ∀ {xs : List V} {ds : List D} {bs : List Bool}, Reps G F xs ds → boolsOf ds = some bs → xs = bs.map V.bl
  | _, _, _, .nil, h => by cases h; rfl
  | _, _, bs, .cons r s, h => by
    cases r <;> simp only [boolsOf, reduceCtorEq] at h
    rename_i b
    cases q : boolsOf _ with
    | none => rw [q] at h; cases h
    | some l => rw [q] at h; cases h; rw [bools_of s q]; rfl
theorem cls_all (hK : X.K = G.K) (hc : X.calm = true) : ∃ r, CallR X (.builtin "all") r ∧ SN G r fAllB := by
  refine ⟨_, cr_all hc, fun F H σ S T xs ds kd Q st rs e k => ?_⟩
  rcases rs with _ | ⟨r1, _ | ⟨r2, r3⟩⟩
  · simp [fAllB] at e
  · cases r1 <;> simp only [fAllB, kz, reduceCtorEq] at e
    rename_i a xs as h1 r1
    cases q : boolsOf as with
    | none => rw [q] at e; cases e
    | some bs =>
      rw [q] at e
      cases e
      exact ⟨a, bs, rfl, .inl (.inl (by rw [← bools_of r1 q]; exact st.sub _ _ h1)), KE.val k st (.bl _)⟩
  · cases r1 <;> simp [fAllB] at e
theorem one_sign {z : PySem.Str} {c : Nat} (h : z.cps.toList = [c]) : z = ⟨#[c]⟩ := by
  cases z with
  | mk a =>
    have : a = #[c] := by
      apply Array.toList_inj.mp
      exact h
    rw [this]
theorem cls_inS : ∃ r, OpR X (compareOp .In) r ∧ S2 G r fInS := by
  refine ⟨_, op_in_sign, fun F H σ S T x y dx dy kd Q st rx ry e k => ?_⟩
  cases rx <;> cases ry <;> try (simp [fInS] at e; done)
  rename_i z w
  cases q : z.cps.toList with
  | nil => rw [q] at e; simp [fInS] at e
  | cons c l =>
    cases l with
    | cons a b => rw [q] at e; simp [fInS] at e
    | nil =>
      rw [q] at e
      simp only [fInS, kz] at e
      cases e
      exact ⟨c, w, by rw [one_sign q], rfl, KE.val k st (.bl _)⟩
theorem cls_notInS : ∃ r, OpR X (compareOp .NotIn) r ∧ S2 G r fNotInS := by
  refine ⟨_, op_notIn_sign, fun F H σ S T x y dx dy kd Q st rx ry e k => ?_⟩
  cases rx <;> cases ry <;> try (simp [fNotInS] at e; done)
  rename_i z w
  cases q : z.cps.toList with
  | nil => rw [q] at e; simp [fNotInS] at e
  | cons c l =>
    cases l with
    | cons a b => rw [q] at e; simp [fNotInS] at e
    | nil =>
      rw [q] at e
      simp only [fNotInS, kz] at e
      cases e
      exact ⟨c, w, by rw [one_sign q], rfl, KE.val k st (.bl _)⟩
end
end TB
namespace TB
open PySem PySem.Spec PyProof.Rows L2
section
variable {X : Cx} {G : Cfgx} {W : WX} {k : Nat}
theorem walkD_list {F : Hp} {K : PySem.W.Frag} {a : Addr} {vs : List V} {ds : List D} (h : ∀ H, Same F H → SqL K H a vs) (r : Reps G F vs ds) : WalkD G F (Itl K a) ds := by
  refine ⟨YAt vs, ?_, fun i H x H' d e y => ?_⟩
  · rw [← r.len]
    exact walk_list.mono (fun H s => h H s) fun i H x H' hi s y => y
  · obtain ⟨v, h1, h2⟩ := r.get e
    obtain ⟨e1, e2⟩ := y
    rw [h1] at e2
    cases e2
    exact .inl ⟨e1, h2⟩
theorem walkD_tup {F : Hp} {K : PySem.W.Frag} {a : Addr} {vs : List V} {ds : List D} (h : ∀ H, Same F H → SqT K H a vs) (r : Reps G F vs ds) : WalkD G F (Itt K a) ds := by
  refine ⟨YAt vs, ?_, fun i H x H' d e y => ?_⟩
  · rw [← r.len]
    exact walk_tup.mono (fun H s => h H s) fun i H x H' hi s y => y
  · obtain ⟨v, h1, h2⟩ := r.get e
    obtain ⟨e1, e2⟩ := y
    rw [h1] at e2
    cases e2
    exact .inl ⟨e1, h2⟩
theorem walkD_rng {F : Hp} {lo : Int} {n : Nat} : WalkD G F (L2.Itr lo n) (rangeL lo n) := by
  refine ⟨YFn fun i => .int (lo + i), ?_, fun i H x H' d e y => ?_⟩
  · have : (rangeL lo n).length = n := by simp [rangeL]
    rw [this]
    exact walk_range.mono (fun H s => trivial) fun i H x H' hi s y => y
  · obtain ⟨e1, e2⟩ := y
    subst e2
    unfold rangeL at e
    by_cases hi : i < n
    · have : d = .int (lo + (i : Int)) := by
        rw [List.getElem?_map, List.getElem?_range hi] at e
        exact (Option.some.inj e).symm
      subst this
      exact .inl ⟨e1, .int _⟩
    · rw [List.getElem?_eq_none (by simp; omega)] at e; cases e
theorem walkD_str {F : Hp} {z : PySem.Str} : WalkD G F (L2.Its z) (z.cps.toList.map fun c => D.str [c]) := by
  refine ⟨fun i H v H' => H' = H ∧ ∃ c, z.cps[i]? = some c ∧ v = .str ⟨#[c]⟩, ?_, fun i H x H' d e y => ?_⟩
  · have : (z.cps.toList.map fun c => D.str [c]).length = z.cps.size := by simp
    rw [this]
    exact walk_str.mono (fun H s => trivial) fun i H x H' hi s y => y
  · obtain ⟨e1, c, hc, e2⟩ := y
    subst e2
    have : d = .str [c] := by
      rw [List.getElem?_map, Array.getElem?_toList, hc] at e
      exact (Option.some.inj e).symm
    subst this
    exact .inl ⟨e1, .str ⟨#[c]⟩⟩
/-- a list or a tuple, by what comes -/
def iSeq (K : PySem.W.Frag) (tl : TE) : TI := fun σ H R => tl σ H fun x H1 => (∃ a, x = .ref a ∧ (∃ xs, SqL K H1 a xs) ∧ R (Itl K a) H1) ∨ (∃ a, x = .ref a ∧ (∃ xs, SqT K H1 a xs) ∧ R (Itt K a) H1)
theorem pi_seq {tg l : Expr} {tl : TE} (hl : PE X l tl) : PI X tg l (iSeq X.K tl) := by
  refine ⟨fun pins s σ H R I h => ?_⟩
  refine thn (hl.run pins s σ H _ I h) fun v s1 ⟨x, H1, I1, r1, q1⟩ => ?_
  rcases q1 with ⟨a, e, ⟨xs, hq⟩, q⟩ | ⟨a, e, ⟨xs, hq⟩, q⟩
  · subst e
    cases r1
    obtain ⟨its, rv, p, hz⟩ := I1.list hq
    refine wpAny_pyIter_list p.isList ?_
    refine ⟨s1.heap.objs.size, [s1.heap.objs.size], _, _, H1, rfl, I1.kept (t' := s1.toks) fun b o e => Heap.get?_push_of_some _ e, turn_list a _, ⟨_, Heap.get?_push_size _ rfl, rfl, rfl⟩, fun b hb => ?_, q⟩
    have e : b = s1.heap.objs.size := by simpa using hb
    subst e
    exact I1.fpOk (Nat.le_refl _) (I1.hok.fresh (Nat.le_refl _))
  · subst e
    cases r1
    obtain ⟨its, rv, p, hz⟩ := I1.tuple hq
    refine wpAny_pyIter_tuple (show s1.heap.IsTuple a its.toArray from p) ?_
    refine ⟨s1.heap.objs.size, [s1.heap.objs.size], _, _, H1, rfl, I1.kept (t' := s1.toks) fun b o e => Heap.get?_push_of_some _ e, turn_tuple a _, ⟨_, Heap.get?_push_size _ rfl, rfl, rfl⟩, fun b hb => ?_, q⟩
    have e : b = s1.heap.objs.size := by simpa using hb
    subst e
    exact I1.fpOk (Nat.le_refl _) (I1.hok.fresh (Nat.le_refl _))
theorem ti_seq {tg e : Expr} {m : E} (C : Cok X G W k) (h : TrE X G W e m) : TrI X G W tg e (itSeq m) := by
  obtain ⟨t, p, d⟩ := h
  refine ⟨_, pi_seq p, fun F H σ S T R st z => d.dat F H σ S T _ st (PR.bind z fun dd S1 y => ?_)⟩
  intro v F1 H1 T1 s1 st1 r1
  cases r1 with
  | @tup a vs ds hq rs =>
    have y : KI G F H σ T R ds S1 := y
    exact .inr ⟨a, rfl, ⟨vs, C.hK ▸ same_t st1.sub hq⟩, y _ F1 H1 T1 s1 st1 (walkD_tup (fun H s => C.hK ▸ same_t s hq) rs)⟩
  | @lst a vs ds hq rs =>
    have y : KI G F H σ T R ds S1 := y
    exact .inl ⟨a, rfl, ⟨vs, .inl (.inl (st1.sub _ _ hq))⟩, y _ F1 H1 T1 s1 st1 (walkD_list (fun H s => .inl (.inl (s _ _ hq))) rs)⟩
  | _ => exact y.elim
theorem ti_str {tg e : Expr} {m : E} (h : TrE X G W e m) : TrI X G W tg e (itStr m) := by
  obtain ⟨t, p, d⟩ := h
  refine ⟨_, pi_str p, fun F H σ S T R st z => d.dat F H σ S T _ st (PR.bind z fun dd S1 y => ?_)⟩
  intro v F1 H1 T1 s1 st1 r1
  cases r1 with
  | str z =>
    have y : KI G F H σ T R (z.cps.toList.map fun c => D.str [c]) S1 := y
    exact ⟨z, rfl, y _ F1 H1 T1 s1 st1 walkD_str⟩
  | _ => exact y.elim
theorem ti_range1 {tg a : Expr} {m : E} {p pos : Pos} (h : TrE X G W a m) (hm : X.mg "range" = none) (hg : Gl X "range" := by rfl) (hs : starEach [a] X.env = [(false, eval a X.env)] := by rfl) : TrI X G W tg (.Call (.Name "range" p) [a] [] pos) (itRange1 m) := by
  obtain ⟨t, pa, d⟩ := h
  refine ⟨_, pi_range1 hg hm (pa_cons pa pa_nil hs) hs, fun F H σ S T R st z => d.dat F H σ S T _ st (PR.bind z fun dd S1 y => ?_)⟩
  intro v F1 H1 T1 s1 st1 r1
  cases r1 with
  | int j =>
    have y : PR G W F H σ T (KI G F H σ T R) ((if j.natAbs < limN then M.pure (rangeL 0 j.toNat) else fun _ => .bad) S1) := y
    by_cases hj : j.natAbs < limN
    · rw [if_pos hj] at y
      have y : KI G F H σ T R (rangeL 0 j.toNat) S1 := y
      have l : limN = 4611686018427387904 := rfl
      exact ⟨j, rfl, by omega, by omega, y _ F1 H1 T1 s1 st1 walkD_rng⟩
    · rw [if_neg hj] at y; exact y.elim
  | _ => exact y.elim
theorem ti_range2 {tg a b : Expr} {m n : E} {p pos : Pos} (h : TrE X G W a m) (h2 : TrE X G W b n) (hm : X.mg "range" = none) (hg : Gl X "range" := by rfl) (hs : starEach [a, b] X.env = [(false, eval a X.env), (false, eval b X.env)] := by rfl) (hs2 : starEach [b] X.env = [(false, eval b X.env)] := by rfl) : TrI X G W tg (.Call (.Name "range" p) [a, b] [] pos) (itRange2 m n) := by
  obtain ⟨t, pa, d⟩ := h
  obtain ⟨u, pb, d2⟩ := h2
  refine ⟨_, pi_range2 hg hm (pa_cons pa (pa_cons pb pa_nil hs2) (by rw [hs, hs2])) hs hs2, fun F H σ S T R st z => d.dat F H σ S T _ st (PR.bind z fun dd S1 y => ?_)⟩
  intro v F1 H1 T1 s1 st1 r1
  refine d2.dat F1 H1 σ S1 T1 _ st1 (PR.bind (PR.re s1 (fun _ _ h => h) y) fun d2 S2 y => ?_)
  intro v2 F2 H2 T2 s2 st2 r2
  cases r1 with
  | int i =>
    cases r2 with
    | int j =>
      have y : PR G W F1 H1 σ T1 (KI G F H σ T R) ((if i.natAbs < limN ∧ j.natAbs < limN then M.pure (rangeL i (j - i).toNat) else fun _ => .bad) S2) := y
      by_cases hj : i.natAbs < limN ∧ j.natAbs < limN
      · rw [if_pos hj] at y
        have y : KI G F H σ T R (rangeL i (j - i).toNat) S2 := y
        have l : limN = 4611686018427387904 := rfl
        exact ⟨i, j, rfl, by omega, y _ F2 H2 T2 (s1.trans s2) st2 walkD_rng⟩
      · rw [if_neg hj] at y; exact y.elim
    | _ => exact y.elim
  | _ => exact y.elim
end
end TB
namespace TB
open PySem PyProof.Rows L2
mutual
def toPy : D → PyData
  | .non => .none
  | .bl b => .bool b
  | .int i => .int i
  | .str s => .str ⟨s.toArray⟩
  | .lst xs => .list (toPys xs)
  | .tup xs => .tuple (toPys xs)
  | _ => .none
def toPys : List D → List PyData
  | [] => []
  | x :: xs => toPy x :: toPys xs
end
mutual
theorem eqv_py : ∀ (n m : Nat) (x y : D), x.lay n = true → y.lay m = true → PyData.eqv (toPy x) (toPy y) = D.eqv x y := by
  intro n m x y hx hy
  cases x with
  | non => cases y <;> first | (simp [D.lay] at hy; done) | simp [toPy, PyData.eqv, D.eqv]
  | bl a => cases y <;> first | (simp [D.lay] at hy; done) | simp [toPy, PyData.eqv, D.eqv]
  | int i => cases y <;> first | (simp [D.lay] at hy; done) | simp [toPy, PyData.eqv, D.eqv]
  | str s =>
    cases y with
    | str t =>
      simp only [toPy, PyData.eqv, D.eqv]
      by_cases e : s = t
      · subst e; simp
      · rw [beq_eq_false_iff_ne.mpr e]
        refine beq_eq_false_iff_ne.mpr fun q => e ?_
        have : s.toArray = t.toArray := congrArg PySem.Str.cps q
        simpa using this
    | _ => first | (simp [D.lay] at hy; done) | simp [toPy, PyData.eqv, D.eqv]
  | lst xs =>
    cases n with
    | zero => simp [D.lay] at hx
    | succ n =>
      cases y with
      | lst ys =>
        cases m with
        | zero => simp [D.lay] at hy
        | succ m =>
          simp only [toPy, PyData.eqv, D.eqv]
          exact eqv_pys n m xs ys (by simpa [D.lay] using hx) (by simpa [D.lay] using hy)
      | _ => first | (simp [D.lay] at hy; done) | simp [toPy, PyData.eqv, D.eqv]
  | tup xs =>
    cases n with
    | zero => simp [D.lay] at hx
    | succ n =>
      cases y with
      | tup ys =>
        cases m with
        | zero => simp [D.lay] at hy
        | succ m =>
          simp only [toPy, PyData.eqv, D.eqv]
          exact eqv_pys n m xs ys (by simpa [D.lay] using hx) (by simpa [D.lay] using hy)
      | _ => first | (simp [D.lay] at hy; done) | simp [toPy, PyData.eqv, D.eqv]
  | _ => simp [D.lay] at hx
theorem eqv_pys : ∀ (n m : Nat) (xs ys : List D), D.lays n xs = true → D.lays m ys = true → PyData.eqvAll (toPys xs) (toPys ys) = D.eqvs xs ys
  | _, _, [], [], _, _ => rfl
  | _, _, [], _ :: _, _, _ => rfl
  | _, _, _ :: _, [], _, _ => rfl
  | n, m, x :: xs, y :: ys, hx, hy => by
    unfold D.lays at hx hy
    obtain ⟨h1, h2⟩ := Bool.and_eq_true_iff.mp hx
    obtain ⟨h3, h4⟩ := Bool.and_eq_true_iff.mp hy
    simp only [toPys, PyData.eqvAll, D.eqvs]
    rw [eqv_py n m x y h1 h3, eqv_pys n m xs ys h2 h4]
end
mutual
theorem lay_py : ∀ (n : Nat) (x : D), x.lay n = true → (toPy x).canLay0 = true ∧ (toPy x).depth ≤ n := by
  intro n x hx
  cases x with
  | str s =>
    refine ⟨?_, Nat.zero_le _⟩
    simp only [toPy, PyData.canLay0]
    have : s.all (· < 1114112) = true := by cases n <;> simpa [D.lay] using hx
    show (s.toArray.all (· < 0x110000)) = true
    simpa using this
  | lst xs =>
    cases n with
    | zero => simp [D.lay] at hx
    | succ n =>
      obtain ⟨a, b⟩ := lays_py n xs (by simpa [D.lay] using hx)
      exact ⟨by simpa [toPy, PyData.canLay0] using a, by simp only [toPy, PyData.depth]; omega⟩
  | tup xs =>
    cases n with
    | zero => simp [D.lay] at hx
    | succ n =>
      obtain ⟨a, b⟩ := lays_py n xs (by simpa [D.lay] using hx)
      exact ⟨by simpa [toPy, PyData.canLay0] using a, by simp only [toPy, PyData.depth]; omega⟩
  | non => exact ⟨rfl, Nat.zero_le _⟩
  | bl b => exact ⟨rfl, Nat.zero_le _⟩
  | int i => exact ⟨rfl, Nat.zero_le _⟩
  | _ => simp [D.lay] at hx
theorem lays_py : ∀ (n : Nat) (xs : List D), D.lays n xs = true → PyData.canLayAll0 (toPys xs) = true ∧ PyData.depthAll (toPys xs) ≤ n
  | _, [], _ => ⟨rfl, Nat.zero_le _⟩
  | n, x :: xs, h => by
    unfold D.lays at h
    obtain ⟨h1, h2⟩ := Bool.and_eq_true_iff.mp h
    obtain ⟨a, b⟩ := lay_py n x h1
    obtain ⟨c, d⟩ := lays_py n xs h2
    exact ⟨by simp [toPys, PyData.canLayAll0, a, c], by simp only [toPys, PyData.depthAll]; omega⟩
end
section
variable {X : Cx} {G : Cfgx} {W : WX} {k : Nat} {F H : Hp} {σ : L2.St} {S : List Slot} {T : Cnt}
mutual
theorem dp_of : ∀ (n : Nat) (d : D) (v : V), d.lay n = true → Rep G F v d → Dp G.K F v (toPy d)
  | n, d, v, hl, r => by
    cases r with
    | non => exact .non
    | bl b => exact .bl b
    | int i => exact .int i
    | str z =>
      have e : toPy (.str z.cps.toList) = .str z := by simp [toPy]
      rw [e]; exact .str z
    | tup h rs =>
      cases n with
      | zero => simp [D.lay] at hl
      | succ n => exact .tup h (dps_of n _ _ (by simpa [D.lay] using hl) rs)
    | lst h rs =>
      cases n with
      | zero => simp [D.lay] at hl
      | succ n => exact .lst (.inl (.inl h)) (dps_of n _ _ (by simpa [D.lay] using hl) rs)
    | _ => simp [D.lay] at hl
theorem dps_of : ∀ (n : Nat) (ds : List D) (vs : List V), D.lays n ds = true → Reps G F vs ds → DpAll G.K F vs (toPys ds)
  | n, [], vs, hl, r => by cases r; exact .nil
  | n, d :: ds, vs, hl, r => by
    unfold D.lays at hl
    obtain ⟨h1, h2⟩ := Bool.and_eq_true_iff.mp hl
    cases r with
    | cons a b => exact .cons (dp_of n d _ h1 a) (dps_of n ds _ h2 b)
end
theorem eq_core (hK : X.K = G.K) {x y : V} {dx dy : D} (st : St' G F H σ S T) (rx : Rep G F x dx) (ry : Rep G F y dy) (h : eqOk dx dy = true) :
    (L2.scal x y = true ∧ decide (x = y) = D.eqv dx dy) ∨ ∃ d e, Dp X.K H x d ∧ Dp X.K H y e ∧ SeqAt.shaped d = true ∧ SeqAt.shaped e = true ∧ PyData.eqv d e = D.eqv dx dy := by
  have deep : ∀ n m, n ≤ 64 → m ≤ 64 → dx.lay n = true → dy.lay m = true → ∃ d e, Dp X.K H x d ∧ Dp X.K H y e ∧ SeqAt.shaped d = true ∧ SeqAt.shaped e = true ∧ PyData.eqv d e = D.eqv dx dy := by
    intro n m hn hm h1 h2
    have q1 := lay_py n dx h1
    have q2 := lay_py m dy h2
    refine ⟨toPy dx, toPy dy, ?_, ?_, ?_, ?_, eqv_py n m dx dy h1 h2⟩
    · rw [hK]; exact dp_of n dx x h1 (rx.mono st.sub)
    · rw [hK]; exact dp_of m dy y h2 (ry.mono st.sub)
    · exact Bool.and_eq_true_iff.mpr ⟨q1.1, decide_eq_true (by omega)⟩
    · exact Bool.and_eq_true_iff.mpr ⟨q2.1, decide_eq_true (by omega)⟩
  unfold eqOk at h
  rcases Bool.or_eq_true_iff.mp h with h | h
  · obtain ⟨h1, h2⟩ := Bool.and_eq_true_iff.mp h
    cases rx with
    | str z =>
      refine .inl ?_
      cases ry with
      | str w =>
        refine ⟨rfl, ?_⟩
        simp only [D.eqv]
        by_cases e : z = w
        · subst e; simp
        · rw [decide_eq_false (fun q => e (V.str.inj q))]
          refine (beq_eq_false_iff_ne.mpr fun q => e ?_).symm
          cases z; cases w
          have : _ = _ := Array.toList_inj.mp q
          simp at this
          rw [this]
      | non => exact ⟨rfl, rfl⟩
      | bl b => exact ⟨rfl, rfl⟩
      | int i => exact ⟨rfl, rfl⟩
      | _ => cases h2
    | non =>
      cases ry with
      | str w => exact .inl ⟨rfl, rfl⟩
      | non => exact .inl ⟨rfl, rfl⟩
      | bl b => exact .inl ⟨rfl, rfl⟩
      | int i => exact .inl ⟨rfl, rfl⟩
      | _ => cases h2
    | bl a =>
      cases ry with
      | str w => exact .inl ⟨rfl, rfl⟩
      | non => exact .inl ⟨rfl, rfl⟩
      | bl b => exact .inr (deep 0 0 (by omega) (by omega) rfl rfl)
      | int i => exact .inr (deep 0 0 (by omega) (by omega) rfl rfl)
      | _ => cases h2
    | int a =>
      cases ry with
      | str w => exact .inl ⟨rfl, rfl⟩
      | non => exact .inl ⟨rfl, rfl⟩
      | bl b => exact .inr (deep 0 0 (by omega) (by omega) rfl rfl)
      | int i => exact .inr (deep 0 0 (by omega) (by omega) rfl rfl)
      | _ => cases h2
    | _ => cases h1
  · obtain ⟨h1, h2⟩ := Bool.and_eq_true_iff.mp h
    exact .inr (deep 60 60 (by omega) (by omega) h1 h2)
theorem cls_eq (hK : X.K = G.K) (hr : Room k X.A) : ∃ r, OpR X (compareOp .Eq) r ∧ S2 G r fEq := by
  refine ⟨_, orR op_eq (op_eqD hr.units), fun F H σ S T x y dx dy kd Q st rx ry e k => ?_⟩
  unfold fEq kz at e
  split at e
  · rename_i h
    cases e
    rcases eq_core hK st rx ry h with ⟨h1, h2⟩ | ⟨d, e, h1, h2, h3, h4, h5⟩
    · exact .inl ⟨h1, by rw [h2]; exact KE.val k st (.bl _)⟩
    · exact .inr ⟨d, e, h1, h2, h3, h4, by rw [h5]; exact KE.val k st (.bl _)⟩
  · cases e
theorem cls_ne (hK : X.K = G.K) (hr : Room k X.A) : ∃ r, OpR X (compareOp .NotEq) r ∧ S2 G r fNe := by
  refine ⟨_, orR op_ne (op_neD hr.units), fun F H σ S T x y dx dy kd Q st rx ry e k => ?_⟩
  unfold fNe kz at e
  split at e
  · rename_i h
    cases e
    rcases eq_core hK st rx ry h with ⟨h1, h2⟩ | ⟨d, e, h1, h2, h3, h4, h5⟩
    · exact .inl ⟨h1, by rw [h2]; exact KE.val k st (.bl _)⟩
    · exact .inr ⟨d, e, h1, h2, h3, h4, by rw [h5]; exact KE.val k st (.bl _)⟩
  · cases e
theorem flatV_of {F : Hp} {v : V} {d : D} (r : Rep G F v d) (h : d.flat = true) : flatV v = true := by
  cases r <;> first | rfl | cases h
theorem flats_of {F : Hp} : ∀ {vs : List V} {ds : List D}, Reps G F vs ds → ds.all D.flat = true → vs.all flatV = true
  | _, _, .nil, _ => rfl
  | _, _, .cons r s, h => by
    obtain ⟨h1, h2⟩ := Bool.and_eq_true_iff.mp (show (D.flat _ && List.all _ D.flat) = true from h)
    show (flatV _ && List.all _ flatV) = true
    rw [flatV_of r h1, flats_of s h2]; rfl
theorem eqV_of {F : Hp} {x y : V} {dx dy : D} (rx : Rep G F x dx) (ry : Rep G F y dy) (hx : dx.flat = true) (hy : dy.flat = true) : eqV x y = D.eqv dx dy := by
  cases rx <;> cases ry <;> first | (cases hx; done) | (cases hy; done) | (simp [eqV, D.eqv]; done) | skip
  rename_i z w
  simp only [eqV, D.eqv]
  by_cases e : z = w
  · subst e; simp
  · rw [beq_eq_false_iff_ne.mpr e]
    refine (beq_eq_false_iff_ne.mpr fun q => e ?_).symm
    cases z; cases w
    have : _ = _ := Array.toList_inj.mp q
    simp at this
    rw [this]
theorem inV_of {F : Hp} {x : V} {dx : D} (rx : Rep G F x dx) (hx : dx.flat = true) : ∀ {vs : List V} {ds : List D}, Reps G F vs ds → ds.all D.flat = true → inV x vs = ds.any fun y => D.eqv y dx
  | _, _, .nil, _ => rfl
  | _, _, .cons r s, h => by
    obtain ⟨h1, h2⟩ := Bool.and_eq_true_iff.mp (show (D.flat _ && List.all _ D.flat) = true from h)
    show (eqV _ x || inV x _) = _
    rw [eqV_of r rx h1 hx, inV_of rx hx s h2]; rfl
theorem in_core (hK : X.K = G.K) {x y : V} {dx dy : D} {ys : List D} (st : St' G F H σ S T) (rx : Rep G F x dx) (ry : Rep G F y dy) (e : itemsOf dy = some ys) (h : (dx.flat && ys.all D.flat) = true) :
    ∃ p vs, y = .ref p ∧ (SqL X.K H p vs ∨ SqT X.K H p vs) ∧ flatV x = true ∧ vs.all flatV = true ∧ inV x vs = ys.any fun y => D.eqv y dx := by
  obtain ⟨h1, h2⟩ := Bool.and_eq_true_iff.mp h
  cases ry with
  | tup hs rs => cases e; exact ⟨_, _, rfl, .inr (hK ▸ same_t st.sub hs), flatV_of rx h1, flats_of rs h2, inV_of rx h1 rs h2⟩
  | lst hs rs => cases e; exact ⟨_, _, rfl, .inl (.inl (.inl (st.sub _ _ hs))), flatV_of rx h1, flats_of rs h2, inV_of rx h1 rs h2⟩
  | _ => cases e
theorem cls_in (hK : X.K = G.K) : ∃ r, OpR X (compareOp .In) r ∧ S2 G r fIn := by
  refine ⟨_, op_in_seq, fun F H σ S T x y dx dy kd Q st rx ry e k => ?_⟩
  unfold fIn kz at e
  cases q : itemsOf dy with
  | none => rw [q] at e; cases e
  | some ys =>
    simp only [q] at e
    split at e
    · rename_i h
      cases e
      obtain ⟨p, vs, h1, h2, h3, h4, h5⟩ := in_core hK st rx ry q h
      exact ⟨p, vs, h1, h2, h3, h4, by show Q (.bl (inV x vs)) H; rw [h5]; exact KE.val k st (.bl _)⟩
    · cases e
theorem cls_notIn (hK : X.K = G.K) : ∃ r, OpR X (compareOp .NotIn) r ∧ S2 G r fNotIn := by
  refine ⟨_, op_notIn_seq, fun F H σ S T x y dx dy kd Q st rx ry e k => ?_⟩
  unfold fNotIn kz at e
  cases q : itemsOf dy with
  | none => rw [q] at e; cases e
  | some ys =>
    simp only [q] at e
    split at e
    · rename_i h
      cases e
      obtain ⟨p, vs, h1, h2, h3, h4, h5⟩ := in_core hK st rx ry q h
      exact ⟨p, vs, h1, h2, h3, h4, by show Q (.bl (!inV x vs)) H; rw [h5]; exact KE.val k st (.bl _)⟩
    · cases e
def Ty.nm : Ty → String
  | .int => "int"
  | .bool => "bool"
  | .str => "str"
  | .list => "list"
  | .tuple => "tuple"
def D.nm : D → Option String
  | .non => some "NoneType"
  | .bl _ => some "bool"
  | .int _ => some "int"
  | .str _ => some "str"
  | .lst _ => some "list"
  | .tup _ => some "tuple"
  | _ => none
theorem isTy_kit {t : Ty} {d : D} {b : Bool} (h : d.isTy t = some b) : ∃ n, d.nm = some n ∧ kitB n t.nm = some b := by
  cases t <;> cases d <;> simp only [D.isTy, reduceCtorEq] at h <;> (cases h; exact ⟨_, rfl, by decide +kernel⟩)
theorem tyx_of {F : Hp} {v : V} {d : D} {n : String} (r : Rep G F v d) (h : d.nm = some n) : TyX G.K F v (.type n) := by
  cases r <;> simp only [D.nm, reduceCtorEq] at h <;> cases h
  · exact .base .non
  · exact .base (.bl _)
  · exact .base (.int _)
  · exact .base (.str _)
  · rename_i a vs ds hs rs
    rcases hs with (hs | ⟨o, hs⟩) | ⟨o, its, m, hk, hc, _⟩
    · exact .base (.tup hs)
    · exact .fTuple hs
    · exact .kTuple hk hc
  · rename_i a vs ds hs rs
    exact .base (.lst hs)
theorem tr_isi (t : Ty) {e : Expr} {m : E} {p p2 pos : Pos} {x : PySem.Str} (C : Cok X G W k) (h : TrE X G W e m) (hm : X.mg "isinstance" = none) (hm2 : X.mg x = none) (hx : bootBuiltins x = some (.type t.nm)) (hn : x ≠ "__name__" := by decide) (hd : (x == ("__debug__" : PySem.Str)) = false := by decide)
    (hg : Gl X "isinstance" := by rfl) (hg2 : Gl X x := by rfl) (he : starEach [e, .Name x p2] X.env = (false, eval e X.env) :: starEach [.Name x p2] X.env := by rfl) (he2 : starEach [.Name x p2] X.env = (false, eval (.Name x p2) X.env) :: starEach [] X.env := by rfl)
    (hpl : (backTo pos (starEach [.Name x p2] X.env)).any (·.1) = false := by rfl) : TrE X G W (.Call (.Name "isinstance" p) [e, .Name x p2] [] pos) (eIsi t m) := by
  obtain ⟨u, q, d⟩ := h
  refine ⟨_, pe_callB call_isi hg hm (by decide +kernel) (pa_cons q (pa_cons (pe_bltn (v := .ty t.nm) hg2 hm2 hx rfl hn hd) pa_nil he2) he) (by decide) (by decide) he hpl, fun F H σ S T Q st z => ?_⟩
  refine d.dat F H σ S T _ st (PR.bind z fun dd S1 y => ?_)
  intro v F1 H1 T1 s1 st1 r1
  have y : PR G W F H σ T (KE G F H σ T Q) (ofO (fIsi t dd) S1) := y
  unfold fIsi at y
  cases e1 : dd.isTy t with
  | none => rw [e1] at y; exact y.elim
  | some b =>
    rw [e1] at y
    have y : KE G F H σ T Q (.fz, .bl b) S1 := y
    obtain ⟨n, h1, h2⟩ := isTy_kit e1
    exact ⟨v, .ty t.nm, .type n, .type t.nm, b, rfl, .ty _, C.hK ▸ tyx_of (r1.mono st1.sub) h1, kit_ty h2, KE.val (y.re s1) st1 (.bl b)⟩
end
end TB
namespace TB
open PySem PySem.Spec PyProof.Rows L2
section
variable {X : Cx} {G : Cfgx} {W : WX} {k : Nat} {F H : Hp} {σ : L2.St} {S : List Slot} {T : Cnt}
theorem own_at {i : Nat} {kd : Kd} {d : D} (st : St' G F H σ S T) (e : S[i]? = some (some (kd, d))) : ∃ v f, σ[i]? = some (some v) ∧ Own G F H kd v d f ∧ (∀ a, f a ≤ T a) ∧
    ∀ F' H' k' d' f', Same F F' → Same F' H' → (∀ a o, T a ≠ 0 → f a = 0 → H a = some o → H' a = some o) → Own G F' H' k' v d' f' → (∀ a, f' a ≤ f a) → (∀ a, F' a ≠ none → F a ≠ none ∨ (f a ≠ 0 ∧ f' a = 0)) →
      ∃ T', St' G F' H' σ (S.set i (some (k', d'))) T' ∧ ∀ a, T' a + f a = T a + f' a := by
  obtain ⟨v, f, T0, ht, hv, ho, back⟩ := st.sl.at e
  cases ho with
  | @yes k1 v1 d1 f1 o =>
    refine ⟨v1, f, hv, o, fun a => by have := ht a; omega, fun F' H' k' d' f' sF sub kp o' le' nF => ?_⟩
    have e2 : σ.set i (some v1) = σ := by
      obtain ⟨hi, q1⟩ := List.getElem?_eq_some_iff.mp hv
      rw [← q1, List.set_getElem_self]
    have q := back F' H' (some v1) (some (k', d')) f' sF (fun a u n h => kp a u (by have := ht a; omega) (by have := ht a; have := st.le a; omega) h) (.yes o')
    rw [e2] at q
    refine ⟨add f' T0, ⟨st.pi, sub, q, fun a => ?_, fun a n => ?_⟩, fun a => ?_⟩
    · have := le' a; have := ht a; have := st.le a; simp only [add]; omega
    · have := le' a
      have := ht a
      have := st.le a
      rcases nF a n with z | ⟨z1, z2⟩
      · have := st.di a z; simp only [add]; omega
      · simp only [add]; omega
    · have := ht a; simp only [add]; omega
theorem ownL_some {S : List Slot} {i : Nat} {xs : List D} (e : ownL S i = some xs) : S[i]? = some (some (.li .fz, .lst xs)) := by
  unfold ownL at e
  split at e
  · cases e; assumption
  · cases e
theorem ownK_some {S : List Slot} {i : Nat} {xs : List (D × D)} (e : ownK S i = some xs) : S[i]? = some (some (.dK .fz, .dic xs)) := by
  unfold ownK at e
  split at e
  · cases e; assumption
  · cases e
/-- an own list of frozen items: where it stands, how it is rewritten -/
theorem own_list {i : Nat} {xs : List D} (st : St' G F H σ S T) (e : ownL S i = some xs) : ∃ a vs, σ[i]? = some (some (.ref a)) ∧ H a = some (.lst vs) ∧ Reps G F vs xs ∧ F a = none ∧
    ∀ ws ys, Reps G F ws ys → St' G F (upd H a (.lst ws)) σ (S.set i (some (.li .fz, .lst ys))) T ∧ Step F H T F (upd H a (.lst ws)) T := by
  obtain ⟨v, f, hv, o, hf, back⟩ := own_at st (ownL_some e)
  cases o with
  | @li _ a vs ds g h r =>
    obtain ⟨r1, e1⟩ := reps_fz r
    subst e1
    have t1 : T a ≠ 0 := by have := hf a; simp only [add, one, if_true] at this; omega
    have fa : F a = none := Decidable.byContradiction fun n => t1 (st.di a n)
    have sub2 : ∀ o, Same F (upd H a o) := fun o b u q => by
      by_cases z : b = a
      · subst z; rw [fa] at q; cases q
      · rw [upd_ne z]; exact st.sub _ _ q
    refine ⟨a, vs, hv, h, r1, fa, fun ws ys rw' => ?_⟩
    obtain ⟨T', st', ht⟩ := back F (upd H a (.lst ws)) (.li .fz) (.lst ys) (add (one a) nil0) (Same.refl F) (sub2 _) (fun b u n z q => by
      by_cases y : b = a
      · subst y; simp [add, one] at z
      · rw [upd_ne y]; exact q) (.li upd_same (owns_fz rw')) (fun b => Nat.le_refl _) (fun b n => .inl n)
    have eT : T' = T := by funext b; have := ht b; omega
    subst eT
    refine ⟨st', Same.refl F, fun b u z q => ?_, fun b n => .inl n, fun b h n => absurd h n, fun b n => ?_⟩
    · by_cases y : b = a
      · subst y; exact absurd z t1
      · rw [upd_ne y]; exact q
    · by_cases y : b = a
      · subst y; rw [upd_same]; simp
      · rw [upd_ne y]; exact n
/-- an own dict of frozen items -/
theorem own_dict {i : Nat} {xs : List (D × D)} (st : St' G F H σ S T) (e : ownK S i = some xs) : ∃ a kvs, σ[i]? = some (some (.ref a)) ∧ H a = some (.dK kvs) ∧ xs.map (·.1) = kvs.map (fun p => keyD p.1) ∧ Reps G F (kvs.map (·.2)) (xs.map (·.2)) ∧
    ∀ ws ys, ys.map (·.1) = ws.map (fun p => keyD p.1) → Reps G F (ws.map (·.2)) (ys.map (·.2)) → St' G F (upd H a (.dK ws)) σ (S.set i (some (.dK .fz, .dic ys))) T ∧ Step F H T F (upd H a (.dK ws)) T := by
  obtain ⟨v, f, hv, o, hf, back⟩ := own_at st (ownK_some e)
  cases o with
  | @dK _ a kvs kds g h hk r =>
    obtain ⟨r1, e1⟩ := reps_fz r
    subst e1
    have t1 : T a ≠ 0 := by have := hf a; simp only [add, one, if_true] at this; omega
    have fa : F a = none := Decidable.byContradiction fun n => t1 (st.di a n)
    have sub2 : ∀ o, Same F (upd H a o) := fun o b u q => by
      by_cases z : b = a
      · subst z; rw [fa] at q; cases q
      · rw [upd_ne z]; exact st.sub _ _ q
    refine ⟨a, kvs, hv, h, hk, r1, fun ws ys k' rw' => ?_⟩
    obtain ⟨T', st', ht⟩ := back F (upd H a (.dK ws)) (.dK .fz) (.dic ys) (add (one a) nil0) (Same.refl F) (sub2 _) (fun b u n z q => by
      by_cases y : b = a
      · subst y; simp [add, one] at z
      · rw [upd_ne y]; exact q) (.dK upd_same k' (owns_fz rw')) (fun b => Nat.le_refl _) (fun b n => .inl n)
    have eT : T' = T := by funext b; have := ht b; omega
    subst eT
    refine ⟨st', Same.refl F, fun b u z q => ?_, fun b n => .inl n, fun b h n => absurd h n, fun b n => ?_⟩
    · by_cases y : b = a
      · subst y; exact absurd z t1
      · rw [upd_ne y]; exact q
    · by_cases y : b = a
      · subst y; rw [upd_same]; simp
      · rw [upd_ne y]; exact n
/-- a frozen slot, or one that is frozen where it stands -/
theorem own_freeze {i : Nat} {kd : Kd} {d : D} (st : St' G F H σ S T) (e : S[i]? = some (some (kd, d))) : ∃ v F' T', σ[i]? = some (some v) ∧ Rep G F' v d ∧ St' G F' H σ (S.set i (some (.fz, d))) T' ∧ Step F H T F' H T' := by
  obtain ⟨v, f, hv, o, hf, back⟩ := own_at st e
  let F2 : Hp := fun a => if f a = 0 then F a else H a
  have fz : ∀ a, F a ≠ none → f a = 0 := fun a n => by have := hf a; have := st.di a n; omega
  have sf : Same F F2 := fun a u q => by
    show (if f a = 0 then F a else H a) = some u
    rw [if_pos (fz a (by rw [q]; simp))]; exact q
  have sub2 : Same F2 H := fun a u q => by
    have q : (if f a = 0 then F a else H a) = some u := q
    by_cases z : f a = 0
    · rw [if_pos z] at q; exact st.sub _ _ q
    · rw [if_neg z] at q; exact q
  have o2 : Own G F2 F2 kd v d f := o.mono sf fun a u n q => by
    show (if f a = 0 then F a else H a) = some u
    rw [if_neg n]; exact q
  have r2 : Rep G F2 v d := o2.rep (Same.refl F2)
  obtain ⟨T', st', ht⟩ := back F2 H .fz d nil0 sf sub2 (fun a u n z q => q) (.fz r2) (fun a => Nat.zero_le _) (fun a n => by
    by_cases z : f a = 0
    · have n : (if f a = 0 then F a else H a) ≠ none := n
      rw [if_pos z] at n; exact .inl n
    · exact .inr ⟨z, rfl⟩)
  refine ⟨v, F2, T', hv, r2, st', sf, fun a u _ q => q, fun a n => .inl (by have h1 := ht a; have h2 := hf a; have h3 : nil0 a = 0 := rfl; omega), fun a h n => .inr ?_, fun a n => n⟩
  by_cases z : f a = 0
  · have n : (if f a = 0 then F a else H a) ≠ none := n
    rw [if_pos z] at n; exact absurd h n
  · have := hf a; omega
theorem tr_fzV (i : Nat) {x : PySem.Str} {pos : Pos} (hN : X.N[i]? = some x := by rfl) (hv : Vis X.env.scope x := by first | exact Or.inl rfl | exact Or.inr (Or.inl rfl) | exact Or.inr (Or.inr rfl)) (hd : (x == ("__debug__" : PySem.Str)) = false := by decide)
    (hcd : (x == ("__classdict__" : PySem.Str)) = false := by decide) : TrE X G W (.Name x pos) (eFzV i) := by
  refine ⟨_, pe_var hN hv hd hcd, fun F H σ S T Q st p => ?_⟩
  unfold eFzV at p
  cases e : S[i]? with
  | none => rw [e] at p; exact p.elim
  | some s =>
    rw [e] at p
    cases s with
    | none => exact p.elim
    | some kd =>
      obtain ⟨kk, d⟩ := kd
      obtain ⟨v, F', T', hv, r, st', s'⟩ := own_freeze st e
      have p : KE G F H σ T Q (.fz, d) (S.set i (some (.fz, d))) := p
      exact ⟨v, hv, p v F' H T' nil0 (s'.castR fun a => rfl) st' (.fz r) (fun a => st'.le a) fun _ _ => rfl⟩
theorem has_list {α : Type} {K : α → List Slot → Prop} {i : Nat} {f : Unit → M α} (st : St' G F H σ S T) (p : PR G W F H σ T K ((hasL i S).bind f)) : (∃ xs, ownL S i = some xs) ∧ PR G W F H σ T K (f () S) := by
  unfold hasL at p
  cases e : ownL S i with
  | none => rw [e] at p; exact p.elim
  | some xs => rw [e] at p; exact ⟨⟨xs, rfl⟩, p⟩
theorem has_listS {α : Type} {K : α → List Slot → Prop} {i : Nat} {f : Unit → M α} (st : St' G F H σ S T) (p : PRs G W F H T K ((hasL i S).bind f)) : (∃ xs, ownL S i = some xs) ∧ PRs G W F H T K (f () S) := by
  unfold hasL at p
  cases e : ownL S i with
  | none => rw [e] at p; exact p.elim
  | some xs => rw [e] at p; exact ⟨⟨xs, rfl⟩, p⟩
theorem has_dictS {α : Type} {K : α → List Slot → Prop} {i : Nat} {f : Unit → M α} (st : St' G F H σ S T) (p : PRs G W F H T K ((hasK i S).bind f)) : (∃ xs, ownK S i = some xs) ∧ PRs G W F H T K (f () S) := by
  unfold hasK at p
  cases e : ownK S i with
  | none => rw [e] at p; exact p.elim
  | some xs => rw [e] at p; exact ⟨⟨xs, rfl⟩, p⟩
theorem norm_ix {n : Nat} {i : Int} {j : Nat} (h : normIx n i = some j) : ixN n i = some j ∧ j < n ∧ seqIndex? i n = some j := by
  have h2 : ixN n i = some j := h
  obtain ⟨a, b, _, _⟩ := ixN_seq h2
  exact ⟨h2, b, a⟩
theorem tr_setIx (i : Nat) {x : PySem.Str} {e kx : Expr} {m n : E} {p pos' pos : Pos} (h : TrE X G W e m) (h2 : TrE X G W kx n)
    (hN : X.N[i]? = some x := by rfl) (hv : Vis X.env.scope x := by first | exact Or.inl rfl | exact Or.inr (Or.inl rfl) | exact Or.inr (Or.inr rfl)) (hd : (x == ("__debug__" : PySem.Str)) = false := by decide) (hcd : (x == ("__classdict__" : PySem.Str)) = false := by decide)
    (ha : ∀ v, assign (.Subscript (.Name x p) kx pos') X.env v = (do
      let ov ← holding [v] (eval (.Name x p) X.env)
      let iv ← holding [v, ov] (eval kx X.env)
      standAt pos'
      holding [v, ov, iv] (setItem ov iv v)
      release [v, ov, iv] []) := by intro _; rfl)
    (hs : swapsWithSole [.Subscript (.Name x p) kx pos'] e pos.line X.env = pure false := by rfl) (hw : swappedStores [.Subscript (.Name x p) kx pos'] e X.env = pure none := by rfl) (h1 : (assignEach [.Subscript (.Name x p) kx pos'] X.env).map (·.2) = [assign (.Subscript (.Name x p) kx pos') X.env] := by rfl) :
    TrS X G W (.Assign [.Subscript (.Name x p) kx pos'] e pos) (sSetIx i n m) := by
  obtain ⟨t, q, d⟩ := h
  obtain ⟨u, q2, d2⟩ := h2
  refine ⟨_, ps_asg q (pg_sub (pe_var hN hv hd hcd) q2 set_list ha) hs hw h1, fun F H σ S T D st z => d.dat F H σ S T _ st (PRs.bind z fun y S1 z1 => ?_)⟩
  intro v F1 H1 T1 s1 st1 r1
  obtain ⟨⟨xs0, e0⟩, z1⟩ := has_listS st1 (PRs.reS s1 z1)
  obtain ⟨a, vs0, hv0, _⟩ := own_list st1 e0
  refine ⟨_, hv0, ?_⟩
  refine d2.dat F1 H1 σ S1 T1 _ st1 (PRs.bind z1 fun kk S2 z2 => ?_)
  intro w F2 H2 T2 s2 st2 r2
  have z2 := PRs.reS s2 z2
  cases e2 : ownL S2 i with
  | none => rw [e2] at z2; exact z2.elim
  | some xs =>
    rw [e2] at z2
    obtain ⟨a', vs, hv2, hH, rs, _, up⟩ := own_list st2 e2
    rw [hv0] at hv2
    cases hv2
    cases r2 with
    | int j =>
      have z2 : PRs G W F2 H2 T2 (KS G F2 H2 T2 D) (match normIx xs.length j with | some n => .ok .nx (S2.set i (some (.li .fz, .lst (xs.set n y)))) | none => .bad) := z2
      cases e3 : normIx xs.length j with
      | none => rw [e3] at z2; exact z2.elim
      | some nn =>
        rw [e3] at z2
        obtain ⟨n1, n2, n3⟩ := norm_ix e3
        obtain ⟨st3, s3⟩ := up (vs.set nn v) (xs.set nn y) (rs.set (r1.mono s2.sF) nn)
        refine ⟨a, vs, j, nn, rfl, rfl, hH, by rw [rs.len]; exact n1, ?_⟩
        exact (show KS G F2 H2 T2 D .nx _ from z2) σ F2 _ T2 s3 st3
    | _ => exact z2.elim
theorem tr_ixO (i : Nat) {x : PySem.Str} {kx : Expr} {n : E} {p pos : Pos} (h2 : TrE X G W kx n) (hN : X.N[i]? = some x := by rfl) (hv : Vis X.env.scope x := by first | exact Or.inl rfl | exact Or.inr (Or.inl rfl) | exact Or.inr (Or.inr rfl)) (hd : (x == ("__debug__" : PySem.Str)) = false := by decide) (hcd : (x == ("__classdict__" : PySem.Str)) = false := by decide)
    (hp : PlainIx kx := by exact fun _ _ => rfl) : TrE X G W (.Subscript (.Name x p) kx pos) (eIxO i n) := by
  obtain ⟨u, q2, d2⟩ := h2
  refine ⟨_, pe_ix ix_list (pe_var hN hv hd hcd) q2 hp, fun F H σ S T Q st z => ?_⟩
  obtain ⟨⟨xs0, e0⟩, z1⟩ := has_list st z
  obtain ⟨a, vs0, hv0, _⟩ := own_list st e0
  refine ⟨_, hv0, ?_⟩
  refine d2.dat F H σ S T _ st (PR.bind z1 fun kk S2 z2 => ?_)
  intro w F2 H2 T2 s2 st2 r2
  cases e2 : ownL S2 i with
  | none => rw [e2] at z2; exact z2.elim
  | some xs =>
    rw [e2] at z2
    obtain ⟨a', vs, hv2, hH, rs, _, up⟩ := own_list st2 e2
    rw [hv0] at hv2
    cases hv2
    cases r2 with
    | int j =>
      have z2 : PR G W F H σ T (KE G F H σ T Q) (match (normIx xs.length j).bind fun n => xs[n]? with | some d => .ok (.fz, d) S2 | none => .bad) := z2
      cases e3 : normIx xs.length j with
      | none => rw [e3] at z2; exact z2.elim
      | some nn =>
        rw [e3] at z2
        cases e4 : xs[nn]? with
        | none => simp only [Option.bind_some, e4] at z2; exact z2.elim
        | some d =>
          simp only [Option.bind_some, e4] at z2
          have z2 : KE G F H σ T Q (.fz, d) S2 := z2
          obtain ⟨v, hv3, rv⟩ := rs.get e4
          exact ⟨a, vs, j, v, rfl, rfl, .inl (.inl hH), atI_of (by rw [rs.len]; exact e3) hv3, KE.val (KE.re s2 z2) st2 rv⟩
    | _ => exact z2.elim
/-- what a method of a list does -/
def MthOk (G : Cfgx) (r : V → List V → Hp → VK → Prop) (f : List D → List D → Option (D × List D)) : Prop := ∀ F H a vs xs us ds d ys Q, H a = some (.lst vs) → Reps G F vs xs → Reps G F us ds → f xs ds = some (d, ys) → (∀ v ws, Rep G F v d → Reps G F ws ys → Q v (upd H a (.lst ws))) → r (.ref a) us H Q
theorem tr_mth (i : Nat) {x name : PySem.Str} {id : String} {r : V → List V → Hp → VK → Prop} {f : List D → List D → Option (D × List D)} {e : Expr} {es : List Expr} {ms : List E} {p apos cpos : Pos} (slot : PySem.Slot "list" name id) (hty : typeOf (.builtin id) = pure (.type "method_descriptor")) (hm : MtR X id r) (ok : MthOk G r f) (h : TrA X G W (e :: es) ms)
    (hN : X.N[i]? = some x := by rfl) (hv : Vis X.env.scope x := by first | exact Or.inl rfl | exact Or.inr (Or.inl rfl) | exact Or.inr (Or.inr rfl)) (hd : (x == ("__debug__" : PySem.Str)) = false := by decide) (hcd : (x == ("__classdict__" : PySem.Str)) = false := by decide)
    (hbase : attributeBase (.Name x p) name X.env (eval (.Name x p) X.env) = eval (.Name x p) X.env := by rfl)
    (hfew : ((backTo cpos (starEach (e :: es) X.env)).all (fun x => !x.1) && (backToKw cpos (keywordEach [] X.env)).all (fun x => x.1.isSome)
      && decide ((e :: es).length + ([] : List Keyword).length + (if ([] : List Keyword).isEmpty then 0 else 1) < 30)) = true := by rfl)
    (hline : (apos.endLine == cpos.line) = true := by rfl) (hs : starEach (e :: es) X.env = (false, eval e X.env) :: starEach es X.env := by rfl) (hplain : (backTo cpos (starEach es X.env)).any (·.1) = false := by rfl) :
    TrE X G W (.Call (.Attribute (.Name x p) name apos) (e :: es) [] cpos) (eMth f i ms) := by
  obtain ⟨u, q2, d2⟩ := h
  refine ⟨_, pe_bm F.plainAttrs_list slot hty hm (pe_var hN hv hd hcd) q2 hbase hfew hline hs hplain, fun F H σ S T Q st z => ?_⟩
  obtain ⟨⟨xs0, e0⟩, z1⟩ := has_list st z
  obtain ⟨a, vs0, hv0, hH0, _⟩ := own_list st e0
  refine ⟨_, hv0, .inl ⟨rfl, vs0, .inl (.inl hH0)⟩, ?_⟩
  refine d2 F H σ S T _ st (PR.bind z1 fun ds S2 z2 => ?_)
  intro us F2 H2 T2 s2 st2 r2
  cases e2 : ownL S2 i with
  | none => rw [e2] at z2; exact z2.elim
  | some xs =>
    rw [e2] at z2
    obtain ⟨a', vs, hv2, hH, rs, _, up⟩ := own_list st2 e2
    rw [hv0] at hv2
    cases hv2
    have z2 : PR G W F H σ T (KE G F H σ T Q) (match f xs ds with | some (r, ys) => .ok (.fz, r) (S2.set i (some (.li .fz, .lst ys))) | none => .bad) := z2
    cases e3 : f xs ds with
    | none => rw [e3] at z2; exact z2.elim
    | some dy =>
      obtain ⟨d, ys⟩ := dy
      rw [e3] at z2
      have z2 : KE G F H σ T Q (.fz, d) (S2.set i (some (.li .fz, .lst ys))) := z2
      refine ok F2 H2 a vs xs us ds d ys Q hH rs r2 e3 fun v ws rv rws => ?_
      obtain ⟨st3, s3⟩ := up ws ys rws
      exact z2 v F2 _ T2 nil0 ((s2.trans s3).castR fun a => rfl) st3 (.fz rv) (fun a => st3.le a) fun _ _ => rfl
theorem mo_append : MthOk G rAppend fAppend := by
  intro F H a vs xs us ds d ys Q hH rs ru e q
  cases ru with
  | nil => cases e
  | cons r1 r2 =>
    cases r2 with
    | cons a b => cases e
    | nil =>
      have e : (if xs.length < sizeMax then some (D.non, xs ++ [_]) else none) = some (d, ys) := e
      split at e
      · rename_i hz
        cases e
        have l : sizeLine = sizeMax := rfl
        exact ⟨a, vs, _, rfl, rfl, hH, by rw [rs.len, l]; exact hz, q _ _ .non (rs.app (.cons r1 .nil))⟩
      · cases e
theorem tr_append (i : Nat) {x : PySem.Str} {e : Expr} {m : E} {p apos cpos : Pos} (h : TrE X G W e m) (hs : starEach [e] X.env = (false, eval e X.env) :: starEach [] X.env := by rfl)
    (hN : X.N[i]? = some x := by rfl) (hv : Vis X.env.scope x := by first | exact Or.inl rfl | exact Or.inr (Or.inl rfl) | exact Or.inr (Or.inr rfl)) (hd : (x == ("__debug__" : PySem.Str)) = false := by decide) (hcd : (x == ("__classdict__" : PySem.Str)) = false := by decide)
    (hbase : attributeBase (.Name x p) "append" X.env (eval (.Name x p) X.env) = eval (.Name x p) X.env := by rfl)
    (hfew : ((backTo cpos (starEach [e] X.env)).all (fun x => !x.1) && (backToKw cpos (keywordEach [] X.env)).all (fun x => x.1.isSome)
      && decide ([e].length + ([] : List Keyword).length + (if ([] : List Keyword).isEmpty then 0 else 1) < 30)) = true := by rfl)
    (hline : (apos.endLine == cpos.line) = true := by rfl) (hplain : (backTo cpos (starEach [] X.env)).any (·.1) = false := by rfl) :
    TrE X G W (.Call (.Attribute (.Name x p) "append" apos) [e] [] cpos) (eMth fAppend i [m]) :=
  tr_mth i F.slot_list_append F.type_list_append mt_append mo_append (tra_cons h tra_nil hs) hN hv hd hcd hbase hfew hline hs hplain
end
end TB
namespace TB
open PySem PySem.Spec PyProof.Rows L2
section
variable {X : Cx} {G : Cfgx} {W : WX} {k : Nat}
theorem tr_put {tg e : Expr} {g : Tg} {m : E} {pos : Pos} (h : TrE X G W e m) (hg : TrG X G tg g) (hs : swapsWithSole [tg] e pos.line X.env = pure false := by rfl) (hw : swappedStores [tg] e X.env = pure none := by rfl)
    (h1 : (assignEach [tg] X.env).map (·.2) = [assign tg X.env] := by rfl) : TrS X G W (.Assign [tg] e pos) (sPut g m) := by
  obtain ⟨t, p, d⟩ := h
  obtain ⟨u, q, dg⟩ := hg
  refine ⟨_, ps_asg p q hs hw h1, fun F H σ S T D st z => d.dat F H σ S T _ st (PRs.bind z fun y S1 z1 => ?_)⟩
  intro v F1 H1 T1 s1 st1 r1
  cases e1 : g.put y S1 with
  | none => rw [e1] at z1; exact z1.elim
  | some S2 =>
    rw [e1] at z1
    exact dg F1 H1 σ S1 T1 v y S2 _ st1 r1 e1 fun σ2 T2 st2 l2 _ => (show KS G F H T D .nx S2 from z1) σ2 F1 H1 T2 (s1.less l2) st2
def DenO (G : Cfgx) (W : WX) (t : TO) (m : M (Option Int)) : Prop := ∀ F H σ S T Q, St' G F H σ S T → PR G W F H σ T (fun o S' => ∀ F' H' T', Step F H T F' H' T' → St' G F' H' σ S' T' → Q o H') (m S) → t σ H Q
def TrO (X : Cx) (G : Cfgx) (W : WX) (e : Option Expr) (m : Option E) : Prop := ∃ t, PO X e t ∧ DenO G W t (eOpt m)
theorem to_none : TrO X G W none none := ⟨_, po_none, fun F H σ S T Q st p => (show ∀ F' H' T', Step F H T F' H' T' → St' G F' H' σ S T' → Q none H' from p) F H T (Step.refl F H T) st⟩
theorem to_some {e : Expr} {m : E} (h : TrE X G W e m) : TrO X G W (some e) (some m) := by
  obtain ⟨t, p, d⟩ := h
  refine ⟨_, po_some p, fun F H σ S T Q st z => d.dat F H σ S T _ st (PR.bind z fun dd S1 y => ?_)⟩
  intro v F1 H1 T1 s1 st1 r1
  cases r1 with
  | int i => exact ⟨i, rfl, (show ∀ F' H' T', Step F H T F' H' T' → St' G F' H' σ S1 T' → Q (some i) H' from y) F1 H1 T1 s1 st1⟩
  | _ => exact y.elim
theorem cutL_all {α : Type} {xs : List α} {lo hi : Option Int} (h1 : ixS xs.length 0 lo = 0) (h2 : ixS xs.length xs.length hi = xs.length) : cutL xs lo hi = xs := by
  unfold cutL
  rw [h1, h2]
  simp
theorem Reps.cut {F : Hp} {vs : List V} {ds : List D} (r : Reps G F vs ds) (lo hi : Option Int) : Reps G F (cutV vs lo hi) (cutL ds lo hi) := by
  have e : cutV vs lo hi = (vs.drop (ixS vs.length 0 lo)).take (ixS vs.length vs.length hi - ixS vs.length 0 lo) := by
    cases lo <;> cases hi <;> rfl
  rw [e]
  unfold cutL
  rw [r.len]
  exact (r.drop _).take _
theorem tr_sl {e : Expr} {lo hi : Option Expr} {a : E} {ml mh : Option E} {p2 pos : Pos} (C : Cok X G W k) (h : TrE X G W e a) (hl : TrO X G W lo ml) (hh : TrO X G W hi mh) : TrE X G W (.Subscript e (.Slice lo hi none p2) pos) (eSl a ml mh) := by
  obtain ⟨t, p, d⟩ := h
  obtain ⟨u, q, d2⟩ := hl
  obtain ⟨w, r, d3⟩ := hh
  refine ⟨_, pe_slice (sl_list.or (sl_tupA.or sl_str)) p q r, fun F H σ S T Q st z => d.dat F H σ S T _ st (PR.bind z fun x S1 y => ?_)⟩
  intro v F1 H1 T1 s1 st1 r1
  refine d2 F1 H1 σ S1 T1 _ st1 (PR.bind (PR.re s1 (fun _ _ h => h) y) fun l S2 y2 => ?_)
  intro F2 H2 T2 s2 st2
  refine d3 F2 H2 σ S2 T2 _ st2 (PR.bind (PR.re s2 (fun _ _ h => h) y2) fun h S3 y3 => ?_)
  intro F3 H3 T3 s3 st3
  have s13 := (s1.trans s2).trans s3
  have r3 := (r1.mono s2.sF).mono s3.sF
  cases e1 : fSl x l h with
  | none => rw [e1] at y3; exact y3.elim
  | some kd =>
    rw [e1] at y3
    have y3 : KE G F H σ T Q kd S3 := y3
    have y3 := y3.re s13
    have ixe : ∀ (n d : Nat) (o : Option Int), HT.sIx n d o = ixS n d o := fun n d o => by cases o <;> rfl
    cases r3 with
    | @lst b vs ds hb rs =>
      cases e1
      exact .inl ⟨b, vs, rfl, .inl (.inl (st3.sub _ _ hb)), fun p hp => KE.newL y3 st3 (rs.cut l h) p hp⟩
    | @tup b vs ds hb rs =>
      cases e1
      refine .inr (.inl ⟨b, vs, rfl, C.hK ▸ same_t st3.sub hb, fun hw => ?_, fun hw p hp => KE.newT y3 st3 (rs.cut l h) p hp⟩)
      have e2 : cutL ds l h = ds := by
        rw [ixe, ixe] at hw
        exact cutL_all (by rw [← rs.len]; exact hw.1) (by rw [← rs.len]; exact hw.2)
      rw [e2] at y3
      exact KE.val y3 st3 (.tup hb rs)
    | str z =>
      have e1 : (if z.cps.toList.length ≤ sizeMax then kz (.str (cutL z.cps.toList l h)) else none) = some kd := e1
      split at e1
      · rename_i hz
        cases e1
        refine .inr (.inr ⟨z, rfl, by rw [str_len]; exact hz, KE.val y3 st3 ?_⟩)
        have e4 : (cutS z l h).cps.toList = cutL z.cps.toList l h := by
          unfold cutS
          unfold cutL
          rw [ixe, ixe, str_len]
        rw [← e4]
        exact .str _
      · cases e1
    | _ => cases e1
theorem ints_of {F : Hp} : ∀ {vs : List V} {ds : List D} {is : List Int}, Reps G F vs ds → intsOf ds = some is → vs = is.map V.int
  | _, _, _, .nil, h => by cases h; rfl
  | _, _, is, .cons r s, h => by
    cases r <;> simp only [intsOf, reduceCtorEq] at h
    rename_i b
    cases q : intsOf _ with
    | none => rw [q] at h; cases h
    | some js =>
      rw [q] at h
      cases h
      rw [ints_of s q]; rfl
theorem strs_of {F : Hp} : ∀ {vs : List V} {ds : List D} {is : List (List Nat)}, Reps G F vs ds → strsOf ds = some is → ∃ zs : List PySem.Str, vs = zs.map V.str ∧ zs.map (fun z => z.cps.toList) = is
  | _, _, _, .nil, h => by cases h; exact ⟨[], rfl, rfl⟩
  | _, _, is, .cons r s, h => by
    cases r <;> simp only [strsOf, reduceCtorEq] at h
    rename_i z
    cases q : strsOf _ with
    | none => rw [q] at h; cases h
    | some js =>
      rw [q] at h
      cases h
      obtain ⟨zs, e1, e2⟩ := strs_of s q
      exact ⟨z :: zs, by rw [e1]; rfl, by rw [← e2]; rfl⟩
theorem reps_ints {F : Hp} : ∀ is : List Int, Reps G F (is.map V.int) (is.map D.int)
  | [] => .nil
  | i :: is => .cons (.int i) (reps_ints is)
theorem reps_strs {F : Hp} : ∀ zs : List PySem.Str, Reps G F (zs.map V.str) ((zs.map fun z => z.cps.toList).map D.str)
  | [] => .nil
  | z :: zs => .cons (.str z) (reps_strs zs)
theorem sortI_eq {is js : List Int} (hp : js.Perm is) (hs : js.Pairwise (· ≤ ·)) : js = sortI is := by
  unfold sortI
  refine List.Perm.eq_of_pairwise (le := (· ≤ ·)) (fun a b _ _ h1 h2 => Int.le_antisymm h1 h2) hs ?_ (hp.trans (List.mergeSort_perm _ _).symm)
  have := List.pairwise_mergeSort (le := fun a b : Int => decide (a ≤ b)) (fun a b c h1 h2 => by simp at *; omega) (fun a b => by simp; omega) is
  exact this.imp fun h => by simpa using h
theorem ltCps_eq : ∀ a b : List Nat, ltCps a b = decide (a < b)
  | [], [] => rfl
  | [], _ :: _ => by simp [ltCps]
  | _ :: _, [] => by simp [ltCps]
  | a :: r, b :: t => by
    rw [show ltCps (a :: r) (b :: t) = (decide (a < b) || (a == b && ltCps r t)) from rfl, ltCps_eq r t]
    by_cases h1 : a < b
    · simp [h1, List.cons_lt_cons_iff]
    · by_cases h2 : a = b
      · subst h2; simp [List.cons_lt_cons_iff]
      · simp [h1, h2, List.cons_lt_cons_iff]
theorem rising_pair : ∀ {zs : List PySem.Str} {p : PySem.Str}, risingS p zs = true → ((p :: zs).map fun z => z.cps.toList).Pairwise (· ≤ ·)
  | [], p, _ => by simp
  | z :: zs, p, h => by
    unfold risingS at h
    obtain ⟨h1, h2⟩ := Bool.and_eq_true_iff.mp h
    have ih := rising_pair h2
    have h3 : p.cps.toList ≤ z.cps.toList := by
      rw [ltCps_eq] at h1
      exact List.not_lt.mp (by simpa using h1)
    rw [List.map_cons, List.pairwise_cons]
    refine ⟨fun y hy => ?_, ih⟩
    rw [List.map_cons] at hy
    rcases List.mem_cons.mp hy with e | e
    · rw [e]; exact h3
    · rw [List.map_cons, List.pairwise_cons] at ih
      exact List.le_trans h3 (ih.1 y e)
theorem sortT_eq {is js : List (List Nat)} (hp : js.Perm is) (hs : js.Pairwise (· ≤ ·)) : js = sortT is := by
  unfold sortT
  refine List.Perm.eq_of_pairwise (le := (· ≤ ·)) (fun a b _ _ h1 h2 => List.le_antisymm h1 h2) hs ?_ (hp.trans (List.mergeSort_perm _ _).symm)
  have e : (fun a b : List Nat => !decide (b < a)) = fun a b => decide (a ≤ b) := by
    funext a b
    rw [← decide_not]
    exact decide_eq_decide.mpr List.not_lt
  rw [e]
  have := List.pairwise_mergeSort (le := fun a b : List Nat => decide (a ≤ b)) (fun a b c h1 h2 => by simp at *; exact List.le_trans h1 h2) (fun a b => by simp; exact List.le_total a b) is
  exact this.imp fun h => by simpa using h
theorem cls_sorted (hK : X.K = G.K) : ∃ r, CallR X (.builtin "sorted") r ∧ SN G r fSorted := by
  refine ⟨_, cr_sortedI.or cr_sortedS, fun F H σ S T xs ds kd Q st rs e k => ?_⟩
  rcases rs with _ | ⟨r1, _ | ⟨r2, r3⟩⟩
  · simp [fSorted] at e
  · cases r1 <;> simp only [fSorted, reduceCtorEq] at e
    rename_i a xs as h1 r1
    cases e1 : intsOf as with
    | some is =>
      rw [e1] at e
      cases e
      have ex := ints_of r1 e1
      subst ex
      refine .inl ⟨a, is, rfl, .inl (.inl (st.sub _ _ h1)), fun js p hp hs hn => ?_⟩
      rw [sortI_eq hp hs]
      exact KE.newL k st (reps_ints _) p hn
    | none =>
      rw [e1] at e
      cases e2 : strsOf as with
      | none => rw [e2] at e; cases e
      | some ss =>
        rw [e2] at e
        have e : (if ss.length < 64 then some ((.li .fz, .lst ((sortT ss).map D.str)) : KD) else none) = some kd := e
        split at e
        · rename_i hz
          cases e
          obtain ⟨zs, ex, ez⟩ := strs_of r1 e2
          subst ex ez
          refine .inr ⟨a, zs, rfl, .inl (.inl (st.sub _ _ h1)), by simpa using hz, fun ys p hp hs hn => ?_⟩
          have e5 : (ys.map fun z => z.cps.toList) = sortT (zs.map fun z => z.cps.toList) := sortT_eq (hp.map _) (by
            cases ys with
            | nil => simp
            | cons y ys => exact rising_pair hs)
          rw [← e5] at k
          exact KE.newL k st (reps_strs _) p hn
        · cases e
  · cases r1 <;> simp [fSorted] at e
theorem joinD_eq (s : List Nat) : ∀ ps, TL.joinL s ps = joinD s ps
  | [] => rfl
  | [_] => rfl
  | p :: q :: r => by
    show p ++ (s ++ TL.joinL s (q :: r)) = p ++ (s ++ joinD s (q :: r))
    rw [joinD_eq s (q :: r)]
theorem tr_join {o e : Expr} {a b : E} {apos pos : Pos} (ho : TrE X G W o a) (he : TrE X G W e b) (hs : starEach [e] X.env = [(false, eval e X.env)] := by rfl) (hbase : attributeBase o "join" X.env (eval o X.env) = eval o X.env := by rfl) (hline : (apos.endLine == pos.line) = true := by rfl) :
    TrE X G W (.Call (.Attribute o "join" apos) [e] [] pos) (eJoin a b) := by
  obtain ⟨t, p, d⟩ := ho
  obtain ⟨u, q, d2⟩ := he
  refine ⟨_, pe_join p q hs hbase hline, fun F H σ S T Q st z => d.dat F H σ S T _ st (PR.bind z fun x S1 y => ?_)⟩
  intro v F1 H1 T1 s1 st1 r1
  cases r1 with
  | str z =>
    refine ⟨⟨z, rfl⟩, ?_⟩
    have y : PR G W F H σ T (KE G F H σ T Q) ((eDat b S1).bind fun y => ofO (fJoin z.cps.toList y)) := y
    refine d2.dat F1 H1 σ S1 T1 _ st1 (PR.bind (PR.re s1 (fun _ _ h => h) y) fun l S2 y2 => ?_)
    intro v2 F2 H2 T2 s2 st2 r2
    cases r2 with
    | @lst c vs ds hc rs =>
      cases e2 : strsOf ds with
      | none =>
        have : fJoin z.cps.toList (.lst ds) = none := by show (strsOf ds).bind _ = none; rw [e2]; rfl
        rw [this] at y2; exact y2.elim
      | some ss =>
        obtain ⟨zs, ex, ez⟩ := strs_of rs e2
        subst ex ez
        have e3 : fJoin z.cps.toList (.lst ds) = if ((zs.map fun z => z.cps.toList).map (·.length)).sum + (zs.map fun z => z.cps.toList).length * z.cps.toList.length ≤ sizeMax then kz (.str (joinD z.cps.toList (zs.map fun z => z.cps.toList))) else none := by
          show (strsOf ds).bind _ = _; rw [e2]; rfl
        rw [e3] at y2
        split at y2
        · rename_i hz
          have y2 : KE G F H σ T Q (.fz, .str (joinD z.cps.toList (zs.map fun z => z.cps.toList))) S2 := y2
          refine ⟨z, c, zs, rfl, rfl, .inl (.inl (.inl (st2.sub _ _ hc))), ?_, ?_⟩
          · have e4 : (zs.map (·.length)) = ((zs.map fun z => z.cps.toList).map (·.length)) := by
              rw [List.map_map]
              exact List.map_congr_left fun z _ => str_len z
            rw [e4, str_len z]
            have hz2 := hz
            rw [List.length_map (as := zs)] at hz2
            exact hz2
          · have e5 : (Txt.join z zs).cps.toList = joinD z.cps.toList (zs.map fun z => z.cps.toList) := by
              rw [TL.join_eq]
              exact (TL.tl_join z zs).trans (joinD_eq _ _)
            rw [← e5] at y2
            exact KE.val (KE.re (s1.trans s2) y2) st2 (.str _)
        · exact y2.elim
    | _ => exact y2.elim
  | _ => exact y.elim
end
end TB
namespace TB
open PySem PySem.Spec PyProof.Rows L2
section
variable {X : Cx} {G : Cfgx} {W : WX} {k : Nat}
theorem tr_dnew {pos : Pos} : TrE X G W (.Dict [] [] pos) eDnew := ⟨_, pe_dnewK, fun F H σ S T Q st z => by
  have z : KE G F H σ T Q (.dK .fz, .dic []) S := z
  intro p hp
  obtain ⟨st2, s, le, fp⟩ := st.newT (o := .dK []) hp
  refine z (.ref p) F _ T (add (one p) nil0) (s.castR fun a => rfl) st2 (.dK (kds := []) upd_same rfl .nil) (fun a => le a) fun a n => ?_
  by_cases q : a = p
  · subst q; rw [fp] at n; exact absurd rfl n
  · simp [add, one, nil0, q]⟩
theorem key_of {F : Hp} {v : V} {d : D} (h : isKey d = true) (r : Rep G F v d) : ∃ kk, v = kV kk ∧ d = keyD kk := by
  cases r <;> first | cases h | skip
  · exact ⟨.inl _, rfl, rfl⟩
  · exact ⟨.inr _, rfl, rfl⟩
theorem key_eqv (a b : Key) : D.eqv (keyD a) (keyD b) = decide (a = b) := by
  cases a with
  | inl i => cases b with
    | inl j => simp [keyD, D.eqv, BEq.beq]
    | inr z => simp [keyD, D.eqv]
  | inr w => cases b with
    | inl j => simp [keyD, D.eqv]
    | inr z =>
      show (w.cps.toList == z.cps.toList) = _
      have e : (Sum.inr w : Key) = Sum.inr z ↔ w.cps.toList = z.cps.toList := by
        constructor
        · intro h; cases h; rfl
        · intro h
          cases w; cases z
          have h2 := Array.toList_inj.mp h
          simp at h2
          rw [h2]
      rw [Bool.eq_iff_iff, beq_iff_eq, decide_eq_true_iff]
      exact e.symm
theorem put_any {kvs : List (Key × V)} {kds : List (D × D)} (hk : kds.map (·.1) = kvs.map (fun p => keyD p.1)) (kk : Key) : (kds.any fun p => D.eqv p.1 (keyD kk)) = kvs.any fun kv => decide (kv.1 = kk) := by
  induction kvs generalizing kds with
  | nil => cases kds with
    | nil => rfl
    | cons a b => simp at hk
  | cons p r ih => cases kds with
    | nil => simp at hk
    | cons a b =>
      obtain ⟨h1, h2⟩ := List.cons.inj (show a.1 :: b.map (·.1) = keyD p.1 :: r.map (fun p => keyD p.1) from hk)
      rw [List.any_cons, List.any_cons, ih h2, h1, key_eqv]
theorem put_map {F : Hp} {kvs : List (Key × V)} {kds : List (D × D)} (hk : kds.map (·.1) = kvs.map (fun p => keyD p.1)) (hr : Reps G F (kvs.map (·.2)) (kds.map (·.2))) (kk : Key) {v : V} {d : D} (r : Rep G F v d) :
    (kds.map fun p => if D.eqv p.1 (keyD kk) = true then (p.1, d) else p).map (·.1) = (kvs.map fun kv => if kv.1 = kk then (kv.1, v) else kv).map (fun p => keyD p.1) ∧ Reps G F ((kvs.map fun kv => if kv.1 = kk then (kv.1, v) else kv).map (·.2)) ((kds.map fun p => if D.eqv p.1 (keyD kk) = true then (p.1, d) else p).map (·.2)) := by
  induction kvs generalizing kds with
  | nil => cases kds with
    | nil => exact ⟨rfl, .nil⟩
    | cons a b => simp at hk
  | cons p q ih => cases kds with
    | nil => simp at hk
    | cons a b =>
      obtain ⟨h1, h2⟩ := List.cons.inj (show a.1 :: b.map (·.1) = keyD p.1 :: q.map (fun p => keyD p.1) from hk)
      cases hr with
      | cons r1 r2 =>
        obtain ⟨i1, i2⟩ := ih h2 r2
        have e : D.eqv a.1 (keyD kk) = decide (p.1 = kk) := by rw [h1, key_eqv]
        by_cases z : p.1 = kk
        · rw [decide_eq_true z] at e
          simp only [List.map_cons, e, if_pos z, if_true]
          exact ⟨by rw [i1, h1], .cons r i2⟩
        · rw [decide_eq_false z] at e
          simp only [List.map_cons, e, if_neg z, Bool.false_eq_true, if_false]
          exact ⟨by rw [i1, h1], .cons r1 i2⟩
theorem put_rep {F : Hp} {kvs : List (Key × V)} {kds : List (D × D)} (hk : kds.map (·.1) = kvs.map (fun p => keyD p.1)) (hr : Reps G F (kvs.map (·.2)) (kds.map (·.2))) (kk : Key) {v : V} {d : D} (r : Rep G F v d) :
    (putD kds (keyD kk) d).map (·.1) = (putK kvs kk v).map (fun p => keyD p.1) ∧ Reps G F ((putK kvs kk v).map (·.2)) ((putD kds (keyD kk) d).map (·.2)) := by
  unfold putD putK
  rw [put_any hk kk]
  split
  · exact put_map hk hr kk r
  · rw [List.map_append, List.map_append, List.map_append, List.map_append, hk]
    exact ⟨rfl, hr.app (.cons r .nil)⟩
theorem tr_dput (i : Nat) {x : PySem.Str} {e kx : Expr} {m n : E} {p pos' pos : Pos} (C : Cok X G W k) (h : TrE X G W e m) (h2 : TrE X G W kx n)
    (hN : X.N[i]? = some x := by rfl) (hv : Vis X.env.scope x := by first | exact Or.inl rfl | exact Or.inr (Or.inl rfl) | exact Or.inr (Or.inr rfl)) (hd : (x == ("__debug__" : PySem.Str)) = false := by decide) (hcd : (x == ("__classdict__" : PySem.Str)) = false := by decide)
    (hs : swapsWith e (some (.Subscript (.Name x p) kx pos')) pos.line X.env = pure false := by rfl) :
    TrS X G W (.Assign [.Subscript (.Name x p) kx pos'] e pos) (sDput i n m) := by
  obtain ⟨t, q, d⟩ := h
  obtain ⟨u, q2, d2⟩ := h2
  have hu : X.A.units + 1 < cLine := by have := C.room.units; omega
  refine ⟨_, ps_dput hu (pe_var hN hv hd hcd) q2 q hs, fun F H σ S T D st z => d.dat F H σ S T _ st (PRs.bind z fun y S1 z1 => ?_)⟩
  intro v F1 H1 T1 s1 st1 r1
  obtain ⟨⟨xs0, e0⟩, z1⟩ := has_dictS st1 (PRs.reS s1 z1)
  obtain ⟨a, vs0, hv0, _⟩ := own_dict st1 e0
  refine ⟨_, hv0, ?_⟩
  refine d2.dat F1 H1 σ S1 T1 _ st1 (PRs.bind z1 fun kk S2 z2 => ?_)
  intro w F2 H2 T2 s2 st2 r2
  have z2 := PRs.reS s2 z2
  cases e2 : ownK S2 i with
  | none => rw [e2] at z2; exact z2.elim
  | some xs =>
    rw [e2] at z2
    obtain ⟨a', vs, hv2, hH, hk, rs, up⟩ := own_dict st2 e2
    rw [hv0] at hv2
    cases hv2
    have z2 : PRs G W F2 H2 T2 (KS G F2 H2 T2 D) (if isKey kk = true ∧ xs.length < sizeMax then .ok .nx (S2.set i (some (.dK .fz, .dic (putD xs kk y)))) else .bad) := z2
    split at z2
    · rename_i hz
      obtain ⟨key, ev, ed⟩ := key_of hz.1 r2
      subst ev ed
      obtain ⟨p1, p2⟩ := put_rep hk rs key (r1.mono s2.sF)
      obtain ⟨st3, s3⟩ := up (putK vs key v) (putD xs (keyD key) y) p1 p2
      have hl : vs.length = xs.length := by
        have := congrArg List.length hk
        simpa using this.symm
      exact ⟨a, _, rfl, DPut.k hH (by rw [hl]; exact hz.2), (show KS G F2 H2 T2 D .nx _ from z2) σ F2 _ T2 s3 st3⟩
    · exact z2.elim
end
end TB
namespace TB
open PySem PySem.Spec PyProof.Rows L2
section
end
section
end
end TB
namespace TB
open PySem PySem.Spec PyProof.Rows L2
theorem S2.or {G : Cfgx} {r r' : R2} {f g : D → D → Option KD} (h : S2 G r f) (h' : S2 G r' g) : S2 G (fun x y H Q => r x y H Q ∨ r' x y H Q) (fOr f g) := by
  intro F H σ S T x y dx dy kd Q st rx ry e q
  unfold fOr at e
  cases e1 : f dx dy with
  | some a => rw [e1] at e; cases e; exact .inl (h F H σ S T x y dx dy kd Q st rx ry e1 q)
  | none => rw [e1] at e; exact .inr (h' F H σ S T x y dx dy kd Q st rx ry e q)
section
variable {X : Cx} {G : Cfgx} {W : WX} {k : Nat}
theorem cls_inA (hK : X.K = G.K) : ∃ r, OpR X (compareOp .In) r ∧ S2 G r fInA := by
  obtain ⟨r, h1, h2⟩ := cls_in (X := X) (G := G) hK
  obtain ⟨r', g1, g2⟩ := cls_inS (X := X) (G := G)
  exact ⟨_, orR h1 g1, h2.or g2⟩
theorem cls_notInA (hK : X.K = G.K) : ∃ r, OpR X (compareOp .NotIn) r ∧ S2 G r fNotInA := by
  obtain ⟨r, h1, h2⟩ := cls_notIn (X := X) (G := G) hK
  obtain ⟨r', g1, g2⟩ := cls_notInS (X := X) (G := G)
  exact ⟨_, orR h1 g1, h2.or g2⟩
theorem cls_isA : ∃ r, OpR X (compareOp .Is) r ∧ S2 G r fIsA := by
  obtain ⟨r, h1, h2⟩ := cls_isN (X := X) (G := G)
  obtain ⟨r', g1, g2⟩ := cls_isB (X := X) (G := G)
  exact ⟨_, orR h1 g1, h2.or g2⟩
theorem cls_notA : ∃ r, OpR X (compareOp .IsNot) r ∧ S2 G r fIsNotA := by
  obtain ⟨r, h1, h2⟩ := cls_notN (X := X) (G := G)
  obtain ⟨r', g1, g2⟩ := cls_notB (X := X) (G := G)
  exact ⟨_, orR h1 g1, h2.or g2⟩
theorem tr_Add (C : Cok X G W k) {a b : Expr} {ma mb : E} {pos : Pos} (ha : TrE X G W a ma) (hb : TrE X G W b mb) : TrE X G W (.BinOp a .Add b pos) (eOp fAdd ma mb) := by
  obtain ⟨r, h1, h2⟩ := cls_add (X := X) (G := G) C.hK
  exact tr_op h1 h2 ha hb
theorem tr_Sub (C : Cok X G W k) {a b : Expr} {ma mb : E} {pos : Pos} (ha : TrE X G W a ma) (hb : TrE X G W b mb) : TrE X G W (.BinOp a .Sub b pos) (eOp fSub ma mb) := by
  obtain ⟨r, h1, h2⟩ := cls_sub (X := X) (G := G)
  exact tr_op h1 h2 ha hb
theorem tr_Mult (C : Cok X G W k) {a b : Expr} {ma mb : E} {pos : Pos} (ha : TrE X G W a ma) (hb : TrE X G W b mb) : TrE X G W (.BinOp a .Mult b pos) (eOp fMul ma mb) := by
  obtain ⟨r, h1, h2⟩ := cls_mul (X := X) (G := G) C.hK
  exact tr_op h1 h2 ha hb
theorem tr_Mod (C : Cok X G W k) {a b : Expr} {ma mb : E} {pos : Pos} (ha : TrE X G W a ma) (hb : TrE X G W b mb) : TrE X G W (.BinOp a .Mod b pos) (eOp fMod ma mb) := by
  obtain ⟨r, h1, h2⟩ := cls_mod (X := X) (G := G)
  exact tr_op h1 h2 ha hb
theorem tr_FloorDiv (C : Cok X G W k) {a b : Expr} {ma mb : E} {pos : Pos} (ha : TrE X G W a ma) (hb : TrE X G W b mb) : TrE X G W (.BinOp a .FloorDiv b pos) (eOp fDiv ma mb) := by
  obtain ⟨r, h1, h2⟩ := cls_div (X := X) (G := G)
  exact tr_op h1 h2 ha hb
theorem tr_Pow (C : Cok X G W k) {a b : Expr} {ma mb : E} {pos : Pos} (ha : TrE X G W a ma) (hb : TrE X G W b mb) : TrE X G W (.BinOp a .Pow b pos) (eOp fPow ma mb) := by
  obtain ⟨r, h1, h2⟩ := cls_pow (X := X) (G := G)
  exact tr_op h1 h2 ha hb
theorem tt_Lt (C : Cok X G W k) {a b : Expr} {ma mb : E} {pos : Pos} (ha : TrE X G W a ma) (hb : TrE X G W b mb) (hm : behindInMarks .Lt b = false := by rfl) : TrT X G W (.Compare a [.Lt] [b] pos) (eBool (eOp fLt ma mb)) := by
  obtain ⟨r, h1, h2⟩ := cls_lt (X := X) (G := G)
  exact tt_cmp h1 h2 ha hb hm
theorem tr_LtE (C : Cok X G W k) {a b : Expr} {ma mb : E} {pos : Pos} (ha : TrE X G W a ma) (hb : TrE X G W b mb) (hm : behindInMarks .LtE b = false := by rfl) : TrE X G W (.Compare a [.LtE] [b] pos) (eOp fLe ma mb) := by
  obtain ⟨r, h1, h2⟩ := cls_le (X := X) (G := G)
  exact tr_cmp h1 h2 ha hb hm
theorem tr_Gt (C : Cok X G W k) {a b : Expr} {ma mb : E} {pos : Pos} (ha : TrE X G W a ma) (hb : TrE X G W b mb) (hm : behindInMarks .Gt b = false := by rfl) : TrE X G W (.Compare a [.Gt] [b] pos) (eOp fGt ma mb) := by
  obtain ⟨r, h1, h2⟩ := cls_gt (X := X) (G := G)
  exact tr_cmp h1 h2 ha hb hm
theorem tt_Gt (C : Cok X G W k) {a b : Expr} {ma mb : E} {pos : Pos} (ha : TrE X G W a ma) (hb : TrE X G W b mb) (hm : behindInMarks .Gt b = false := by rfl) : TrT X G W (.Compare a [.Gt] [b] pos) (eBool (eOp fGt ma mb)) := by
  obtain ⟨r, h1, h2⟩ := cls_gt (X := X) (G := G)
  exact tt_cmp h1 h2 ha hb hm
theorem tr_GtE (C : Cok X G W k) {a b : Expr} {ma mb : E} {pos : Pos} (ha : TrE X G W a ma) (hb : TrE X G W b mb) (hm : behindInMarks .GtE b = false := by rfl) : TrE X G W (.Compare a [.GtE] [b] pos) (eOp fGe ma mb) := by
  obtain ⟨r, h1, h2⟩ := cls_ge (X := X) (G := G)
  exact tr_cmp h1 h2 ha hb hm
theorem tr_Eq (C : Cok X G W k) {a b : Expr} {ma mb : E} {pos : Pos} (ha : TrE X G W a ma) (hb : TrE X G W b mb) (hm : behindInMarks .Eq b = false := by rfl) : TrE X G W (.Compare a [.Eq] [b] pos) (eOp fEq ma mb) := by
  obtain ⟨r, h1, h2⟩ := cls_eq (X := X) (G := G) C.hK C.room
  exact tr_cmp h1 h2 ha hb hm
theorem tt_Eq (C : Cok X G W k) {a b : Expr} {ma mb : E} {pos : Pos} (ha : TrE X G W a ma) (hb : TrE X G W b mb) (hm : behindInMarks .Eq b = false := by rfl) : TrT X G W (.Compare a [.Eq] [b] pos) (eBool (eOp fEq ma mb)) := by
  obtain ⟨r, h1, h2⟩ := cls_eq (X := X) (G := G) C.hK C.room
  exact tt_cmp h1 h2 ha hb hm
theorem tr_NotEq (C : Cok X G W k) {a b : Expr} {ma mb : E} {pos : Pos} (ha : TrE X G W a ma) (hb : TrE X G W b mb) (hm : behindInMarks .NotEq b = false := by rfl) : TrE X G W (.Compare a [.NotEq] [b] pos) (eOp fNe ma mb) := by
  obtain ⟨r, h1, h2⟩ := cls_ne (X := X) (G := G) C.hK C.room
  exact tr_cmp h1 h2 ha hb hm
theorem tt_NotEq (C : Cok X G W k) {a b : Expr} {ma mb : E} {pos : Pos} (ha : TrE X G W a ma) (hb : TrE X G W b mb) (hm : behindInMarks .NotEq b = false := by rfl) : TrT X G W (.Compare a [.NotEq] [b] pos) (eBool (eOp fNe ma mb)) := by
  obtain ⟨r, h1, h2⟩ := cls_ne (X := X) (G := G) C.hK C.room
  exact tt_cmp h1 h2 ha hb hm
theorem tr_In (C : Cok X G W k) {a b : Expr} {ma mb : E} {pos : Pos} (ha : TrE X G W a ma) (hb : TrE X G W b mb) (hm : behindInMarks .In b = false := by rfl) : TrE X G W (.Compare a [.In] [b] pos) (eOp fInA ma mb) := by
  obtain ⟨r, h1, h2⟩ := cls_inA (X := X) (G := G) C.hK
  exact tr_cmp h1 h2 ha hb hm
theorem tr_Is (C : Cok X G W k) {a b : Expr} {ma mb : E} {pos : Pos} (ha : TrE X G W a ma) (hb : TrE X G W b mb) (hm : behindInMarks .Is b = false := by rfl) : TrE X G W (.Compare a [.Is] [b] pos) (eOp fIsA ma mb) := by
  obtain ⟨r, h1, h2⟩ := cls_isA (X := X) (G := G)
  exact tr_cmp h1 h2 ha hb hm
theorem tt_IsNot (C : Cok X G W k) {a b : Expr} {ma mb : E} {pos : Pos} (ha : TrE X G W a ma) (hb : TrE X G W b mb) (hm : behindInMarks .IsNot b = false := by rfl) : TrT X G W (.Compare a [.IsNot] [b] pos) (eBool (eOp fIsNotA ma mb)) := by
  obtain ⟨r, h1, h2⟩ := cls_notA (X := X) (G := G)
  exact tt_cmp h1 h2 ha hb hm
theorem tr_LtE_LtE (C : Cok X G W k) {a b c : Expr} {ma mb mc : E} {pos : Pos} (ha : TrE X G W a ma) (hb : TrE X G W b mb) (hc : TrE X G W c mc) (hm : lastMarks [.LtE, .LtE] [b, c] = false := by with_unfolding_all rfl) : TrE X G W (.Compare a [.LtE, .LtE] [b, c] pos) (eChain fLe fLe ma mb mc) := by
  obtain ⟨r, h1, h2⟩ := cls_le (X := X) (G := G)
  obtain ⟨r', g1, g2⟩ := cls_le (X := X) (G := G)
  exact tr_chain h1 g1 h2 g2 ha hb hc hm
theorem tr_Ix (C : Cok X G W k) {a b : Expr} {ma mb : E} {pos : Pos} (ha : TrE X G W a ma) (hb : TrE X G W b mb) (hp : PlainIx b := by exact fun _ _ => rfl) : TrE X G W (.Subscript a b pos) (eOp fIx ma mb) := by
  obtain ⟨r, h1, h2⟩ := cls_ix (X := X) (G := G) C.hK
  exact tr_ix h1 h2 ha hb hp
theorem tr_b_len (C : Cok X G W k) {p pos : Pos} {e : Expr} {es : List Expr} {ms : List E} (hm : X.mg "len" = none) (hg : Gl X "len") (ha : TrA X G W (e :: es) ms) (he : starEach (e :: es) X.env = (false, eval e X.env) :: starEach es X.env := by rfl) (hpl : (backTo pos (starEach es X.env)).any (·.1) = false := by rfl) : TrE X G W (.Call (.Name "len" p) (e :: es) [] pos) (eApp fLen ms) := by
  obtain ⟨r, h1, h2⟩ := cls_len (X := X) (G := G) C.hK
  exact tr_callB h1 h2 hm (by rfl) ha hg (by decide) (by decide) he hpl
theorem tr_b_int (C : Cok X G W k) {p pos : Pos} {e : Expr} {es : List Expr} {ms : List E} (hm : X.mg "int" = none) (hg : Gl X "int") (ha : TrA X G W (e :: es) ms) (he : starEach (e :: es) X.env = (false, eval e X.env) :: starEach es X.env := by rfl) (hpl : (backTo pos (starEach es X.env)).any (·.1) = false := by rfl) : TrE X G W (.Call (.Name "int" p) (e :: es) [] pos) (eApp fIntB ms) := by
  obtain ⟨r, h1, h2⟩ := cls_intB (X := X) (G := G)
  exact tr_callT h1 h2 hm (by rfl) ha hg (by decide) (by decide) he hpl
theorem tr_b_min (C : Cok X G W k) {p pos : Pos} {e : Expr} {es : List Expr} {ms : List E} (hm : X.mg "min" = none) (hg : Gl X "min") (ha : TrA X G W (e :: es) ms) (he : starEach (e :: es) X.env = (false, eval e X.env) :: starEach es X.env := by rfl) (hpl : (backTo pos (starEach es X.env)).any (·.1) = false := by rfl) : TrE X G W (.Call (.Name "min" p) (e :: es) [] pos) (eApp fMin2 ms) := by
  obtain ⟨r, h1, h2⟩ := cls_min2 (X := X) (G := G) C.calm
  exact tr_callB h1 h2 hm (by rfl) ha hg (by decide) (by decide) he hpl
theorem tr_b_max (C : Cok X G W k) {p pos : Pos} {e : Expr} {es : List Expr} {ms : List E} (hm : X.mg "max" = none) (hg : Gl X "max") (ha : TrA X G W (e :: es) ms) (he : starEach (e :: es) X.env = (false, eval e X.env) :: starEach es X.env := by rfl) (hpl : (backTo pos (starEach es X.env)).any (·.1) = false := by rfl) : TrE X G W (.Call (.Name "max" p) (e :: es) [] pos) (eApp fMax2 ms) := by
  obtain ⟨r, h1, h2⟩ := cls_max2 (X := X) (G := G) C.calm
  exact tr_callB h1 h2 hm (by rfl) ha hg (by decide) (by decide) he hpl
theorem tr_b_list (C : Cok X G W k) {p pos : Pos} {e : Expr} {es : List Expr} {ms : List E} (hm : X.mg "list" = none) (hg : Gl X "list") (ha : TrA X G W (e :: es) ms) (he : starEach (e :: es) X.env = (false, eval e X.env) :: starEach es X.env := by rfl) (hpl : (backTo pos (starEach es X.env)).any (·.1) = false := by rfl) : TrE X G W (.Call (.Name "list" p) (e :: es) [] pos) (eApp fList ms) := by
  obtain ⟨r, h1, h2⟩ := cls_list (X := X) (G := G) C.hK C.calm
  exact tr_callT h1 h2 hm (by rfl) ha hg (by decide) (by decide) he hpl
theorem tr_b_all (C : Cok X G W k) {p pos : Pos} {e : Expr} {es : List Expr} {ms : List E} (hm : X.mg "all" = none) (hg : Gl X "all") (ha : TrA X G W (e :: es) ms) (he : starEach (e :: es) X.env = (false, eval e X.env) :: starEach es X.env := by rfl) (hpl : (backTo pos (starEach es X.env)).any (·.1) = false := by rfl) : TrE X G W (.Call (.Name "all" p) (e :: es) [] pos) (eApp fAllB ms) := by
  obtain ⟨r, h1, h2⟩ := cls_all (X := X) (G := G) C.hK C.calm
  exact tr_callB h1 h2 hm (by rfl) ha hg (by decide) (by decide) he hpl
theorem tr_b_sorted (C : Cok X G W k) {p pos : Pos} {e : Expr} {es : List Expr} {ms : List E} (hm : X.mg "sorted" = none) (hg : Gl X "sorted") (ha : TrA X G W (e :: es) ms) (he : starEach (e :: es) X.env = (false, eval e X.env) :: starEach es X.env := by rfl) (hpl : (backTo pos (starEach es X.env)).any (·.1) = false := by rfl) : TrE X G W (.Call (.Name "sorted" p) (e :: es) [] pos) (eApp fSorted ms) := by
  obtain ⟨r, h1, h2⟩ := cls_sorted (X := X) (G := G) C.hK
  exact tr_callB h1 h2 hm (by rfl) ha hg (by decide) (by decide) he hpl
theorem tr_neg (C : Cok X G W k) {a : Expr} {ma : E} {pos : Pos} (ha : TrE X G W a ma) : TrE X G W (.UnaryOp .USub a pos) (eUn fNeg ma) := by
  refine tr_un un_neg (fun F H σ S T x dx kd Q st rx e k => ?_) ha
  cases rx <;> simp only [fNeg, kz, reduceCtorEq] at e
  cases e
  exact ⟨_, rfl, KE.val k st (.int _)⟩
end
end TB
namespace L2
open PySem PySem.Spec PyProof.Rows
/-- the law called, what flies by the world -/
theorem walk_ofEw {l : PySem.W.OpenLaw} {n k : Nat} {q : Program} {loose : List Str} {XP : (Str → Option Value) → Heap → Prop} {YP : World → Heap → Prop} {d : DefRec} {CX : World → CXT} {x : Str}
    (hn : l.most = some n) (hn2 : n ≤ sizeLine) (hdf : d.params.defaults = []) (hr : Room k callerA)
    (F : ∀ (w : World) (mg : Str → Option Value) (fa : Addr) (h : Heap), YP w h → h.Ns mainGlobals mg → mg d.name = some (.ref fa) →
      ∃ (K : PySem.W.Frag) (fd : FuncData) (sp : Sp), K.In h ∧ (∀ (s : Shared) (u : Value), BindsTo s fd ⟨[u], []⟩ [(x, u)]) ∧
        (∀ (H : Hp) (a : Addr) (ns : List Int), ns.length ≤ n → SqL K H a (ns.map V.int) → sp [.ref a] H (fun v _ => v = .bl true) fun _ _ _ => False) ∧
        ∀ base : Heap, K.In base → base.Ns mainGlobals mg → FnOk l.prog w K mg base (CX w) k fa fd [x] sp)
    (hCX : ∀ (w : World) (H : Hp) (s : Shared) (e : Value) (s' : Shared), CX w [] H s (fun _ _ _ => False) e s' → False) :
    PySem.W.WalkO q loose XP YP l.row.toRowW d [] (fun f vs => PySem.call f vs) := by
  refine Att.attach_call hn hdf fun w s₀ s₁ mg mb fa o pm cd doc a vs ns G Y ho hd hcd hmg hobj hints hlen hg => ?_
  obtain ⟨K, fd, sp, KX, hb, hsp, hF⟩ := F w mg fa _ Y G.T.g hmg
  exact law_call KX G.T.g G.T.b G.T.builtins G.T.nolimit hg hobj hints (Nat.le_trans hlen hn2) hr hF hb (fun H hO hS => hsp H a ns hlen hS) fun H e s' => hCX w H s₁ e s'
end L2
namespace TB
open PySem PyProof.Rows L2
mutual
theorem alk_py : ∀ x y : D, D.alk x y = true → PySem.W.alike (toPy x) (toPy y) = true := by
  intro x y h
  cases x <;> cases y <;> first | (simp [D.alk] at h; done) | (simp [toPy, PySem.W.alike]; done) | skip
  rename_i xs ys
  simp only [toPy, PySem.W.alike]
  exact alks_py xs ys (by simpa [D.alk] using h)
theorem alks_py : ∀ xs ys : List D, D.alks xs ys = true → PySem.W.alikeAll (toPys xs) (toPys ys) = true
  | [], ys, _ => by simp [toPys, PySem.W.alikeAll]
  | _ :: _, [], _ => by simp [toPys, PySem.W.alikeAll]
  | x :: xs, y :: ys, h => by
    unfold D.alks at h
    obtain ⟨h1, h2⟩ := Bool.and_eq_true_iff.mp h
    simp only [toPys, PySem.W.alikeAll, alk_py x y h1, alks_py xs ys h2, Bool.and_self]
end
mutual
theorem lt_py : ∀ (n m : Nat) (x y : D), D.alk x y = true → x.lay n = true → y.lay m = true → PySem.W.dataLt (toPy x) (toPy y) = D.lt x y := by
  intro n m x y h h1 h2
  cases x <;> cases y <;> first | (simp [D.alk] at h; done) | skip
  case bl.bl a b => simp only [toPy, PySem.W.dataLt_bool, D.lt]; cases a <;> cases b <;> rfl
  case int.int => simp only [toPy, PySem.W.dataLt_int, D.lt]
  case str.str => simp only [toPy, PySem.W.dataLt_str, D.lt]
  case tup.tup xs ys =>
    simp only [toPy, PySem.W.dataLt_tuple, D.lt]
    cases n with
    | zero => simp [D.lay] at h1
    | succ n =>
      cases m with
      | zero => simp [D.lay] at h2
      | succ m => exact lts_py n m xs ys (by simpa [D.alk] using h) (by simpa [D.lay] using h1) (by simpa [D.lay] using h2)
theorem lts_py : ∀ (n m : Nat) (xs ys : List D), D.alks xs ys = true → D.lays n xs = true → D.lays m ys = true → PyProof.Rows.lexLt itemOrd (PySem.W.keyToksAll (toPys xs)) (PySem.W.keyToksAll (toPys ys)) = D.lts xs ys
  | _, _, [], [], _, _, _ => by simp only [toPys, PySem.W.keyToksAll, D.lts]; decide
  | _, _, [], y :: ys, _, _, _ => by
    simp only [toPys, PySem.W.keyToksAll, D.lts]
    exact (PyProof.Rows.lex_diff (O := itemOrd) (by decide)).trans (by decide)
  | _, _, x :: xs, [], _, _, _ => by
    simp only [toPys, PySem.W.keyToksAll, D.lts]
    exact (PyProof.Rows.lex_diff (O := itemOrd) (by decide)).trans (by decide)
  | n, m, x :: xs, y :: ys, h, hx, hy => by
    unfold D.alks at h
    unfold D.lays at hx hy
    obtain ⟨h1, h2⟩ := Bool.and_eq_true_iff.mp h
    obtain ⟨a1, a2⟩ := Bool.and_eq_true_iff.mp hx
    obtain ⟨b1, b2⟩ := Bool.and_eq_true_iff.mp hy
    simp only [toPys, D.lts]
    rw [PySem.W.dataLt_cons (alk_py x y h1), eqv_py n m x y a1 b1, lts_py n m xs ys h2 a2 b2, lt_py n m x y h1 a1 b1]
end
theorem lays_mem : ∀ {n : Nat} {ds : List D}, D.lays n ds = true → ∀ d ∈ ds, d.lay n = true
  | n, d :: ds, h, e, he => by
    unfold D.lays at h
    obtain ⟨a, b⟩ := Bool.and_eq_true_iff.mp h
    rcases List.mem_cons.mp he with rfl | he
    · exact a
    · exact lays_mem b e he
section
end
section
end
end TB
namespace TB
open PySem PyProof.Rows L2
theorem dp_reads_each {X : Cx} {pins : List (Addr × Obj)} {σ : L2.St} {H : Hp} {s : Shared} (I : Inv X pins σ H s) : ∀ {bs : List (V × PyData)} {us : List Value}, Vals (bs.map (·.1)) us → (∀ b ∈ bs, Dp X.K H b.1 b.2) →
    PySem.W.EachIs (fun u (b : V × PyData) => RelV b.1 u) us bs ∧ PySem.W.EachIs (fun u (b : V × PyData) => ∃ as, Reads s.heap u b.2 as) us bs
  | [], us, r, _ => by
    cases r; exact ⟨.nil, .nil⟩
  | b :: bs, us, r, h => by
    have r : Vals (b.1 :: bs.map (·.1)) us := r
    cases r with
    | cons r1 r2 =>
      obtain ⟨x, y⟩ := dp_reads_each I r2 fun c hc => h c (List.mem_cons_of_mem _ hc)
      exact ⟨.cons r1 x, .cons (Dp.reads I _ _ _ (h b List.mem_cons_self) r1) y⟩
theorem vals_each : ∀ {bs : List (V × PyData)} {us : List Value}, PySem.W.EachIs (fun u (b : V × PyData) => RelV b.1 u) us bs → Vals (bs.map (·.1)) us
  | _, _, .nil => .nil
  | _, _, .cons a r => .cons a (vals_each r)
/-- sorted(xs), xs a list of data of one form, of any length -/
def rSortedD (K : PySem.W.Frag) : List V → Hp → VK → Prop := fun vs H Q => ∃ (a : Addr) (bs : List (V × PyData)), vs = [V.ref a] ∧ SqL K H a (bs.map (·.1)) ∧ (∀ b ∈ bs, Dp K H b.1 b.2) ∧ PySem.W.AllAlike (bs.map (·.2)) ∧ PySem.W.Sortable (bs.map (·.2)) ∧ (∀ b ∈ bs, b.2.depth ≤ 60) ∧
  ∀ p, H p = none → Q (.ref p) (upd H p (.lst ((bs.mergeSort (PySem.W.dataLe false (·.2))).map (·.1))))
theorem cr_sortedD {X : Cx} (hu : X.A.units + 64 < cLine) : CallR X (.builtin "sorted") (rSortedD X.K) := by
  intro pins s σ H vs us Q I r ⟨a, bs, e, hs, hd, ha, hk, hz, q⟩
  subst e
  obtain ⟨its, rv, hl, hzl⟩ := I.list hs
  obtain ⟨u, rfl, ru⟩ := vals1 r
  obtain rfl : u = Value.ref a := ru
  obtain ⟨e1, e2⟩ := dp_reads_each I rv hd
  have hlen : bs.length ≤ sizeLine := by simpa using hzl
  refine PySem.W.sorted_data (enc := fun b : V × PyData => b.2) hl.isList e1 e2 ha hk hlen (fun b hb => by have := hz b hb; omega) fun out ho he => ?_
  obtain ⟨n, hn⟩ := sortedAll_at s.heap its (List.toArray out)
  refine ⟨.ref (s.heap.objs.size + 1), _, I.laid (t' := s.toks) (o := .lst ((bs.mergeSort (PySem.W.dataLe false (·.2))).map (·.1))) (fun b o e => sortedAll_old e) (Nat.le_succ _) ⟨?_, out, n, vals_each he, hn⟩, rfl, q _ (I.hok.fresh (Nat.le_succ _))⟩
  rw [List.length_map, List.length_mergeSort]
  exact hlen
section
variable {X : Cx} {G : Cfgx} {W : WX} {k : Nat} {F H : Hp} {σ : L2.St} {S : List Slot} {T : Cnt}
theorem reps_zip {F : Hp} : ∀ {zs : List (V × D)}, (∀ p ∈ zs, Rep G F p.1 p.2) → Reps G F (zs.map (·.1)) (zs.map (·.2))
  | [], _ => .nil
  | p :: zs, h => .cons (h p List.mem_cons_self) (reps_zip fun q hq => h q (List.mem_cons_of_mem _ hq))
theorem zip_reps {F : Hp} : ∀ {vs : List V} {ds : List D}, Reps G F vs ds → ∀ p ∈ vs.zip ds, Rep G F p.1 p.2
  | _, _, .nil, p, h => by simp at h
  | _, _, .cons a r, p, h => by
    rw [List.zip_cons_cons] at h
    rcases List.mem_cons.mp h with rfl | h
    · exact a
    · exact zip_reps r p h
theorem zip_fst {α β : Type} : ∀ {as : List α} {bs : List β}, as.length = bs.length → (as.zip bs).map (·.1) = as
  | [], [], _ => rfl
  | a :: as, b :: bs, h => by simp [zip_fst (as := as) (bs := bs) (by simpa using h)]
theorem zip_snd {α β : Type} : ∀ {as : List α} {bs : List β}, as.length = bs.length → (as.zip bs).map (·.2) = bs
  | [], [], _ => rfl
  | a :: as, b :: bs, h => by simp [zip_snd (as := as) (bs := bs) (by simpa using h)]
theorem mem_zip_snd {α β : Type} {as : List α} {bs : List β} {p : α × β} (h : p ∈ as.zip bs) : p.2 ∈ bs := (List.of_mem_zip h).2
/-- the core: data vs of one form sorted by le -/
theorem sorted_core (hK : X.K = G.K) {a : Addr} {xs : List V} {ds : List D} {Q : VK} (le : D → D → Bool) (st : St' G F H σ S T) (hl : F a = some (.lst xs)) (rs : Reps G F xs ds) (hy : D.lays 60 ds = true) (ha : ∀ x ∈ ds, ∀ y ∈ ds, D.alk x y = true) (hk : PySem.W.Sortable (ds.map toPy))
    (he : ∀ x ∈ ds, ∀ y ∈ ds, PySem.W.dataLt (toPy y) (toPy x) = !le x y) (k : KE G F H σ T Q (.li .fz, .lst (ds.mergeSort le)) S) : rSortedD X.K [.ref a] H Q := by
  have hlen : xs.length = ds.length := rs.len
  have e1 : ((xs.zip ds).map fun p => (p.1, toPy p.2)).map (·.1) = xs := by
    rw [List.map_map]; exact zip_fst hlen
  have e2 : ((xs.zip ds).map fun p => (p.1, toPy p.2)).map (·.2) = ds.map toPy := by
    rw [List.map_map]
    have : (xs.zip ds).map ((fun x : V × PyData => x.2) ∘ fun p : V × D => (p.1, toPy p.2)) = ((xs.zip ds).map (·.2)).map toPy := by rw [List.map_map]; rfl
    rw [this, zip_snd hlen]
  have hz := zip_reps (rs.mono st.sub)
  refine ⟨a, (xs.zip ds).map fun p => (p.1, toPy p.2), rfl, ?_, ?_, ?_, ?_, ?_, fun p hp => ?_⟩
  · rw [e1]; exact .inl (.inl (st.sub _ _ hl))
  · intro b hb
    obtain ⟨p, hp, rfl⟩ := List.mem_map.mp hb
    rw [hK]
    exact dp_of 60 p.2 p.1 (lays_mem hy _ (mem_zip_snd hp)) (hz p hp)
  · rw [e2]
    intro d hd d' hd'
    obtain ⟨x, hx, rfl⟩ := List.mem_map.mp hd
    obtain ⟨y, hyy, rfl⟩ := List.mem_map.mp hd'
    exact alk_py x y (ha x hx y hyy)
  · rw [e2]; exact hk
  · intro b hb
    obtain ⟨p, hp, rfl⟩ := List.mem_map.mp hb
    exact (lay_py 60 p.2 (lays_mem hy _ (mem_zip_snd hp))).2
  · have m1 : ((xs.zip ds).mergeSort fun p q => le p.2 q.2).map (fun p => (p.1, toPy p.2)) = ((xs.zip ds).map fun p => (p.1, toPy p.2)).mergeSort (PySem.W.dataLe false (·.2)) := by
      refine List.map_mergeSort fun p hp q hq => ?_
      rw [PySem.W.dataLe_eq]
      show le p.2 q.2 = !PySem.W.dataLt (toPy q.2) (toPy p.2)
      rw [he _ (mem_zip_snd hp) _ (mem_zip_snd hq), Bool.not_not]
    have m2 : ((xs.zip ds).mergeSort fun p q => le p.2 q.2).map (·.2) = ds.mergeSort le := by
      have := List.map_mergeSort (r := fun p q : V × D => le p.2 q.2) (s := le) (f := (·.2)) (l := xs.zip ds) fun p hp q hq => rfl
      rw [this, zip_snd hlen]
    have m3 : (((xs.zip ds).map fun p => (p.1, toPy p.2)).mergeSort (PySem.W.dataLe false (·.2))).map (·.1) = ((xs.zip ds).mergeSort fun p q => le p.2 q.2).map (·.1) := by
      rw [← m1, List.map_map]; rfl
    rw [m3]
    refine KE.newL k st ?_ p hp
    rw [← m2]
    exact reps_zip fun p hp => zip_reps rs p ((List.mergeSort_perm _ _).mem_iff.mp hp)
theorem alkAll_ok {ds : List D} (h : alkAll ds = true) : ∀ x ∈ ds, ∀ y ∈ ds, D.alk x y = true := fun x hx y hy => List.all_eq_true.mp (List.all_eq_true.mp h x hx) y hy
theorem toPys_map : ∀ ds : List D, toPys ds = ds.map toPy
  | [] => rfl
  | d :: ds => by simp [toPys, toPys_map ds]
theorem SN_or1 {r r' : List V → Hp → VK → Prop} {f g : List D → Option KD} (h : SN G r f) (h' : SN G r' g) : SN G (fun x H Q => r x H Q ∨ r' x H Q) (fOr1 f g) := fun F H σ S T xs ds kd Q st rs e k => by
  unfold fOr1 at e
  cases e1 : f ds with
  | some a => rw [e1] at e; cases e; exact .inl (h F H σ S T xs ds _ Q st rs e1 k)
  | none => rw [e1] at e; exact .inr (h' F H σ S T xs ds _ Q st rs e k)
theorem sn_sortedT (hK : X.K = G.K) : SN G (rSortedD X.K) fSortedT := fun F H σ S T xs ds kd Q st rs e k => by
  rcases rs with _ | ⟨r1, _ | ⟨r2, r3⟩⟩
  · simp [fSortedT] at e
  · cases r1 <;> simp only [fSortedT, reduceCtorEq] at e
    rename_i a ys as hl ra
    cases e2 : strsOf as with
    | some ss =>
      rw [e2] at e
      have e : (if ss.length ≤ sizeMax then some ((.li .fz, .lst ((sortT ss).map D.str)) : KD) else none) = some kd := e
      split at e
      · rename_i hz
        cases e
        obtain ⟨zs, ex, ez⟩ := strs_of ra e2
        subst ex ez
        refine ⟨a, zs.map fun z => (V.str z, PyData.str z), rfl, ?_, ?_, ?_, ?_, ?_, fun p hp => ?_⟩
        · rw [List.map_map]; exact .inl (.inl (st.sub _ _ hl))
        · intro b hb
          obtain ⟨z, _, rfl⟩ := List.mem_map.mp hb
          exact .str z
        · rw [List.map_map]; exact PySem.W.AllAlike.of fun _ _ => by simp [PySem.W.alike]
        · rw [List.map_map]; exact PySem.W.Sortable.others fun z => ⟨by simp, by simp⟩
        · intro b hb
          obtain ⟨z, _, rfl⟩ := List.mem_map.mp hb
          exact Nat.zero_le _
        · have m1 : (zs.mergeSort fun z w => !decide (w.cps.toList < z.cps.toList)).map (fun z => (V.str z, PyData.str z)) = (zs.map fun z => (V.str z, PyData.str z)).mergeSort (PySem.W.dataLe false (·.2)) := by
            refine List.map_mergeSort fun z _ w _ => ?_
            rw [PySem.W.dataLe_eq]
            show _ = !PySem.W.dataLt (.str w) (.str z)
            rw [PySem.W.dataLt_str]
          have m2 : ((zs.mergeSort fun z w => !decide (w.cps.toList < z.cps.toList)).map fun z => z.cps.toList) = sortT (zs.map fun z => z.cps.toList) := by
            unfold sortT
            exact List.map_mergeSort fun z _ w _ => rfl
          rw [← m1, List.map_map]
          rw [← m2] at k
          exact KE.newL k st (reps_strs _) p hp
      · cases e
    | none => rw [e2] at e; cases e
  · cases r1 <;> simp [fSortedT] at e
theorem sn_sortD (hK : X.K = G.K) : SN G (rSortedD X.K) fSortD := fun F H σ S T xs ds kd Q st rs e k => by
  rcases rs with _ | ⟨r1, _ | ⟨r2, r3⟩⟩
  · simp [fSortD] at e
  · cases r1 <;> simp only [fSortD, reduceCtorEq] at e
    rename_i a ys as hl ra
    split at e
    · rename_i hz
      obtain ⟨hz, hn⟩ := hz
      cases e
      unfold sortOk at hz
      obtain ⟨hz, h3⟩ := Bool.and_eq_true_iff.mp hz
      obtain ⟨h1, h2⟩ := Bool.and_eq_true_iff.mp hz
      refine sorted_core hK leD st hl ra h3 (alkAll_ok h2) (.inl fun d hd => ?_) (fun x hx y hy => ?_) k
      · obtain ⟨x, hx, rfl⟩ := List.mem_map.mp hd
        have := List.all_eq_true.mp h1 x hx
        cases x with
        | tup xs =>
          cases xs with
          | nil => simp [D.isTup1] at this
          | cons x xs => exact ⟨toPy x, toPys xs, by simp only [toPy, toPys]⟩
        | _ => simp [D.isTup1] at this
      · unfold leD
        rw [Bool.not_not]
        exact lt_py 60 60 y x (alkAll_ok h2 y hy x hx) (lays_mem h3 y hy) (lays_mem h3 x hx)
    · cases e
  · cases r1 <;> simp [fSortD] at e
theorem cls_sortedA (hK : X.K = G.K) (hr : Room k X.A) : ∃ r, CallR X (.builtin "sorted") r ∧ SN G r fSortedA := by
  obtain ⟨r, h1, h2⟩ := cls_sorted (X := X) (G := G) hK
  exact ⟨_, h1.or ((cr_sortedD hr.units).or (cr_sortedD hr.units)), SN_or1 h2 (SN_or1 (sn_sortedT hK) (sn_sortD hK))⟩
end
end TB
namespace TB
open PySem PyProof.Rows L2
mutual
theorem py_inj : ∀ (n m : Nat) (x y : D), x.lay n = true → y.lay m = true → toPy x = toPy y → x = y := by
  intro n m x y hx hy e
  cases x <;> cases y <;> first | (simp [D.lay] at hx; done) | (simp [D.lay] at hy; done) | (simp [toPy] at e; done) | rfl | skip
  case bl.bl => simp [toPy] at e; rw [e]
  case int.int => simp [toPy] at e; rw [e]
  case str.str => simp [toPy] at e; rw [e]
  case lst.lst xs ys =>
    cases n with
    | zero => simp [D.lay] at hx
    | succ n =>
      cases m with
      | zero => simp [D.lay] at hy
      | succ m => rw [pys_inj n m xs ys (by simpa [D.lay] using hx) (by simpa [D.lay] using hy) (by simpa [toPy] using e)]
  case tup.tup xs ys =>
    cases n with
    | zero => simp [D.lay] at hx
    | succ n =>
      cases m with
      | zero => simp [D.lay] at hy
      | succ m => rw [pys_inj n m xs ys (by simpa [D.lay] using hx) (by simpa [D.lay] using hy) (by simpa [toPy] using e)]
theorem pys_inj : ∀ (n m : Nat) (xs ys : List D), D.lays n xs = true → D.lays m ys = true → toPys xs = toPys ys → xs = ys
  | _, _, [], [], _, _, _ => rfl
  | _, _, [], _ :: _, _, _, e => by simp [toPys] at e
  | _, _, _ :: _, [], _, _, e => by simp [toPys] at e
  | n, m, x :: xs, y :: ys, hx, hy, e => by
    unfold D.lays at hx hy
    obtain ⟨h1, h2⟩ := Bool.and_eq_true_iff.mp hx
    obtain ⟨h3, h4⟩ := Bool.and_eq_true_iff.mp hy
    have e : toPy x = toPy y ∧ toPys xs = toPys ys := by simpa [toPys] using e
    rw [py_inj n m x y h1 h3 e.1, pys_inj n m xs ys h2 h4 e.2]
end
theorem fold_mem {α : Type} (f : α → α → Bool) : ∀ (xs : List α) (x : α), xs.foldl (fun a y => if f y a = true then y else a) x ∈ x :: xs
  | [], x => by simp
  | y :: ys, x => by
    simp only [List.foldl_cons]
    have := fold_mem f ys (if f y x = true then y else x)
    rcases List.mem_cons.mp this with h | h
    · rw [h]; split <;> simp
    · exact List.mem_cons_of_mem _ (List.mem_cons_of_mem _ h)
theorem min_py : ∀ (ds : List D) (d : D), (∀ x ∈ d :: ds, ∀ y ∈ d :: ds, D.alk x y = true) → (∀ x ∈ d :: ds, x.lay 60 = true) → PySem.W.minD (toPy d) (ds.map toPy) = toPy (minD d ds)
  | [], d, _, _ => rfl
  | e :: ds, d, h, hl => by
    have e1 : PySem.W.dataLt (toPy e) (toPy d) = D.lt e d := lt_py 60 60 e d (h e (by simp) d (by simp)) (hl e (by simp)) (hl d (by simp))
    have := min_py ds (if D.lt e d = true then e else d) (fun x hx y hy => h x (by
        rcases List.mem_cons.mp hx with q | q
        · rw [q]; split <;> simp
        · simp [q]) y (by
        rcases List.mem_cons.mp hy with q | q
        · rw [q]; split <;> simp
        · simp [q])) (fun x hx => hl x (by
        rcases List.mem_cons.mp hx with q | q
        · rw [q]; split <;> simp
        · simp [q]))
    unfold PySem.W.minD minD at this ⊢
    simp only [List.map_cons, List.foldl_cons]
    rw [← this, e1]
    congr 1
    split <;> rfl
theorem max_py : ∀ (ds : List D) (d : D), (∀ x ∈ d :: ds, ∀ y ∈ d :: ds, D.alk x y = true) → (∀ x ∈ d :: ds, x.lay 60 = true) → PySem.W.maxD (toPy d) (ds.map toPy) = toPy (maxD d ds)
  | [], d, _, _ => rfl
  | e :: ds, d, h, hl => by
    have e1 : PySem.W.dataLt (toPy d) (toPy e) = D.lt d e := lt_py 60 60 d e (h d (by simp) e (by simp)) (hl d (by simp)) (hl e (by simp))
    have := max_py ds (if D.lt d e = true then e else d) (fun x hx y hy => h x (by
        rcases List.mem_cons.mp hx with q | q
        · rw [q]; split <;> simp
        · simp [q]) y (by
        rcases List.mem_cons.mp hy with q | q
        · rw [q]; split <;> simp
        · simp [q])) (fun x hx => hl x (by
        rcases List.mem_cons.mp hx with q | q
        · rw [q]; split <;> simp
        · simp [q]))
    unfold PySem.W.maxD maxD at this ⊢
    simp only [List.map_cons, List.foldl_cons]
    rw [← this, e1]
    congr 1
    split <;> rfl
theorem depthAll_le : ∀ {n : Nat} {ds : List D}, D.lays n ds = true → PyData.depthAll (ds.map toPy) ≤ n := fun {n ds} h => by
  rw [← toPys_map]; exact (lays_py n ds h).2
def rBestD (best : PyData → List PyData → PyData) (K : PySem.W.Frag) : List V → Hp → VK → Prop := fun vs H Q => ∃ (a : Addr) (xs : List V) (d : PyData) (ds : List PyData), vs = [V.ref a] ∧ SqL K H a xs ∧ DpAll K H xs (d :: ds) ∧ PySem.W.AlikeAll (d :: ds) ∧ PyData.depthAll (d :: ds) ≤ 60 ∧
  ∀ (i : Nat) (v : V), xs[i]? = some v → (d :: ds)[i]? = some (best d ds) → Q v H
theorem dps_reads {X : Cx} {pins : List (Addr × Obj)} {σ : L2.St} {H : Hp} {s : Shared} (I : Inv X pins σ H s) : ∀ {xs : List V} {ds : List PyData} {us : List Value}, Vals xs us → DpAll X.K H xs ds → ∃ as, ReadsAll s.heap us ds as
  | _, _, _, .nil, .nil => ⟨_, .nil⟩
  | _, _, _, .cons r1 r2, .cons d1 d2 => by
    obtain ⟨as, a⟩ := Dp.reads I _ _ _ d1 r1
    obtain ⟨bs, b⟩ := dps_reads I r2 d2
    exact ⟨_, .cons a b⟩
theorem alike_one {h : Heap} {ds : List PyData} {u : Value} {d e : PyData} {as bs : List Addr} (al : PySem.W.alike d e = true) (r1 : Reads h u d as) (r2 : Reads h u e bs) : d = e := PySem.W.alike_unique d e u as bs al r1 r2
theorem vals_back : ∀ {xs : List V} {us : List Value} {i : Nat} {u : Value}, Vals xs us → us[i]? = some u → ∃ x, xs[i]? = some x ∧ RelV x u
  | _, _, i, u, .nil, h => by simp at h
  | _, _, 0, u, .cons a r, h => by simp at h; subst h; exact ⟨_, rfl, a⟩
  | _, _, i + 1, u, .cons a r, h => vals_back (i := i) r (by simpa using h)
theorem cr_minD {X : Cx} (hh : X.A.handled = none) (hu : X.A.units + 64 < cLine) : CallR X (.builtin "min") (rBestD PySem.W.minD X.K) := by
  intro pins s σ H vs us Q I r ⟨a, xs, d, ds, e, hs, hd, ha, hz, q⟩
  subst e
  obtain ⟨its, rv, hl, hzl⟩ := I.list hs
  obtain ⟨u, rfl, ru⟩ := vals1 r
  obtain rfl : u = Value.ref a := ru
  obtain ⟨as, ra⟩ := dps_reads I rv hd
  refine PySem.W.min_list_data hh hl.isList (by simpa using ra) ha (by omega) fun i v h' tk bs hv rd kp => ?_
  have hv : its[i]? = some v := by simpa using hv
  obtain ⟨x, hx, rx⟩ := vals_back rv hv
  refine ⟨x, H, I.kept (t' := tk) kp, rx, q i x hx ?_⟩
  obtain ⟨cs, rc, hi, hm, _⟩ := PySem.W.readsAll_at ra i v hv
  have hg : (d :: ds).getD i .none = PySem.W.minD d ds := by
    refine alike_one (ds := d :: ds) (ha.1 _ hm _ ?_) (Reads.keeps kp rc) rd
    unfold PySem.W.minD
    exact fold_mem PySem.W.dataLt ds d
  rw [← hg, List.getD_eq_getElem?_getD, List.getElem?_eq_getElem hi]; rfl
theorem cr_maxD {X : Cx} (hh : X.A.handled = none) (hu : X.A.units + 64 < cLine) : CallR X (.builtin "max") (rBestD PySem.W.maxD X.K) := by
  intro pins s σ H vs us Q I r ⟨a, xs, d, ds, e, hs, hd, ha, hz, q⟩
  subst e
  obtain ⟨its, rv, hl, hzl⟩ := I.list hs
  obtain ⟨u, rfl, ru⟩ := vals1 r
  obtain rfl : u = Value.ref a := ru
  obtain ⟨as, ra⟩ := dps_reads I rv hd
  refine PySem.W.max_list_data hh hl.isList (by simpa using ra) ha (by omega) fun i v h' tk bs hv rd kp => ?_
  have hv : its[i]? = some v := by simpa using hv
  obtain ⟨x, hx, rx⟩ := vals_back rv hv
  refine ⟨x, H, I.kept (t' := tk) kp, rx, q i x hx ?_⟩
  obtain ⟨cs, rc, hi, hm, _⟩ := PySem.W.readsAll_at ra i v hv
  have hg : (d :: ds).getD i .none = PySem.W.maxD d ds := by
    refine alike_one (ds := d :: ds) (ha.1 _ hm _ ?_) (Reads.keeps kp rc) rd
    unfold PySem.W.maxD
    exact fold_mem (fun x y => PySem.W.dataLt y x) ds d
  rw [← hg, List.getD_eq_getElem?_getD, List.getElem?_eq_getElem hi]; rfl
section
variable {X : Cx} {G : Cfgx} {W : WX} {k : Nat} {F H : Hp} {σ : L2.St} {S : List Slot} {T : Cnt}
theorem best_core (hK : X.K = G.K) {a : Addr} {xs : List V} {d : D} {ds : List D} {Q : VK} {best : PyData → List PyData → PyData} {b : D} (st : St' G F H σ S T) (hl : F a = some (.lst xs)) (rs : Reps G F xs (d :: ds)) (hy : D.lays 60 (d :: ds) = true) (ha : alkAll (d :: ds) = true)
    (hb : best (toPy d) (ds.map toPy) = toPy b) (hm : b ∈ d :: ds) (k : KE G F H σ T Q (.fz, b) S) : rBestD best X.K [.ref a] H Q := by
  have al := alkAll_ok ha
  have ly := lays_mem hy
  refine ⟨a, xs, toPy d, ds.map toPy, rfl, .inl (.inl (st.sub _ _ hl)), ?_, ⟨?_, ?_⟩, ?_, fun i v hv e => ?_⟩
  · rw [hK]
    have := dps_of 60 (d :: ds) xs hy (rs.mono st.sub)
    rwa [toPys_map] at this
  · intro x hx y hyy
    have hx : x ∈ (d :: ds).map toPy := hx
    have hyy : y ∈ (d :: ds).map toPy := hyy
    obtain ⟨x', h1, rfl⟩ := List.mem_map.mp hx
    obtain ⟨y', h2, rfl⟩ := List.mem_map.mp hyy
    exact alk_py _ _ (al _ h1 _ h2)
  · intro x hx
    have hx : x ∈ (d :: ds).map toPy := hx
    obtain ⟨x', h1, rfl⟩ := List.mem_map.mp hx
    have := al _ h1 _ h1
    cases x' <;> simp [D.alk, toPy] at this ⊢
  · exact depthAll_le hy
  · have e : ((d :: ds).map toPy)[i]? = some (best (toPy d) (ds.map toPy)) := e
    rw [List.getElem?_map, hb] at e
    cases e2 : (d :: ds)[i]? with
    | none => rw [e2] at e; cases e
    | some c =>
      rw [e2] at e
      have e : toPy c = toPy b := by simpa using e
      have : c = b := py_inj 60 60 c b (ly c (List.mem_of_getElem? e2)) (ly b hm) e
      subst this
      obtain ⟨w, hw, rw'⟩ := rs.get e2
      rw [hv] at hw; cases hw
      exact KE.val k st rw'
theorem cls_minL (hK : X.K = G.K) (hr : Room k X.A) (hc : X.calm = true) : ∃ r, CallR X (.builtin "min") r ∧ SN G r (fOr1 fMin2 fMinL) := by
  obtain ⟨r, h1, h2⟩ := cls_min2 (X := X) (G := G) hc
  refine ⟨_, h1.or (cr_minD hr.hd hr.units), SN_or1 h2 fun F H σ S T xs ds kd Q st rs e k => ?_⟩
  rcases rs with _ | ⟨r1, _ | ⟨r2, r3⟩⟩
  · simp [fMinL] at e
  · cases r1 <;> simp only [fMinL, reduceCtorEq] at e
    rename_i a ys as hl ra
    cases as with
    | nil => simp [fMinL] at e
    | cons d as =>
      simp only [fMinL] at e
      split at e
      · rename_i hz
        cases e
        exact best_core hK st hl ra hz.2.1 hz.1 (min_py as d (alkAll_ok hz.1) (lays_mem hz.2.1)) (by unfold minD; exact fold_mem D.lt as d) k
      · cases e
  · cases r1 <;> simp [fMinL] at e
theorem cls_maxL (hK : X.K = G.K) (hr : Room k X.A) (hc : X.calm = true) : ∃ r, CallR X (.builtin "max") r ∧ SN G r (fOr1 fMax2 fMaxL) := by
  obtain ⟨r, h1, h2⟩ := cls_max2 (X := X) (G := G) hc
  refine ⟨_, h1.or (cr_maxD hr.hd hr.units), SN_or1 h2 fun F H σ S T xs ds kd Q st rs e k => ?_⟩
  rcases rs with _ | ⟨r1, _ | ⟨r2, r3⟩⟩
  · simp [fMaxL] at e
  · cases r1 <;> simp only [fMaxL, reduceCtorEq] at e
    rename_i a ys as hl ra
    cases as with
    | nil => simp [fMaxL] at e
    | cons d as =>
      simp only [fMaxL] at e
      split at e
      · rename_i hz
        cases e
        exact best_core hK st hl ra hz.2.1 hz.1 (max_py as d (alkAll_ok hz.1) (lays_mem hz.2.1)) (by unfold maxD; exact fold_mem (fun x y => D.lt y x) as d) k
      · cases e
  · cases r1 <;> simp [fMaxL] at e
end
end TB
namespace TB
open PySem L2
mutual
theorem Kd.eq_of_beq : ∀ {a b : Kd}, Kd.beq a b = true → a = b
  | .fz, .fz, _ => rfl
  | .dN, .dN, _ => rfl
  | .li a, .li b, h => by simp only [Kd.beq] at h; rw [Kd.eq_of_beq h]
  | .dK a, .dK b, h => by simp only [Kd.beq] at h; rw [Kd.eq_of_beq h]
  | .dT a, .dT b, h => by simp only [Kd.beq] at h; rw [Kd.eq_of_beq h]
  | .dR a, .dR b, h => by simp only [Kd.beq] at h; rw [Kd.eqs_of_beq h]
  | .ob a, .ob b, h => by simp only [Kd.beq] at h; rw [Kd.eqs_of_beq h]
  | .fz, .li _, h => by simp [Kd.beq] at h
  | .fz, .dK _, h => by simp [Kd.beq] at h
  | .fz, .dT _, h => by simp [Kd.beq] at h
  | .fz, .dR _, h => by simp [Kd.beq] at h
  | .fz, .dN, h => by simp [Kd.beq] at h
  | .fz, .ob _, h => by simp [Kd.beq] at h
  | .li _, .fz, h => by simp [Kd.beq] at h
  | .li _, .dK _, h => by simp [Kd.beq] at h
  | .li _, .dT _, h => by simp [Kd.beq] at h
  | .li _, .dR _, h => by simp [Kd.beq] at h
  | .li _, .dN, h => by simp [Kd.beq] at h
  | .li _, .ob _, h => by simp [Kd.beq] at h
  | .dK _, .fz, h => by simp [Kd.beq] at h
  | .dK _, .li _, h => by simp [Kd.beq] at h
  | .dK _, .dT _, h => by simp [Kd.beq] at h
  | .dK _, .dR _, h => by simp [Kd.beq] at h
  | .dK _, .dN, h => by simp [Kd.beq] at h
  | .dK _, .ob _, h => by simp [Kd.beq] at h
  | .dT _, .fz, h => by simp [Kd.beq] at h
  | .dT _, .li _, h => by simp [Kd.beq] at h
  | .dT _, .dK _, h => by simp [Kd.beq] at h
  | .dT _, .dR _, h => by simp [Kd.beq] at h
  | .dT _, .dN, h => by simp [Kd.beq] at h
  | .dT _, .ob _, h => by simp [Kd.beq] at h
  | .dR _, .fz, h => by simp [Kd.beq] at h
  | .dR _, .li _, h => by simp [Kd.beq] at h
  | .dR _, .dK _, h => by simp [Kd.beq] at h
  | .dR _, .dT _, h => by simp [Kd.beq] at h
  | .dR _, .dN, h => by simp [Kd.beq] at h
  | .dR _, .ob _, h => by simp [Kd.beq] at h
  | .dN, .fz, h => by simp [Kd.beq] at h
  | .dN, .li _, h => by simp [Kd.beq] at h
  | .dN, .dK _, h => by simp [Kd.beq] at h
  | .dN, .dT _, h => by simp [Kd.beq] at h
  | .dN, .dR _, h => by simp [Kd.beq] at h
  | .dN, .ob _, h => by simp [Kd.beq] at h
  | .ob _, .fz, h => by simp [Kd.beq] at h
  | .ob _, .li _, h => by simp [Kd.beq] at h
  | .ob _, .dK _, h => by simp [Kd.beq] at h
  | .ob _, .dT _, h => by simp [Kd.beq] at h
  | .ob _, .dR _, h => by simp [Kd.beq] at h
  | .ob _, .dN, h => by simp [Kd.beq] at h
theorem Kd.eqs_of_beq : ∀ {a b : List Kd}, Kd.beqs a b = true → a = b
  | [], [], _ => rfl
  | a :: as, b :: bs, h => by
    simp only [Kd.beqs, Bool.and_eq_true] at h
    rw [Kd.eq_of_beq h.1, Kd.eqs_of_beq h.2]
  | [], _ :: _, h => by simp [Kd.beqs] at h
  | _ :: _, [], h => by simp [Kd.beqs] at h
end
/-- the way through what is owned -/
inductive Nav (G : Cfg) (H : Hp) : V → List PV → V → Prop
  | nil (v : V) : Nav G H v [] v
  | fld {a dx : Addr} {c n : Nat} {fs : List (PySem.Str × V)} {w v : V} {p : List PV} : H a = some (.ins (G.ca c) dx fs) → fs.map (·.1) = (G.cn c).take fs.length → (fs.map (·.2))[n]? = some w → Nav G H w p v → Nav G H (.ref a) (.fld c n :: p) v
  | key {a : Addr} {kvs : List (Key × V)} {kk : Key} {w v : V} {p : List PV} : H a = some (.dK kvs) → valV kvs kk = some w → Nav G H w p v → Nav G H (.ref a) (.key (keyD kk) :: p) v
  | ix {a : Addr} {xs : List V} {i : Int} {n : Nat} {w v : V} {p : List PV} : H a = some (.lst xs) → normIx xs.length i = some n → xs[n]? = some w → Nav G H w p v → Nav G H (.ref a) (.ix i :: p) v
theorem keyD_inj {a b : Key} (h : keyD a = keyD b) : a = b := by
  have : D.eqv (keyD a) (keyD b) = true := by rw [h, key_eqv]; simp
  rw [key_eqv] at this
  exact of_decide_eq_true this
theorem Nav.uniq {G : Cfg} {H : Hp} : ∀ {p : List PV} {v a b : V}, Nav G H v p a → Nav G H v p b → a = b
  | _, _, _, _, .nil _, .nil _ => rfl
  | _, _, _, _, .fld h1 _ h2 r, .fld g1 _ g2 r' => by
    obtain ⟨_, _, rfl⟩ := HO.ins.inj (Option.some.inj (h1.symm.trans g1))
    rw [h2] at g2; cases g2
    exact r.uniq r'
  | _, _, _, _, .key (kk := kk) h1 h2 r, n2 => by
    generalize hk : keyD kk = x at n2
    cases n2 with
    | @key _ _ kk' _ _ _ g1 g2 r' =>
      have := keyD_inj hk
      subst this
      rw [h1] at g1; cases g1
      rw [h2] at g2; cases g2
      exact r.uniq r'
  | _, _, _, _, .ix h1 h0 h2 r, .ix g1 g0 g2 r' => by
    rw [h1] at g1; cases g1
    rw [h0] at g0; cases g0
    rw [h2] at g2; cases g2
    exact r.uniq r'
section
variable {G : Cfg} {F H : Hp}
theorem OwnL.at : ∀ {ks : List Kd} {vs : List V} {ds : List D} {g : Cnt} {n : Nat} {k : Kd} {d : D}, OwnL G F H ks vs ds g → ks[n]? = some k → ds[n]? = some d → ∃ v f g0, (∀ a, g a = f a + g0 a) ∧ vs[n]? = some v ∧ Own G F H k v d f ∧
    ∀ F1 H1 k1 d1 f1, Same F F1 → (∀ a o, g0 a ≠ 0 → H a = some o → H1 a = some o) → Own G F1 H1 k1 v d1 f1 → OwnL G F1 H1 (ks.set n k1) vs (ds.set n d1) (add f1 g0)
  | _, _, _, _, n, _, _, .nil, e, _ => by simp at e
  | _, _, _, _, 0, k, d, .cons (f := f) (g := g) h r, e1, e2 => by
    cases (show some _ = some k from e1)
    cases (show some _ = some d from e2)
    exact ⟨_, f, g, fun a => rfl, rfl, h, fun F1 H1 k1 d1 f1 sf m o => .cons o (r.mono sf m)⟩
  | _, _, _, _, n + 1, k, d, .cons (f := f) (g := g) h r, e1, e2 => by
    obtain ⟨v, f2, g0, hg, hv, ho, back⟩ := OwnL.at (n := n) r e1 e2
    refine ⟨v, f2, add f g0, fun a => by simp only [add]; have := hg a; omega, hv, ho, fun F1 H1 k1 d1 f1 sf m o => ?_⟩
    have q := OwnL.cons (h.mono sf fun a o n => m a o (by simp only [add]; omega)) (back F1 H1 k1 d1 f1 sf (fun a o n => m a o (by simp only [add]; omega)) o)
    have e3 : add f (add f1 g0) = add f1 (add f g0) := by funext a; simp only [add]; omega
    rw [e3] at q
    exact q
theorem Owns.at : ∀ {k : Kd} {vs : List V} {ds : List D} {g : Cnt} {n : Nat} {d : D}, Owns G F H k vs ds g → ds[n]? = some d → ∃ v f g0, (∀ a, g a = f a + g0 a) ∧ vs[n]? = some v ∧ Own G F H k v d f ∧
    ∀ F1 H1 d1 f1, Same F F1 → (∀ a o, g0 a ≠ 0 → H a = some o → H1 a = some o) → Own G F1 H1 k v d1 f1 → Owns G F1 H1 k vs (ds.set n d1) (add f1 g0)
  | _, _, _, _, n, _, .nil, e => by simp at e
  | _, _, _, _, 0, d, .cons (f := f) (g := g) h r, e2 => by
    cases (show some _ = some d from e2)
    exact ⟨_, f, g, fun a => rfl, rfl, h, fun F1 H1 d1 f1 sf m o => .cons o (r.mono sf m)⟩
  | _, _, _, _, n + 1, d, .cons (f := f) (g := g) h r, e2 => by
    obtain ⟨v, f2, g0, hg, hv, ho, back⟩ := Owns.at (n := n) r e2
    refine ⟨v, f2, add f g0, fun a => by simp only [add]; have := hg a; omega, hv, ho, fun F1 H1 d1 f1 sf m o => ?_⟩
    have q := Owns.cons (h.mono sf fun a o n => m a o (by simp only [add]; omega)) (back F1 H1 d1 f1 sf (fun a o n => m a o (by simp only [add]; omega)) o)
    have e3 : add f (add f1 g0) = add f1 (add f g0) := by funext a; simp only [add]; omega
    rw [e3] at q
    exact q
theorem OwnL.len : ∀ {ks : List Kd} {vs : List V} {ds : List D} {g : Cnt}, OwnL G F H ks vs ds g → vs.length = ds.length ∧ ks.length = ds.length
  | _, _, _, _, .nil => ⟨rfl, rfl⟩
  | _, _, _, _, .cons _ r => ⟨by simp [r.len.1], by simp [r.len.2]⟩
theorem Owns.len : ∀ {k : Kd} {vs : List V} {ds : List D} {g : Cnt}, Owns G F H k vs ds g → vs.length = ds.length
  | _, _, _, _, .nil => rfl
  | _, _, _, _, .cons _ r => by simp [r.len]
theorem map_fst_set {α β : Type} {l : List (α × β)} {n : Nat} {q : α × β} {b : β} (h : l[n]? = some q) : (l.set n (q.1, b)).map (·.1) = l.map (·.1) := by
  obtain ⟨hn, rfl⟩ := List.getElem?_eq_some_iff.mp h
  rw [List.map_set]
  have e : l[n].1 = (l.map (·.1))[n]'(by simpa using hn) := by simp
  rw [e, List.set_getElem_self]
theorem map_snd_set {α β : Type} {l : List (α × β)} {n : Nat} {a : α} {b : β} : (l.set n (a, b)).map (·.2) = (l.map (·.2)).set n b := by rw [List.map_set]
theorem key_at {kvs : List (Key × V)} {kds : List (D × D)} (hk : kds.map (·.1) = kvs.map (fun p => keyD p.1)) {kk : Key} {n : Nat} {w : V} (e : keyAt kds (keyD kk) = some n) (hw : (kvs.map (·.2))[n]? = some w) : valV kvs kk = some w := by
  induction kvs generalizing kds n with
  | nil => simp at hw
  | cons p r ih => cases kds with
    | nil => simp at hk
    | cons a b =>
      obtain ⟨h1, h2⟩ := List.cons.inj (show a.1 :: b.map (·.1) = keyD p.1 :: r.map (fun p => keyD p.1) from hk)
      unfold keyAt at e
      rw [List.findIdx?_cons, h1, key_eqv] at e
      unfold valV
      rw [List.find?_cons]
      by_cases z : p.1 = kk
      · rw [decide_eq_true z] at e ⊢
        simp at e
        subst e
        simpa using hw
      · rw [decide_eq_false z] at e ⊢
        simp only [Bool.false_eq_true, if_false, Option.map_eq_some_iff] at e
        obtain ⟨m, e, rfl⟩ := e
        exact ih h2 (n := m) e (by simpa using hw)
theorem isKey_of {x : D} {kvs : List (Key × V)} {kds : List (D × D)} {n : Nat} (hk : kds.map (·.1) = kvs.map (fun p => keyD p.1)) (e : keyAt kds x = some n) (h : isKey x = true) : ∃ kk, x = keyD kk := by
  cases x <;> simp [isKey] at h
  · rename_i i; exact ⟨.inl i, rfl⟩
  · rename_i s
    -- the stored key is the text
    unfold keyAt at e
    rw [List.findIdx?_eq_some_iff_getElem] at e
    obtain ⟨hn, e, _⟩ := e
    have hm : kds[n].1 ∈ kds.map (·.1) := List.mem_map.mpr ⟨_, List.getElem_mem hn, rfl⟩
    rw [hk] at hm
    obtain ⟨p, _, hp⟩ := List.mem_map.mp hm
    rw [← hp] at e
    cases h1 : p.1 with
    | inl j => rw [h1] at e; simp [keyD, D.eqv] at e
    | inr z =>
      rw [h1] at e
      simp [keyD, D.eqv] at e
      exact ⟨.inr z, by rw [keyD, e]⟩
theorem Own.at : ∀ (pv : List PV) {k : Kd} {v : V} {d : D} {f : Cnt}, Own G F H k v d f → ∀ {k' : Kd} {d' : D}, getKD pv k d = some (k', d') → ∃ v' f' f0, (∀ a, f a = f' a + f0 a) ∧ Nav G H v pv v' ∧ Own G F H k' v' d' f' ∧
    ∀ F1 H1 k1 d1 f1 r, Same F F1 → (∀ a o, f0 a ≠ 0 → H a = some o → H1 a = some o) → Own G F1 H1 k1 v' d1 f1 → setKD pv k d (k1, d1) = some r → Own G F1 H1 r.1 v r.2 (add f1 f0)
  | [], k, v, d, f, o, k', d', e => by
    cases (show some (k, d) = some (k', d') from e)
    refine ⟨v, f, nil0, fun a => rfl, .nil v, o, fun F1 H1 k1 d1 f1 r sf m o1 er => ?_⟩
    cases (show some (k1, d1) = some r from er)
    exact o1.cast fun a => rfl
  | .fld c0 n :: pv, k, v, d, f, o, k', d', e => by
    cases o with
    | @ob ks a dx c fs ds g h hn r =>
      unfold getKD at e
      by_cases hc : c = c0
      case neg => rw [if_neg hc] at e; cases e
      subst hc
      rw [if_pos rfl] at e
      cases e1 : ks[n]? with
      | none => rw [e1] at e; cases e
      | some kn =>
        cases e2 : ds[n]? with
        | none => rw [e1, e2] at e; cases e
        | some dn =>
          rw [e1, e2] at e
          obtain ⟨vn, fn, g0, hg, hv, on, back⟩ := r.at e1 e2
          obtain ⟨v', f', f0, hf, nv, o', back'⟩ := Own.at pv on e
          have hlen : fs.length = ds.length := by have := r.len.1; simpa using this
          refine ⟨v', f', add (one a) (add g0 f0), fun b => by simp only [add]; have := hg b; have := hf b; omega, .fld h (by rw [hlen]; exact hn) hv nv, o', fun F1 H1 k1 d1 f1 r sf m o1 er => ?_⟩
          unfold setKD at er
          rw [if_pos rfl, e1, e2] at er
          simp only at er
          cases e3 : setKD pv kn dn (k1, d1) with
          | none => rw [e3] at er; cases er
          | some q =>
            rw [e3] at er
            cases er
            have oq := back' F1 H1 k1 d1 f1 q sf (fun b o n => m b o (by simp only [add]; omega)) o1 e3
            have ol := back F1 H1 q.1 q.2 (add f1 f0) sf (fun b o n => m b o (by simp only [add]; omega)) oq
            have hh := m a _ (by simp [add, one]) h
            refine (Own.ob (ds := ds.set n q.2) hh (by rw [List.length_set]; exact hn) ol).cast fun b => by simp only [add]; omega
    | _ => unfold getKD at e; cases e
  | .key x :: pv, k, v, d, f, o, k', d', e => by
    cases o with
    | @dK k a kvs kds g h hn r =>
      unfold getKD at e
      split at e
      · rename_i hx
        cases e1 : keyAt kds x with
        | none => rw [e1] at e; cases e
        | some n =>
          rw [e1] at e
          cases e2 : kds[n]? with
          | none => simp [e2] at e
          | some q =>
            have e : getKD pv k q.2 = some (k', d') := by simpa [e2] using e
            have e2' : (kds.map (·.2))[n]? = some q.2 := by rw [List.getElem?_map, e2]; rfl
            obtain ⟨vn, fn, g0, hg, hv, on, back⟩ := r.at e2'
            obtain ⟨v', f', f0, hf, nv, o', back'⟩ := Own.at pv on e
            obtain ⟨kk, rfl⟩ := isKey_of hn e1 hx
            refine ⟨v', f', add (one a) (add g0 f0), fun b => by simp only [add]; have := hg b; have := hf b; omega, .key h (key_at hn e1 hv) nv, o', fun F1 H1 k1 d1 f1 r1 sf m o1 er => ?_⟩
            unfold setKD at er
            rw [if_pos hx, e1] at er
            simp only [Option.bind_some, e2] at er
            cases e3 : setKD pv k q.2 (k1, d1) with
            | none => rw [e3] at er; cases er
            | some p =>
              rw [e3] at er
              simp only [Option.bind_some] at er
              split at er
              · rename_i hb
                cases er
                have oq := back' F1 H1 k1 d1 f1 p sf (fun b o n => m b o (by simp only [add]; omega)) o1 e3
                rw [Kd.eq_of_beq hb] at oq
                have ol := back F1 H1 p.2 (add f1 f0) sf (fun b o n => m b o (by simp only [add]; omega)) oq
                have hh := m a _ (by simp [add, one]) h
                refine (Own.dK (kds := kds.set n (q.1, p.2)) hh (by rw [map_fst_set e2]; exact hn) (by rw [map_snd_set]; exact ol)).cast fun b => by simp only [add]; omega
              · cases er
      · cases e
    | @dR ks a kvs kds g h hn r =>
      unfold getKD at e
      split at e
      · rename_i hx
        cases e1 : keyAt kds x with
        | none => rw [e1] at e; cases e
        | some n =>
          rw [e1] at e
          cases e0 : ks[n]? with
          | none => simp [e0] at e
          | some kn =>
          cases e2 : kds[n]? with
          | none => simp [e0, e2] at e
          | some q =>
            have e : getKD pv kn q.2 = some (k', d') := by simpa [e0, e2] using e
            have e2' : (kds.map (·.2))[n]? = some q.2 := by rw [List.getElem?_map, e2]; rfl
            obtain ⟨vn, fn, g0, hg, hv, on, back⟩ := r.at e0 e2'
            obtain ⟨v', f', f0, hf, nv, o', back'⟩ := Own.at pv on e
            obtain ⟨kk, rfl⟩ := isKey_of hn e1 hx
            refine ⟨v', f', add (one a) (add g0 f0), fun b => by simp only [add]; have := hg b; have := hf b; omega, .key h (key_at hn e1 hv) nv, o', fun F1 H1 k1 d1 f1 r1 sf m o1 er => ?_⟩
            unfold setKD at er
            rw [if_pos hx, e1] at er
            simp only [Option.bind_some, e0, e2] at er
            cases e3 : setKD pv kn q.2 (k1, d1) with
            | none => rw [e3] at er; cases er
            | some p =>
              rw [e3] at er
              cases er
              have oq := back' F1 H1 k1 d1 f1 p sf (fun b o n => m b o (by simp only [add]; omega)) o1 e3
              have ol := back F1 H1 p.1 p.2 (add f1 f0) sf (fun b o n => m b o (by simp only [add]; omega)) oq
              have hh := m a _ (by simp [add, one]) h
              refine (Own.dR (kds := kds.set n (q.1, p.2)) hh (by rw [map_fst_set e2]; exact hn) (by rw [map_snd_set]; exact ol)).cast fun b => by simp only [add]; omega
      · cases e
    | _ => unfold getKD at e; cases e
  | .ix i :: pv, k, v, d, f, o, k', d', e => by
    cases o with
    | @li k a vs ds g h r =>
      unfold getKD at e
      cases e1 : normIx ds.length i with
      | none => rw [e1] at e; cases e
      | some n =>
        rw [e1] at e
        cases e2 : ds[n]? with
        | none => simp [e2] at e
        | some dn =>
          have e : getKD pv k dn = some (k', d') := by simpa [e2] using e
          obtain ⟨vn, fn, g0, hg, hv, on, back⟩ := r.at e2
          obtain ⟨v', f', f0, hf, nv, o', back'⟩ := Own.at pv on e
          refine ⟨v', f', add (one a) (add g0 f0), fun b => by simp only [add]; have := hg b; have := hf b; omega, .ix h (by rw [r.len]; exact e1) hv nv, o', fun F1 H1 k1 d1 f1 r1 sf m o1 er => ?_⟩
          unfold setKD at er
          rw [e1] at er
          simp only [Option.bind_some, e2] at er
          cases e3 : setKD pv k dn (k1, d1) with
          | none => rw [e3] at er; cases er
          | some p =>
            rw [e3] at er
            simp only [Option.bind_some] at er
            split at er
            · rename_i hb
              cases er
              have oq := back' F1 H1 k1 d1 f1 p sf (fun b o n => m b o (by simp only [add]; omega)) o1 e3
              rw [Kd.eq_of_beq hb] at oq
              have ol := back F1 H1 p.2 (add f1 f0) sf (fun b o n => m b o (by simp only [add]; omega)) oq
              have hh := m a _ (by simp [add, one]) h
              exact (Own.li hh ol).cast fun b => by simp only [add]; omega
            · cases er
    | _ => unfold getKD at e; cases e
end
end TB
namespace TB
open PySem L2
section
variable {G : Cfgx} {F F' H H' : Hp} {σ : L2.St} {S : List Slot} {T T' : Cnt}
def tupOf : Option HO → Option HO
  | some (.tup xs) => some (.tup xs)
  | some (.frz o (.tup xs)) => some (.frz o (.tup xs))
  | _ => none
theorem tupOf_some {o : Option HO} {u : HO} (h : tupOf o = some u) : o = some u ∧ TupAt o := by
  unfold tupOf at h
  split at h
  · cases h; exact ⟨rfl, .inl ⟨_, rfl⟩⟩
  · cases h; exact ⟨rfl, .inr ⟨_, _, rfl⟩⟩
  · cases h
def exT (F H : Hp) : Hp := fun a => match F a with
  | some o => some o
  | none => tupOf (H a)
theorem exT_some {F H : Hp} {a : Addr} {u : HO} (h : exT F H a = some u) : F a = some u ∨ (F a = none ∧ H a = some u ∧ TupAt (H a)) := by
  unfold exT at h
  cases e : F a with
  | some o => rw [e] at h; exact .inl h
  | none => rw [e] at h; obtain ⟨a, b⟩ := tupOf_some h; exact .inr ⟨rfl, a, b⟩
theorem exT_of {F H : Hp} {a : Addr} {u : HO} (s : Same F H) (h : H a = some u) (t : TupAt (H a)) : exT F H a = some u := by
  unfold exT
  cases e : F a with
  | some o => rw [s _ _ e] at h; exact h
  | none =>
    show tupOf (H a) = some u
    rcases t with ⟨xs, t⟩ | ⟨o, xs, t⟩ <;> rw [t] at h ⊢ <;> exact h
mutual
theorem rep_exT {F H : Hp} (s : Same F H) : ∀ {v : V} {d : D}, d.imm = true → Rep G H v d → Rep G (exT F H) v d
  | _, _, _, .non => .non
  | _, _, _, .bl b => .bl b
  | _, _, _, .int i => .int i
  | _, _, _, .str z => .str z
  | _, _, h, .tup q r => .tup (by
      rcases q with (q | ⟨o, q⟩) | q
      · exact .inl (.inl (exT_of s q (.inl ⟨_, q⟩)))
      · exact .inl (.inr ⟨o, exT_of s q (.inr ⟨_, _, q⟩)⟩)
      · exact .inr q) (reps_exT s (by simpa [D.imm] using h) r)
  | _, _, h, .scr _ => by simp [D.imm] at h
  | _, _, h, .lst _ _ => by simp [D.imm] at h
  | _, _, h, .dK _ _ _ => by simp [D.imm] at h
  | _, _, h, .dN _ _ _ _ => by simp [D.imm] at h
  | _, _, h, .ldc _ _ _ => by simp [D.imm] at h
  | _, _, h, .ob _ _ _ => by simp [D.imm] at h
  | _, _, h, .fn _ => by simp [D.imm] at h
theorem reps_exT {F H : Hp} (s : Same F H) : ∀ {vs : List V} {ds : List D}, D.imms ds = true → Reps G H vs ds → Reps G (exT F H) vs ds
  | _, _, _, .nil => .nil
  | _, _, h, .cons a r => by
    simp only [D.imms, Bool.and_eq_true] at h
    exact .cons (rep_exT s h.1 a) (reps_exT s h.2 r)
end
/-- what is new and a tuple is frozen -/
theorem St'.exT (st : St' G F H σ S T) (e : Same H H') : Same F H' ∧ St' G (TB.exT F H') H' σ S T ∧ Step F H T (TB.exT F H') H' T := by
  have s : Same F H' := st.sub.trans e
  have sf : Same F (TB.exT F H') := fun a o h => by unfold TB.exT; rw [h]
  have nt : ∀ a, T a ≠ 0 → ¬ TupAt (H' a) := fun a n => by
    have h1 := st.there a n
    have h2 := st.noT a n
    cases q : H a with
    | none => exact absurd q h1
    | some o => rw [e _ _ q, ← q]; exact h2
  refine ⟨s, ⟨st.pi, fun a u h => ?_, st.sl.mono sf fun a o n h => e _ _ h, st.le, fun a n => ?_⟩, ⟨sf, fun a o _ h => e _ _ h, fun a n => .inl n, fun a h n => ?_, fun a h => ?_⟩⟩
  · rcases exT_some h with h | ⟨_, h, _⟩
    · exact s _ _ h
    · exact h
  · cases q : TB.exT F H' a with
    | none => exact absurd q n
    | some u =>
      rcases exT_some q with h | ⟨_, h, t⟩
      · exact st.di a (by rw [h]; simp)
      · exact Decidable.byContradiction fun z => nt a z t
  · cases q : TB.exT F H' a with
    | none => exact absurd q n
    | some u =>
      rcases exT_some q with h2 | ⟨_, h2, t⟩
      · rw [h] at h2; cases h2
      · cases z : H a with
        | none => exact .inl rfl
        | some o => rw [e _ _ z, ← z] at t; exact .inr (.inr (by rw [← z]; exact t))
  · cases q : H a with
    | none => exact absurd q h
    | some o => rw [e _ _ q]; simp
end
def DenQ (G : Cfgx) (t : TE) (m : E) : Prop := ∀ F H σ S T Q d S', St' G F H σ S T → m S = .ok (.fz, d) S' → (∀ v F' H', Step F H T F' H' T → St' G F' H' σ S T → Same H H' → Rep G F' v d → Q v H') → t σ H Q
def TrQ (X : Cx) (G : Cfgx) (e : Expr) (m : E) : Prop := ∃ t, PE X e t ∧ DenQ G t m
def Qt (m : E) : Prop := ∀ S, m S = .bad ∨ ∃ d, m S = .ok (.fz, d) S
section
variable {X : Cx} {G : Cfgx} {W : WX} {k : Nat}
theorem qt_peek (m : E) : Qt (ePeekI m) := fun S => by
  unfold ePeekI
  split
  · split
    · exact .inr ⟨_, rfl⟩
    · exact .inl rfl
  · exact .inl rfl
theorem tr_ofQ {e : Expr} {m : E} (h : TrQ X G e m) (q : Qt m) : TrE X G W e m := by
  obtain ⟨t, p, d⟩ := h
  refine ⟨t, p, fun F H σ S T Q st z => ?_⟩
  rcases q S with e | ⟨d', e⟩
  · rw [e] at z; exact z.elim
  · rw [e] at z
    have z : KE G F H σ T Q (.fz, d') S := z
    exact d F H σ S T Q d' S st e fun v F' H' s st' _ r => z v F' H' T nil0 (s.castR fun a => rfl) st' (.fz r) (fun a => st'.le a) fun _ _ => rfl
theorem q_var (i : Nat) {x : PySem.Str} {pos : Pos} (hN : X.N[i]? = some x := by rfl) (hv : Vis X.env.scope x := by first | exact Or.inl rfl | exact Or.inr (Or.inl rfl) | exact Or.inr (Or.inr rfl)) (hd : (x == ("__debug__" : PySem.Str)) = false := by decide)
    (hcd : (x == ("__classdict__" : PySem.Str)) = false := by decide) : TrQ X G (.Name x pos) (eVar i) := by
  refine ⟨_, pe_var hN hv hd hcd, fun F H σ S T Q d S' st e k => ?_⟩
  unfold eVar at e
  split at e
  · rename_i d' q
    cases e
    obtain ⟨v, f, hv, o, _⟩ := st.sl.var q
    cases o with
    | fz r => exact ⟨v, hv, k v F H (Step.refl F H T) st (Same.refl H) r⟩
  · cases e
theorem peek_world {F H : Hp} {σ : L2.St} {S : List Slot} {T : Cnt} (st : St' G F H σ S T) : St' G H H σ (S.map frz) nil0 := ⟨st.pi, Same.refl H, slots_frz st.sub st.sl, fun _ => Nat.zero_le _, fun _ _ => rfl⟩
theorem q_peek {e : Expr} {m : E} {W' : WX} (h : TrE X G W' e m) : TrQ X G e (ePeekI m) := by
  obtain ⟨t, hp, hd⟩ := h
  refine ⟨t, hp, fun F H σ S T Q d S' st e k => ?_⟩
  unfold ePeekI at e
  split at e
  · rename_i kd d' S1 em
    split at e
    · rename_i hi
      cases e
      refine hd H H σ (S.map frz) nil0 Q (peek_world st) ?_
      rw [em]
      intro v F' H' T' f s' st' o le di
      have sHH : Same H H' := fun a u e => s'.fr a u rfl e
      have rep := o.rep st'.sub
      obtain ⟨sF, st2, s2⟩ := st.exT sHH
      exact k v _ H' s2 st2 sHH (rep_exT sF hi rep)
    · cases e
  · cases e
theorem tr_peekI {e : Expr} {m : E} {W' : WX} (h : TrE X G W' e m) : TrE X G W e (ePeekI m) := tr_ofQ (q_peek h) (qt_peek m)
/-- a new list of such -/
theorem tr_peekLI {e : Expr} {m : E} {W' : WX} (h : TrE X G W' e m) : TrE X G W e (ePeekLI m) := by
  obtain ⟨t, hp, hd⟩ := h
  refine ⟨t, hp, fun F H σ S T Q st p => ?_⟩
  unfold ePeekLI at p
  refine hd H H σ (S.map frz) nil0 Q (peek_world st) ?_
  split at p
  · rename_i ds S1 em
    split at p
    · rename_i hi
      rw [em]
      have p : KE G F H σ T Q (.li .fz, .lst ds) S := p
      intro v F' H' T' f s' st' o le di
      have sHH : Same H H' := fun a u e => s'.fr a u rfl e
      have sub' := st'.sub
      cases o with
      | @li k a vs ds g h r =>
        obtain ⟨rr, rfl⟩ := reps_fz r
        obtain ⟨sF, st2, s2⟩ := st.exT sHH
        have hn : H a = none := by
          rcases s'.nT a (by simp [add, one]) with z | z
          · exact absurd rfl z
          · exact z
        have tz : T a = 0 := Decidable.byContradiction fun n => st.there a n hn
        have r2 : Reps G (exT F H') vs ds := reps_exT sF hi ((owns_fz (H := H') rr).rep sub')
        refine p (.ref a) _ H' T (add (one a) nil0) ⟨s2.sF, s2.fr, fun b n => ?_, s2.nF, s2.tl⟩ st2 (.li h (owns_fz r2)) (fun b => ?_) fun b n => ?_
        · by_cases q : b = a
          · rw [q]; exact .inr hn
          · exact .inl (by simp only [add, one, if_neg q, nil0] at n; omega)
        · by_cases q : b = a
          · rw [q]; simp [add, one, nil0, tz]
          · have := st2.le b; simp only [add, one, if_neg q, nil0]; omega
        · by_cases q : b = a
          · exfalso
            rw [q] at n
            cases z : exT F H' a with
            | none => exact n z
            | some u =>
              rcases exT_some z with z | ⟨_, _, t⟩
              · have := st.sub _ _ z; rw [hn] at this; cases this
              · rw [h] at t; rcases t with ⟨_, t⟩ | ⟨_, _, t⟩ <;> cases t
          · simp [add, one, if_neg q, nil0]
    · exact p.elim
  · exact p.elim
theorem Nav.mono {G : Cfg} {H H' : Hp} (e : Same H H') : ∀ {p : List PV} {v w : V}, Nav G H v p w → Nav G H' v p w
  | _, _, _, .nil v => .nil v
  | _, _, _, .fld h n g r => .fld (e _ _ h) n g (Nav.mono e r)
  | _, _, _, .key h g r => .key (e _ _ h) g (Nav.mono e r)
  | _, _, _, .ix h n g r => .ix (e _ _ h) n g (Nav.mono e r)
theorem Nav.snoc {G : Cfg} {H : Hp} {s : PV} : ∀ {p : List PV} {v w u : V}, Nav G H v p w → Nav G H w [s] u → Nav G H v (p ++ [s]) u
  | _, _, _, _, .nil v, h => h
  | _, _, _, _, .fld h n g r, q => .fld h n g (Nav.snoc r q)
  | _, _, _, _, .key h g r, q => .key h g (Nav.snoc r q)
  | _, _, _, _, .ix h n g r, q => .ix h n g (Nav.snoc r q)
def getKD1 (s : PV) (q : KD) : Option KD := getKD [s] q.1 q.2
theorem getKD_snoc (s : PV) : ∀ (p : List PV) (k : Kd) (d : D), getKD (p ++ [s]) k d = (getKD p k d).bind (getKD1 s)
  | [], k, d => rfl
  | .fld c n :: p, k, d => by
    cases k <;> first | rfl | skip
    rename_i ks
    cases d <;> first | rfl | skip
    rename_i c' ds
    show getKD (.fld c n :: (p ++ [s])) _ _ = _
    unfold getKD
    split
    · split
      · rename_i e1 e2; exact getKD_snoc s p _ _
      · rfl
    · rfl
  | .key x :: p, k, d => by
    cases k <;> first | rfl | skip
    · rename_i k
      cases d <;> first | rfl | skip
      rename_i kvs
      show getKD (.key x :: (p ++ [s])) _ _ = _
      unfold getKD
      split
      · cases keyAt kvs x with
        | none => rfl
        | some n =>
          simp only [Option.bind_some]
          cases kvs[n]? with
          | none => rfl
          | some q => exact getKD_snoc s p _ _
      · rfl
    · rename_i ks
      cases d <;> first | rfl | skip
      rename_i kvs
      show getKD (.key x :: (p ++ [s])) _ _ = _
      unfold getKD
      split
      · cases keyAt kvs x with
        | none => rfl
        | some n =>
          simp only [Option.bind_some]
          cases ks[n]? with
          | none => rfl
          | some k =>
            cases kvs[n]? with
            | none => rfl
            | some q => exact getKD_snoc s p _ _
      · rfl
  | .ix i :: p, k, d => by
    cases k <;> first | rfl | skip
    rename_i k
    cases d <;> first | rfl | skip
    rename_i ds
    show getKD (.ix i :: (p ++ [s])) _ _ = _
    unfold getKD
    cases normIx ds.length i with
    | none => rfl
    | some n =>
      simp only [Option.bind_some]
      cases ds[n]? with
      | none => rfl
      | some q => exact getKD_snoc s p _ _
def pEv1 (s : PS) (S : List Slot) : Option PV := match s with
  | .fld c n => some (.fld c n)
  | .key e => (eFzD e S).map .key
  | .ix e => match eFzD e S with
    | some (.int i) => some (.ix i)
    | _ => none
theorem pEv_snoc (s : PS) (S : List Slot) : ∀ ps, pEv (ps ++ [s]) S = (pEv ps S).bind fun pv => (pEv1 s S).map fun x => pv ++ [x]
  | [] => by
    cases s with
    | fld c n => rfl
    | key e => simp only [List.nil_append, pEv, pEv1]; cases eFzD e S <;> rfl
    | ix e =>
      simp only [List.nil_append, pEv, pEv1]
      cases eFzD e S with
      | none => rfl
      | some d => cases d <;> rfl
  | .fld c n :: ps => by
    show (pEv (ps ++ [s]) S).map _ = _
    rw [pEv_snoc s S ps]
    show _ = ((pEv ps S).map _).bind _
    cases pEv ps S with
    | none => rfl
    | some pv => cases pEv1 s S <;> rfl
  | .key e :: ps => by
    show (eFzD e S).bind (fun d => (pEv (ps ++ [s]) S).map _) = ((eFzD e S).bind fun d => (pEv ps S).map _).bind _
    cases eFzD e S with
    | none => rfl
    | some d =>
      simp only [Option.bind_some]
      rw [pEv_snoc s S ps]
      cases pEv ps S with
      | none => rfl
      | some pv => cases pEv1 s S <;> rfl
  | .ix e :: ps => by
    simp only [List.cons_append, pEv]
    cases eFzD e S with
    | none => rfl
    | some d =>
      cases d <;> first | rfl | skip
      simp only
      rw [pEv_snoc s S ps]
      cases pEv ps S with
      | none => rfl
      | some pv => cases pEv1 s S <;> rfl
def DenP (G : Cfgx) (t : TE) (i : Nat) (ps : List PS) : Prop := ∀ F H σ S T Q g, St' G F H σ S T → tgt i ps S = some g → (∀ v0 v F' H', Step F H T F' H' T → St' G F' H' σ S T → Same H H' → σ[i]? = some (some v0) → Nav G H' v0 g.pv v → Q v H') → t σ H Q
def TrP (X : Cx) (G : Cfgx) (e : Expr) (i : Nat) (ps : List PS) : Prop := ∃ t, PE X e t ∧ DenP G t i ps
theorem tgt_eq {i : Nat} {ps : List PS} {S : List Slot} {g : Tgt} (h : tgt i ps S = some g) : S[i]? = some (some (g.rk, g.rd)) ∧ pEv ps S = some g.pv ∧ getKD g.pv g.rk g.rd = some (g.k, g.d) := by
  unfold tgt at h
  split at h
  · rename_i rk rd pv e1 e2
    cases e3 : getKD pv rk rd with
    | none => rw [e3] at h; cases h
    | some kd => rw [e3] at h; cases h; exact ⟨e1, e2, e3⟩
  · cases h
theorem tgt_mk {i : Nat} {ps : List PS} {S : List Slot} {pv : List PV} {rk k : Kd} {rd d : D} (h1 : S[i]? = some (some (rk, rd))) (h2 : pEv ps S = some pv) (h3 : getKD pv rk rd = some (k, d)) : tgt i ps S = some ⟨pv, rk, rd, k, d⟩ := by
  unfold tgt
  rw [h1, h2]
  simp only [h3]; rfl
theorem tgt_snoc {i : Nat} {ps : List PS} {s : PS} {S : List Slot} {g : Tgt} (h : tgt i (ps ++ [s]) S = some g) : ∃ g0 x, tgt i ps S = some g0 ∧ pEv1 s S = some x ∧ g.pv = g0.pv ++ [x] ∧ g.rk = g0.rk ∧ g.rd = g0.rd ∧ getKD [x] g0.k g0.d = some (g.k, g.d) := by
  obtain ⟨h1, h2, h3⟩ := tgt_eq h
  rw [pEv_snoc] at h2
  cases e1 : pEv ps S with
  | none => rw [e1] at h2; cases h2
  | some pv =>
    rw [e1] at h2
    cases e2 : pEv1 s S with
    | none => rw [e2] at h2; cases h2
    | some x =>
      rw [e2] at h2
      have h2 : pv ++ [x] = g.pv := Option.some.inj h2
      rw [← h2, getKD_snoc] at h3
      cases e3 : getKD pv g.rk g.rd with
      | none => rw [e3] at h3; cases h3
      | some q => rw [e3] at h3; exact ⟨_, x, tgt_mk h1 e1 e3, rfl, h2.symm, rfl, rfl, h3⟩
/-- what stands at the path, and a way to put something else there -/
theorem tgt_own {F H : Hp} {σ : L2.St} {S : List Slot} {T : Cnt} {i : Nat} {ps : List PS} {g : Tgt} (st : St' G F H σ S T) (h : tgt i ps S = some g) : ∃ v0 v' f' T0, σ[i]? = some (some v0) ∧ (∀ a, T a = f' a + T0 a) ∧ Nav G H v0 g.pv v' ∧ Own G F H g.k v' g.d f' ∧
    ∀ F1 H1 k1 d1 f1 S1, Same F F1 → Same F1 H1 → (∀ a o, T0 a ≠ 0 → H a = some o → H1 a = some o) → Own G F1 H1 k1 v' d1 f1 → (∀ a, f1 a + T0 a ≤ 1) → (∀ a, F1 a ≠ none → f1 a + T0 a = 0) → g.put i (k1, d1) S = some S1 → St' G F1 H1 σ S1 (add f1 T0) := by
  obtain ⟨h1, h2, h3⟩ := tgt_eq h
  obtain ⟨v0, f, T0, hT, hv, so, back⟩ := st.sl.at h1
  cases so with
  | @yes k v d f o =>
    obtain ⟨v', f', f0, hf, nv, o', back'⟩ := Own.at g.pv o h3
    refine ⟨v, v', f', add f0 T0, hv, fun a => by simp only [add]; have := hT a; have := hf a; omega, nv, o', fun F1 H1 k1 d1 f1 S1 sf sub m o1 le di e => ?_⟩
    unfold Tgt.put at e
    cases e1 : setKD g.pv g.rk g.rd (k1, d1) with
    | none => rw [e1] at e; cases e
    | some r =>
      rw [e1] at e
      cases e
      have oo := back' F1 H1 k1 d1 f1 r sf (fun a o n => m a o (by simp only [add]; omega)) o1 e1
      have sl := back F1 H1 (some v) (some (r.1, r.2)) (add f1 f0) sf (fun a o n => m a o (by simp only [add]; omega)) (.yes oo)
      have e2 : σ.set i (some v) = σ := by
        obtain ⟨hi, q1⟩ := List.getElem?_eq_some_iff.mp hv
        rw [← q1, List.set_getElem_self]
      rw [e2] at sl
      have e3 : add (add f1 f0) T0 = add f1 (add f0 T0) := by funext a; simp only [add]; omega
      rw [e3] at sl
      exact ⟨st.pi, sub, sl, fun a => by have := le a; simp only [add] at this ⊢; omega, fun a n => by have := di a n; simp only [add] at this ⊢; omega⟩
theorem tp_root (i : Nat) {x : PySem.Str} {pos : Pos} (hN : X.N[i]? = some x := by rfl) (hv : Vis X.env.scope x := by first | exact Or.inl rfl | exact Or.inr (Or.inl rfl) | exact Or.inr (Or.inr rfl)) (hd : (x == ("__debug__" : PySem.Str)) = false := by decide)
    (hcd : (x == ("__classdict__" : PySem.Str)) = false := by decide) : TrP X G (.Name x pos) i [] := by
  refine ⟨_, pe_var hN hv hd hcd, fun F H σ S T Q g st e k => ?_⟩
  obtain ⟨h1, h2, h3⟩ := tgt_eq e
  obtain ⟨v, f, hv, o, _⟩ := st.sl.var h1
  have h2 : [] = g.pv := Option.some.inj h2
  exact ⟨v, hv, k v v F H (Step.refl F H T) st (Same.refl H) hv (h2 ▸ .nil v)⟩
theorem fzD_eq {m : E} {S : List Slot} {d : D} (h : eFzD m S = some d) : ∃ S', m S = .ok (.fz, d) S' := by
  unfold eFzD at h
  split at h
  · rename_i d' S1 e; cases h; exact ⟨_, e⟩
  · cases h
/-- an item of a list that stands there -/
theorem tp_ix {e ke : Expr} {i : Nat} {ps : List PS} {m : E} {pos : Pos} (h : TrP X G e i ps) (hk : TrQ X G ke m) (hs : PlainIx ke := by exact fun _ _ => rfl) : TrP X G (.Subscript e ke pos) i (ps ++ [.ix m]) := by
  obtain ⟨t, p, d⟩ := h
  obtain ⟨u, q, d2⟩ := hk
  refine ⟨_, pe_ix ix_list p q hs, fun F H σ S T Q g st eg k => ?_⟩
  obtain ⟨g0, x, h1, h2, h3, h4, h5, h6⟩ := tgt_snoc eg
  refine d F H σ S T _ g0 st h1 fun v0 v F1 H1 s1 st1 sH hv nv => ?_
  unfold pEv1 at h2
  split at h2
  · rename_i heq; cases heq
  · rename_i heq; cases heq
  · rename_i e' heq
    cases heq
    split at h2
    · rename_i j e2
      cases h2
      obtain ⟨S', em⟩ := fzD_eq e2
      refine d2 F1 H1 σ S T _ (.int j) S' st1 em fun y F2 H2 s2 st2 sH2 ry => ?_
      cases ry
      obtain ⟨v0', v', f', T0, hv', hT, nv', o, _⟩ := tgt_own st2 h1
      rw [hv] at hv'; cases hv'
      have := (nv.mono sH2).uniq nv'
      subst this
      generalize hkk : g0.k = gk at o h6
      generalize hd : g0.d = gd at o h6
      cases o with
      | @li kk a vs ds gg ho r =>
        unfold getKD at h6
        cases e1 : normIx ds.length j with
        | none => rw [e1] at h6; cases h6
        | some n =>
          rw [e1] at h6
          cases e3 : ds[n]? with
          | none => simp [e3] at h6
          | some qq =>
            obtain ⟨w, fw, g1, _, hw, ow, _⟩ := r.at e3
            have e1' : normIx vs.length j = some n := by rw [r.len]; exact e1
            refine ⟨a, vs, j, w, rfl, rfl, .inl (.inl ho), atI_of e1' hw, k v0 w F2 H2 (s1.trans s2) st2 (sH.trans sH2) hv ?_⟩
            rw [h3]; exact nv'.snoc (.ix ho e1' hw (.nil w))
      | _ => unfold getKD at h6; cases h6
    · cases h2
end
end TB
namespace TB
open PySem L2
section
variable {G : Cfg} {F F' H H' : Hp}
theorem OwnL.put : ∀ {ks : List Kd} {vs : List V} {ds : List D} {g : Cnt} (n : Nat) {k : Kd} {v : V} {d : D} {f : Cnt}, OwnL G F H ks vs ds g → n < ds.length → Own G F H k v d f → ∃ g', OwnL G F H (ks.set n k) (vs.set n v) (ds.set n d) g' ∧ ∀ a, g' a ≤ g a + f a
  | _, _, _, _, n, _, _, _, _, .nil, h, _ => absurd h (Nat.not_lt_zero _)
  | _, _, _, _, 0, _, _, _, f, .cons (f := f0) (g := g) h r, _, o => ⟨add f g, .cons o r, fun a => by simp only [add]; omega⟩
  | _, _, _, _, n + 1, _, _, _, f, .cons (f := f0) (g := g) h r, hn, o => by
    obtain ⟨g', r', l⟩ := OwnL.put n r (by simpa using hn) o
    exact ⟨add f0 g', .cons h r', fun a => by have := l a; simp only [add]; omega⟩
theorem OwnL.app1 : ∀ {ks : List Kd} {vs : List V} {ds : List D} {g : Cnt} {k : Kd} {v : V} {d : D} {f : Cnt}, OwnL G F H ks vs ds g → Own G F H k v d f → ∃ g', OwnL G F H (ks ++ [k]) (vs ++ [v]) (ds ++ [d]) g' ∧ ∀ a, g' a ≤ g a + f a
  | _, _, _, _, _, _, _, f, .nil, o => ⟨add f nil0, .cons o .nil, fun a => by simp only [add, nil0]; omega⟩
  | _, _, _, _, _, _, _, f, .cons (f := f0) h r, o => by
    obtain ⟨g', r', l⟩ := OwnL.app1 r o
    exact ⟨add f0 g', .cons h r', fun a => by have := l a; simp only [add]; omega⟩
theorem Owns.put : ∀ {k : Kd} {vs : List V} {ds : List D} {g : Cnt} (n : Nat) {v : V} {d : D} {f : Cnt}, Owns G F H k vs ds g → Own G F H k v d f → ∃ g', Owns G F H k (vs.set n v) (ds.set n d) g' ∧ ∀ a, g' a ≤ g a + f a
  | _, _, _, _, n, _, _, f, .nil, _ => ⟨nil0, by simpa using Owns.nil, fun a => by simp [nil0]⟩
  | _, _, _, _, 0, _, _, f, .cons (f := f0) (g := g) h r, o => ⟨add f g, .cons o r, fun a => by simp only [add]; omega⟩
  | _, _, _, _, n + 1, _, _, f, .cons (f := f0) (g := g) h r, o => by
    obtain ⟨g', r', l⟩ := Owns.put n r o
    exact ⟨add f0 g', .cons h r', fun a => by have := l a; simp only [add]; omega⟩
theorem Owns.app1 : ∀ {k : Kd} {vs : List V} {ds : List D} {g : Cnt} {v : V} {d : D} {f : Cnt}, Owns G F H k vs ds g → Own G F H k v d f → ∃ g', Owns G F H k (vs ++ [v]) (ds ++ [d]) g' ∧ ∀ a, g' a ≤ g a + f a
  | _, _, _, _, _, _, f, .nil, o => ⟨add f nil0, .cons o .nil, fun a => by simp only [add, nil0]; omega⟩
  | _, _, _, _, _, _, f, .cons (f := f0) h r, o => by
    obtain ⟨g', r', l⟩ := Owns.app1 r o
    exact ⟨add f0 g', .cons h r', fun a => by have := l a; simp only [add]; omega⟩
end
section
variable {X : Cx} {G : Cfgx} {W : WX} {k : Nat} {F H : Hp} {σ : L2.St} {S : List Slot} {T : Cnt}
/-- something else put at the path -/
theorem put_core {i : Nat} {g : Tgt} {a : Addr} {o : HO} {fe f' f1 T0 : Cnt} {k1 : Kd} {d1 : D} {S1 : List Slot} (st : St' G F H σ S T) (hT : ∀ b, T b = f' b + T0 b) (ha : f' a ≠ 0)
    (back : ∀ F1 H1 k1 d1 f1 S1, Same F F1 → Same F1 H1 → (∀ a o, T0 a ≠ 0 → H a = some o → H1 a = some o) → Own G F1 H1 k1 (.ref a) d1 f1 → (∀ a, f1 a + T0 a ≤ 1) → (∀ a, F1 a ≠ none → f1 a + T0 a = 0) → g.put i (k1, d1) S = some S1 → St' G F1 H1 σ S1 (add f1 T0))
    (le : ∀ b, T b + fe b ≤ 1) (di : ∀ b, F b ≠ none → fe b = 0) (ow : Own G F (upd H a o) k1 (.ref a) d1 f1) (hf : ∀ b, f1 b ≤ f' b + fe b) (e : g.put i (k1, d1) S = some S1) :
    St' G F (upd H a o) σ S1 (add f1 T0) ∧ Step F H (add T fe) F (upd H a o) (add f1 T0) := by
  have hta : T a ≠ 0 := by have := hT a; omega
  have hfa : F a = none := Decidable.byContradiction fun n => hta (st.di a n)
  refine ⟨back F _ k1 d1 f1 S1 (Same.refl F) (fun x u h => ?_) (fun x u n h => ?_) ow (fun b => ?_) (fun b n => ?_) e, ⟨Same.refl F, fun x u t h => ?_, fun b n => .inl ?_, fun b h n => absurd h n, fun b h => ?_⟩⟩
  · rw [upd_ne (fun q => by rw [q, hfa] at h; cases h)]; exact st.sub _ _ h
  · have : x ≠ a := fun q => by rw [q] at n; have := hT a; have := st.le a; omega
    rw [upd_ne this]; exact h
  · have := hT b; have := hf b; have := le b; omega
  · have := hT b; have := hf b; have := st.di b n; have := di b n; omega
  · have : x ≠ a := fun q => by rw [q] at t; simp only [add] at t; omega
    rw [upd_ne this]; exact h
  · have := hT b; have := hf b; simp only [add] at n ⊢; omega
  · by_cases q : b = a
    · rw [q, upd_same]; simp
    · rw [upd_ne q]; exact h
theorem nx_of {F H : Hp} {T : Cnt} {D : Ends} {S' : List Slot} (h : KS G F H T D .nx S') {σ' : L2.St} {F' H' : Hp} {T' : Cnt} (s : Step F H T F' H' T') (st : St' G F' H' σ' S' T') : D.nx σ' H' :=
  (show ∀ σ' F' H' T', Step F H T F' H' T' → St' G F' H' σ' S' T' → D.nx σ' H' from h) σ' F' H' T' s st
end
end TB
namespace TB
open PySem L2
section
variable {X : Cx} {G : Cfgx} {W : WX} {k : Nat} {F H : Hp} {σ : L2.St} {S : List Slot} {T : Cnt}
def DenAQ (G : Cfgx) (t : TA) (ms : List E) : Prop := ∀ F H σ S T Q ds, St' G F H σ S T → eFzDs ms S = some ds → (∀ vs F' H', Step F H T F' H' T → St' G F' H' σ S T → Same H H' → Reps G F' vs ds → Q vs H') → t σ H Q
def TrAQ (X : Cx) (G : Cfgx) (es : List Expr) (ms : List E) : Prop := ∃ t, PA X es t ∧ DenAQ G t ms
theorem taq_nil : TrAQ X G [] [] := ⟨_, pa_nil, fun F H σ S T Q ds st e k => by cases e; exact k [] F H (Step.refl F H T) st (Same.refl H) .nil⟩
theorem taq_cons {e : Expr} {es : List Expr} {m : E} {ms : List E} (h : TrQ X G e m) (r : TrAQ X G es ms) (hs : starEach (e :: es) X.env = (false, eval e X.env) :: starEach es X.env := by rfl) : TrAQ X G (e :: es) (m :: ms) := by
  obtain ⟨t, p, d⟩ := h
  obtain ⟨u, q, d2⟩ := r
  refine ⟨_, pa_cons p q hs, fun F H σ S T Q ds st e k => ?_⟩
  unfold eFzDs at e
  cases e1 : eFzD m S with
  | none => rw [e1] at e; cases e
  | some x =>
    rw [e1] at e
    cases e2 : eFzDs ms S with
    | none => simp [e2] at e
    | some ys =>
      have e : x :: ys = ds := by simpa [e2] using e
      obtain ⟨S', em⟩ := fzD_eq e1
      refine d F H σ S T _ x S' st em fun v F1 H1 s1 st1 h1 r1 => d2 F1 H1 σ S T _ ys st1 e2 fun vs F2 H2 s2 st2 h2 r2 => ?_
      exact k (v :: vs) F2 H2 (s1.trans s2) st2 (h1.trans h2) (by rw [← e]; exact .cons (r1.mono s2.sF) r2)
/-- a list that stands there, changed -/
theorem list_up {g : Tgt} {i : Nat} {a : Addr} {vs ws : List V} {ys : List D} {f' T0 : Cnt} {S1 : List Slot} (st : St' G F H σ S T) (ho : H a = some (.lst vs)) (hf' : ∀ b, f' b = one a b) (hT : ∀ b, T b = f' b + T0 b)
    (back : ∀ F1 H1 k1 d1 f1 S1, Same F F1 → Same F1 H1 → (∀ a o, T0 a ≠ 0 → H a = some o → H1 a = some o) → Own G F1 H1 k1 (.ref a) d1 f1 → (∀ a, f1 a + T0 a ≤ 1) → (∀ a, F1 a ≠ none → f1 a + T0 a = 0) → g.put i (k1, d1) S = some S1 → St' G F1 H1 σ S1 (add f1 T0))
    (r : Reps G F ws ys) (es : g.put i (.li .fz, .lst ys) S = some S1) : ∃ T', St' G F (upd H a (.lst ws)) σ S1 T' ∧ Step F H T F (upd H a (.lst ws)) T' := by
  have ow : Own G F (upd H a (.lst ws)) (.li .fz) (.ref a) (.lst ys) (add (one a) nil0) := .li upd_same (owns_fz r)
  obtain ⟨x, y⟩ := put_core (fe := nil0) st hT (by rw [hf' a]; simp [one]) back (fun b => by simp only [nil0]; exact st.le b) (fun _ _ => rfl) ow (fun b => by have := hf' b; simp only [add, nil0]; omega) es
  exact ⟨_, x, y.castL fun b => by simp [add, nil0]⟩
/-- o.m(..) of a list that stands at a path -/
theorem tr_pMth {o : Expr} {i : Nat} {ps : List PS} {name : PySem.Str} {id : String} {r : V → List V → Hp → VK → Prop} {f : List D → List D → Option (D × List D)} {e : Expr} {es : List Expr} {ms : List E} {apos cpos : Pos} (slot : PySem.Slot "list" name id) (hty : typeOf (.builtin id) = pure (.type "method_descriptor")) (hm : MtR X id r) (ok : MthOk G r f)
    (ho : TrP X G o i ps) (h : TrAQ X G (e :: es) ms) (hbase : attributeBase o name X.env (eval o X.env) = eval o X.env := by rfl)
    (hfew : ((backTo cpos (starEach (e :: es) X.env)).all (fun x => !x.1) && (backToKw cpos (keywordEach [] X.env)).all (fun x => x.1.isSome)
      && decide ((e :: es).length + ([] : List Keyword).length + (if ([] : List Keyword).isEmpty then 0 else 1) < 30)) = true := by rfl)
    (hline : (apos.endLine == cpos.line) = true := by rfl) (hs : starEach (e :: es) X.env = (false, eval e X.env) :: starEach es X.env := by rfl) (hplain : (backTo cpos (starEach es X.env)).any (·.1) = false := by rfl) :
    TrE X G W (.Call (.Attribute o name apos) (e :: es) [] cpos) (pMth f i ps ms) := by
  obtain ⟨t, p, d⟩ := ho
  obtain ⟨u, q, d2⟩ := h
  refine ⟨_, pe_bm F.plainAttrs_list slot hty hm p q hbase hfew hline hs hplain, fun F H σ S T Q st z => ?_⟩
  unfold pMth at z
  cases eg : tgt i ps S with
  | none => rw [eg] at z; exact z.elim
  | some g =>
    cases ed : eFzDs ms S with
    | none => rw [eg, ed] at z; exact z.elim
    | some ds =>
      rw [eg, ed] at z
      simp only at z
      obtain ⟨pv, rk, rd, gk, gd⟩ := g
      simp only at z
      split at z
      · rename_i xs
        refine d F H σ S T _ _ st eg fun v0 w F1 H1 s1 st1 h1 hv nv => ?_
        obtain ⟨v0', v', f', T0, hv', hT, nv', o', back⟩ := tgt_own st1 eg
        rw [hv] at hv'; cases hv'
        have := nv.uniq nv'
        subst this
        cases o' with
        | @li _ a vs _ gg hl rl =>
          refine ⟨.inl ⟨rfl, vs, .inl (.inl hl)⟩, ?_⟩
          refine d2 F1 H1 σ S T _ ds st1 ed fun us F2 H2 s2 st2 h2 ru => ?_
          obtain ⟨w0, w', f2, T2, hw, hT2, nw, o2, back2⟩ := tgt_own st2 eg
          rw [hv] at hw; cases hw
          have := (nv.mono h2).uniq nw
          subst this
          cases o2 with
          | @li _ _ vs2 _ gg2 hl2 rl2 =>
            obtain ⟨rr, rfl⟩ := reps_fz rl2
            split at z
            · rename_i rd' ys e3
              refine ok F2 H2 a vs2 xs us ds rd' ys Q hl2 rr ru e3 fun v ws rv rws => ?_
              cases e4 : (⟨pv, rk, rd, .li .fz, .lst xs⟩ : Tgt).put i (.li .fz, .lst ys) S with
              | none => rw [e4] at z; exact z.elim
              | some S3 =>
                rw [e4] at z
                have z : KE G F H σ T Q (.fz, rd') S3 := z
                obtain ⟨T3, st3, s3⟩ := list_up st2 hl2 (fun b => rfl) hT2 back2 rws e4
                exact z v F2 _ T3 nil0 (((s1.trans s2).trans s3).castR fun a => rfl) st3 (.fz rv) (fun a => st3.le a) fun _ _ => rfl
            · exact z.elim
      · exact z.elim
/-- o[k] = e of a dict that stands there -/
theorem dict_up {g : Tgt} {i : Nat} {a : Addr} {kvs : List (Key × V)} {kds : List (D × D)} {kk : Kd} {gg fe f' T0 : Cnt} {kx : Key} {v : V} {d : D} {S1 : List Slot} (st : St' G F H σ S T) (ho : H a = some (.dK kvs)) (hk : kds.map (·.1) = kvs.map (fun p => keyD p.1)) (r : Owns G F H kk (kvs.map (·.2)) (kds.map (·.2)) gg)
    (hf' : ∀ b, f' b = one a b + gg b) (hT : ∀ b, T b = f' b + T0 b)
    (back : ∀ F1 H1 k1 d1 f1 S1, Same F F1 → Same F1 H1 → (∀ a o, T0 a ≠ 0 → H a = some o → H1 a = some o) → Own G F1 H1 k1 (.ref a) d1 f1 → (∀ a, f1 a + T0 a ≤ 1) → (∀ a, F1 a ≠ none → f1 a + T0 a = 0) → g.put i (k1, d1) S = some S1 → St' G F1 H1 σ S1 (add f1 T0))
    (oe : Own G F H kk v d fe) (le : ∀ b, T b + fe b ≤ 1) (di : ∀ b, F b ≠ none → fe b = 0) (hn : (kk.isF || (keyAt kds (keyD kx)).isNone) = true) (es : g.put i (.dK kk, .dic (putD kds (keyD kx) d)) S = some S1) :
    ∃ T', St' G F (upd H a (.dK (putK kvs kx v))) σ S1 T' ∧ Step F H (add T fe) F (upd H a (.dK (putK kvs kx v))) T' := by
  have ga : gg a = 0 := by have := hf' a; have := hT a; have := st.le a; simp only [one, if_true] at *; omega
  have fa : fe a = 0 := by have := hf' a; have := hT a; have := le a; simp only [one, if_true] at *; omega
  have key : ∃ g', (putD kds (keyD kx) d).map (·.1) = (putK kvs kx v).map (fun p => keyD p.1) ∧ Owns G F H kk ((putK kvs kx v).map (·.2)) ((putD kds (keyD kx) d).map (·.2)) g' ∧ ∀ b, g' b ≤ gg b + fe b := by
    rcases Bool.or_eq_true_iff.mp hn with h | h
    · cases kk with
      | fz =>
        cases oe with
        | fz rv =>
          obtain ⟨rr, rfl⟩ := reps_fz r
          obtain ⟨h1, h2⟩ := put_rep hk rr kx rv
          exact ⟨nil0, h1, owns_fz h2, fun b => Nat.zero_le _⟩
      | _ => cases h
    · have e1 : (kds.any fun p => D.eqv p.1 (keyD kx)) = false := by
        unfold keyAt at h
        rw [Option.isNone_iff_eq_none, List.findIdx?_eq_none_iff] at h
        rw [List.any_eq_false]
        intro p hp
        rw [h p hp]; simp
      have e2 : (kvs.any fun kv => decide (kv.1 = kx)) = false := by rw [← put_any hk]; exact e1
      obtain ⟨g', r', l⟩ := r.app1 oe
      refine ⟨g', ?_, ?_, l⟩
      · unfold putD putK
        rw [e1, e2]
        simp only [Bool.false_eq_true, if_false, List.map_append, hk]
        rfl
      · unfold putD putK
        rw [e1, e2]
        simp only [Bool.false_eq_true, if_false, List.map_append]
        exact r'
  obtain ⟨g', h1, h2, l⟩ := key
  have ow : Own G F (upd H a (.dK (putK kvs kx v))) (.dK kk) (.ref a) (.dic (putD kds (keyD kx) d)) (add (one a) g') := by
    refine .dK upd_same h1 (h2.mono (Same.refl F) fun b u nb e => ?_)
    rw [upd_ne (fun q => by rw [q] at nb; have := l a; omega)]; exact e
  obtain ⟨x, y⟩ := put_core st hT (by rw [hf' a]; simp [one]) back le di ow (fun b => by have := l b; have := hf' b; simp only [add]; omega) es
  exact ⟨_, x, y⟩
theorem val_at {kvs : List (Key × V)} {kds : List (D × D)} {F : Hp} (hk : kds.map (·.1) = kvs.map (fun p => keyD p.1)) (r : Reps G F (kvs.map (·.2)) (kds.map (·.2))) (kk : Key) : match valD kds (keyD kk), valV kvs kk with
    | some d, some v => Rep G F v d
    | none, none => True
    | _, _ => False := by
  induction kvs generalizing kds with
  | nil => cases kds with
    | nil => exact trivial
    | cons a b => simp at hk
  | cons p q ih => cases kds with
    | nil => simp at hk
    | cons a b =>
      obtain ⟨h1, h2⟩ := List.cons.inj (show a.1 :: b.map (·.1) = keyD p.1 :: q.map (fun p => keyD p.1) from hk)
      cases r with
      | cons r1 r2 =>
        have := ih h2 r2
        unfold valD valV at this ⊢
        rw [List.find?_cons, List.find?_cons, h1, key_eqv]
        by_cases z : p.1 = kk
        · rw [decide_eq_true z]; exact r1
        · rw [decide_eq_false z]; exact this
end
end TB
namespace TB
open PySem L2
theorem AVs.app {G : Cfg} {F H : Hp} {σ : L2.St} {as bs : List AV} {vs ws : List V} {f g : Cnt} (h : AVs G F H σ as vs f) (r : AVs G F H σ bs ws g) : AVs G F H σ (as ++ bs) (vs ++ ws) (add f g) := by
  induction h with
  | nil =>
    have e : add nil0 g = g := by funext a; simp [add, nil0]
    show AVs G F H σ bs ws (add nil0 g)
    rw [e]; exact r
  | v r0 _ ih => exact .v r0 ih
  | @o _ _ _ _ f1 f2 hk o _ ih =>
    have : AVs G F H σ _ _ (add f1 (add f2 g)) := .o hk o ih
    have e : add f1 (add f2 g) = add (add f1 f2) g := by funext a; simp only [add]; omega
    exact e ▸ this
  | b x _ ih => exact .b x ih
theorem AVs.noT {G : Cfg} {F H : Hp} {σ : L2.St} {as : List AV} {vs : List V} {f : Cnt} (h : AVs G F H σ as vs f) (a : Addr) (n : f a ≠ 0) : ¬ TupAt (H a) := by
  induction h with
  | nil => exact absurd rfl n
  | v _ _ ih => exact ih n
  | @o _ _ _ _ f g _ o _ ih =>
    by_cases q : f a = 0
    · exact ih (by simp only [add] at n; omega)
    · exact o.noT a q
  | b _ _ ih => exact ih n
/-- constants as arguments -/
inductive Dfs (G : Cfg) : List V → List D → Prop
  | nil : Dfs G [] []
  | cons {v : V} {d : D} {vs : List V} {ds : List D} : (∀ F, Rep G F v d) → Dfs G vs ds → Dfs G (v :: vs) (d :: ds)
theorem Dfs.len {G : Cfg} : ∀ {vs : List V} {ds : List D}, Dfs G vs ds → vs.length = ds.length
  | _, _, .nil => rfl
  | _, _, .cons _ r => by simp [r.len]
section
end
section
variable {X : Cx} {G : Cfgx} {W : WX} {k : Nat} {F H : Hp} {σ : L2.St} {S : List Slot} {T : Cnt}
theorem pass_none {P : Program} {w : World} (X : Cx) : Passes (L2N.CX P w) X (fun _ _ _ => False) := fun pins σ H s e s' _ c => by
  obtain ⟨_, _, _, _, _, _, _, _, _, _, _, _, z⟩ := c
  exact z.elim
end
end TB
namespace TB
open PySem L2
section
variable {X : Cx} {G : Cfgx} {pins : List (Addr × Obj)} {σ : L2.St} {H : Hp} {s : Shared}
mutual
theorem nested_of (I : Inv X pins σ H s) (hK : X.K = G.K) : ∀ (k : NestedKey) (v : V) (u : Value), Rep G H v (nkD k) → RelV v u → NestedIs s.heap k u
  | .none, v, u, r, e => by
    simp only [nkD] at r
    cases r
    cases (show u = Value.none from e)
    exact .none
  | .num i, v, u, r, e => by
    simp only [nkD] at r
    cases r
    obtain ⟨t, rfl⟩ := (show ∃ t, u = Value.int i t from e)
    exact .int i t
  | .text z, v, u, r, e => by
    simp only [nkD] at r
    generalize hz : z.cps.toList = l at r
    cases r with
    | str z' =>
      have : z = z' := by
        cases z; cases z'
        have h := Array.toList_inj.mp hz
        simp at h
        rw [h]
      subst this
      obtain ⟨t, rfl⟩ := (show ∃ t, u = Value.str z t from e)
      exact .text z t
  | .tup ks, v, u, r, e => by
    simp only [nkD] at r
    cases r with
    | tup h rs =>
      obtain rfl : u = Value.ref _ := e
      obtain ⟨its, rv, ⟨o, ho, hc, n, hd⟩, _⟩ := I.tuple (by rw [hK]; exact h)
      exact .tup ho hc hd (by simpa using nesteds_of I hK ks _ _ rs rv)
theorem nesteds_of (I : Inv X pins σ H s) (hK : X.K = G.K) : ∀ (ks : List NestedKey) (vs : List V) (us : List Value), Reps G H vs (nkDs ks) → Vals vs us → NestedAll s.heap ks us
  | [], vs, us, r, e => by
    simp only [nkDs] at r
    cases r; cases e
    exact .nil
  | k :: ks, vs, us, r, e => by
    simp only [nkDs] at r
    cases r with
    | cons a b =>
      cases e with
      | cons c d => exact .cons (nested_of I hK k _ _ a c) (nesteds_of I hK ks _ _ b d)
end
abbrev NT := NestedKey × Addr × V
abbrev NRel : List NT → List (NestedKey × Addr × Value) → Prop := Paired fun p q => p.1 = q.1 ∧ p.2.1 = q.2.1 ∧ RelV p.2.2 q.2.2
theorem nrel_mem {xs : List NT} {us : List (NestedKey × Addr × Value)} (r : NRel xs us) : ∀ q ∈ us, ∃ p ∈ xs, p.1 = q.1 ∧ p.2.1 = q.2.1 := by
  induction r with
  | nil => intro q h; simp at h
  | cons a _ ih =>
    intro q h
    rcases List.mem_cons.mp h with rfl | h
    · exact ⟨_, List.mem_cons_self, a.1, a.2.1⟩
    · obtain ⟨p, hp, e⟩ := ih q h
      exact ⟨p, List.mem_cons_of_mem _ hp, e⟩
theorem nrel_len {xs : List NT} {us : List (NestedKey × Addr × Value)} (r : NRel xs us) : xs.length = us.length := Paired.length r
/-- the keys stand -/
def KeysAt (G : Cfg) (H : Hp) (xs : List NT) : Prop := ∀ x ∈ xs, Rep G H (.ref x.2.1) (nkD x.1)
theorem ndo_at (I : Inv X pins σ H s) (hK : X.K = G.K) (hw : X.w = G.w) {a : Addr} {xs : List NT} (e : Rd H a (NDO G.w a xs)) (hk : KeysAt G H xs) : (a == sysModules) = false ∧ xs.length ≤ sizeLine ∧ ∃ us, NRel xs us ∧ s.heap.DictOfH (nestedKind X.prog X.w) a us := by
  obtain ⟨⟨h1, h2, h3, us, r, o, es, ep, g1, g2, g3, g4, g5⟩, _, _⟩ := (show ObjOk X.prog X.w H s.heap a (NDO G.w a xs) from e.ok I.hok)
  refine ⟨h1, h2, us, r, o, es, ep, g1, g2, g3, ?_, fun q hq => ?_, g5⟩
  · rw [g4, hw]; rfl
  · obtain ⟨p, hp, e1, e2⟩ := nrel_mem r q hq
    have := nested_of I hK p.1 _ (.ref p.2.1) (hk p hp) rfl
    exact ⟨by rw [← e1, ← e2]; exact this, by rw [← e1]; exact h3 p hp⟩
end
end TB
namespace TB
open PySem L2
section
variable {G : Cfgx} {F : Hp}
theorem keysAt_of {xs : List NT} {kds : List (D × D)} (h : kds.map (·.1) = xs.map (fun x => nkD x.1)) (q : Reps G F (xs.map fun x => .ref x.2.1) (kds.map (·.1))) : KeysAt G F xs := by
  induction xs generalizing kds with
  | nil => intro x hx; simp at hx
  | cons x xs ih => cases kds with
    | nil => simp at h
    | cons p kds =>
      obtain ⟨h1, h2⟩ := List.cons.inj (show p.1 :: kds.map (·.1) = nkD x.1 :: xs.map (fun x => nkD x.1) from h)
      cases q with
      | cons q1 q2 =>
        intro y hy
        rcases List.mem_cons.mp hy with rfl | hy
        · rw [← h1]; exact q1
        · exact ih h2 q2 y hy
theorem keysAt_mono {F H : Hp} (e : Same F H) {xs : List NT} (h : KeysAt G F xs) : KeysAt G H xs := fun x hx => (h x hx).mono e
end
section
end
end TB
namespace TB
open PySem L2 PyProof.Rows
mutual
theorem reads_lt {h : Heap} : ∀ {v : Value} {d : PyData} {as : List Addr}, Reads h v d as → ∀ a ∈ as, a < h.objs.size
  | _, _, _, .none, a, m => by simp at m
  | _, _, _, .bool _, a, m => by simp at m
  | _, _, _, .int _ _, a, m => by simp at m
  | _, _, _, .str _ _, a, m => by simp at m
  | _, _, _, .list g _ _ r, a, m => by
    rcases List.mem_cons.mp m with rfl | m
    · exact Heap.lt_size g
    · exact readsAll_lt r a m
  | _, _, _, .tuple _ _ _ r, a, m => readsAll_lt r a m
  | _, _, _, .dict g _ _ r q, a, m => by
    rcases List.mem_append.mp m with m | m
    · rcases List.mem_cons.mp m with rfl | m
      · exact Heap.lt_size g
      · exact readsAll_lt r a m
    · exact readsAll_lt q a m
theorem readsAll_lt {h : Heap} : ∀ {vs : List Value} {ds : List PyData} {as : List Addr}, ReadsAll h vs ds as → ∀ a ∈ as, a < h.objs.size
  | _, _, _, .nil, a, m => by simp at m
  | _, _, _, .cons r q, a, m => by
    rcases List.mem_append.mp m with m | m
    · exact reads_lt r a m
    · exact readsAll_lt q a m
end
theorem each_imp {α β : Type} {R R' : α → β → Prop} (h : ∀ a b, R a b → R' a b) : ∀ {as : List α} {bs : List β}, PySem.W.EachIs R as bs → PySem.W.EachIs R' as bs
  | _, _, .nil => .nil
  | _, _, .cons a r => .cons (h _ _ a) (each_imp h r)
theorem nrel_refs {xs : List NT} {us : List (NestedKey × Addr × Value)} (r : NRel xs us) : Vals (xs.map fun x => V.ref x.2.1) (us.map fun y => Value.ref y.2.1) := by
  induction r with
  | nil => exact .nil
  | @cons p q _ _ a _ ih => exact .cons (show Value.ref q.2.1 = Value.ref p.2.1 by rw [a.2.1]) ih
section
variable {X : Cx} {G : Cfgx} {W : WX} {k : Nat} {F H : Hp} {σ : L2.St} {S : List Slot} {T : Cnt}
/-- sorted(d): its keys -/
def rSortedN (G : Cfg) (K : PySem.W.Frag) : List V → Hp → VK → Prop := fun vs H Q => ∃ (d : Addr) (xs : List NT) (bs : List (V × PyData)), vs = [V.ref d] ∧ Rd H d (NDO G.w d xs) ∧ KeysAt G H xs ∧ bs.map (·.1) = xs.map (fun x => V.ref x.2.1) ∧ (∀ b ∈ bs, Dp K H b.1 b.2) ∧ PySem.W.AllAlike (bs.map (·.2)) ∧ PySem.W.Sortable (bs.map (·.2)) ∧ (∀ b ∈ bs, b.2.depth ≤ 60) ∧
  ∀ p, H p = none → Q (.ref p) (upd H p (.lst ((bs.mergeSort (PySem.W.dataLe false (·.2))).map (·.1))))
theorem cr_sortedN (hK : X.K = G.K) (hw : X.w = G.w) (hr : Room k X.A) : CallR X (.builtin "sorted") (rSortedN G X.K) := by
  intro pins s σ H vs us Q I r ⟨d, xs, bs, e, ha, hk, he, hd, hal, hsk, hz, q⟩
  subst e
  obtain ⟨u, rfl, ru⟩ := vals1 r
  obtain rfl : u = Value.ref d := ru
  obtain ⟨h1, h2, us, rel, dd⟩ := ndo_at I hK hw ha hk
  obtain ⟨es, ep, raw, hs, het⟩ := dd.raw
  have hl : us.length = xs.length := (nrel_len rel).symm
  have rv : Vals (bs.map (·.1)) (us.map fun y => Value.ref y.2.1) := by rw [he]; exact nrel_refs rel
  have hun : X.A.units + 100 < cLine := by have := hr.un; omega
  refine Calls.call_function_entry kind_sorted plain_sorted entry_sorted (args_sorted1 _) ?_
  unfold Builtin.«sorted»
  refine wpAny_bind (m := checkCount "sorted" 1 1 _) (wpAny_pure ?_)
  refine wpAny_bind (PySem.W.kdu_collect (A := X.A.in1) (KdlSrc.rawDict h1) hr.hd raw (by rw [hs, hl]; exact h2) fun h' tk acc hk' hacc => ?_)
  have ea : acc.toList = us.map fun y => Value.ref y.2.1 := by
    refine List.ext_getElem? fun j => ?_
    rw [Array.getElem?_toList]
    cases ej : acc[j]? with
    | none =>
      rw [Array.getElem?_eq_none_iff] at ej
      rw [eq_comm, List.getElem?_eq_none_iff, List.length_map]
      rw [hacc.1, hs] at ej; exact ej
    | some v =>
      obtain ⟨hi, ev⟩ := hacc.2 j v ej
      obtain ⟨y, hy, g1, _, _⟩ := het j hi
      rw [List.getElem?_map, hy, ev, g1]; rfl
  refine wpAny_bind (wpAny_newList ?_ (by rw [ea, List.length_map, hl]; exact h2))
  rw [ea]
  have I1 : Inv X pins σ H { s with heap := h'.push { cls := .type "list", data := .seq (us.map fun y => Value.ref y.2.1).toArray }, toks := tk } :=
    I.kept (t' := tk) fun b o e => Heap.get?_push_of_some _ (hk' _ _ e)
  obtain ⟨e1, e2⟩ := dp_reads_each I rv hd
  have e3 : PySem.W.EachIs (fun u (b : V × PyData) => ∃ as, Reads (h'.push { cls := .type "list", data := .seq (us.map fun y => Value.ref y.2.1).toArray }) u b.2 as ∧ h'.objs.size ∉ as) (us.map fun y => Value.ref y.2.1) bs :=
    each_imp (fun u b ⟨as, r⟩ => ⟨as, PyProof.Rows.Reads.keeps (fun _ _ e => Heap.get?_push_of_some _ (hk' _ _ e)) r, fun m => by
      have r' := PyProof.Rows.Reads.keeps hk' r
      exact absurd (reads_lt r' _ m) (Nat.lt_irrefl _)⟩) e2
  have blen : bs.length = xs.length := by have := congrArg List.length he; simpa using this
  have ho : (h'.push { cls := .type "list", data := .seq (us.map fun y => Value.ref y.2.1).toArray }).get? h'.objs.size = some (seqObj "list" (us.map fun y => Value.ref y.2.1).toArray 0) := Heap.get?_push_size _ rfl
  refine wpAny_bind (wpAny_holding (PySem.W.list_sort_data (enc := fun b : V × PyData => b.2) (n := 0) ho e1 e3 hal hsk (by rw [blen]; exact h2) (fun b hb => by have := hz b hb; show X.A.units + 1 + 1 + _ < _; omega) fun out hout heach => ?_))
  obtain ⟨n, hn⟩ := sortedHeap_at (out := List.toArray out) ho
  have I0 : Inv X pins σ H { s with heap := h', toks := tk } := I.kept (t' := tk) hk'
  refine wpAny_pure ⟨_, rfl, .ref h'.objs.size, _, I0.laid (t' := tk) (a := h'.objs.size) (o := .lst ((bs.mergeSort (PySem.W.dataLe false (·.2))).map (·.1))) (fun b o g => ?_) (Nat.le_refl _) ⟨?_, out, n, vals_each heach, hn⟩, rfl, q _ (I0.hok.fresh (Nat.le_refl _))⟩
  · rw [sortedHeap_old (Nat.ne_of_lt (Heap.lt_size g)) (by rw [size_push']; exact Nat.lt_succ_of_lt (Heap.lt_size g))]
    exact Heap.get?_push_of_some _ g
  · rw [List.length_map, List.length_mergeSort, blen]
    exact h2
theorem sn_sortN (hK : X.K = G.K) : SN G (rSortedN G X.K) fSortN1 := fun F H σ S T xs ds kd Q st rs e k => by
  rcases rs with _ | ⟨r1, _ | ⟨r2, r3⟩⟩
  · simp [fSortN1] at e
  · cases r1 <;> simp only [fSortN1, fSortN, reduceCtorEq] at e
    rename_i d nts kds hl hk hq hv
    split at e
    · rename_i hz
      cases e
      have sub := st.sub
      have hsort := hz
      unfold sortOk at hz
      obtain ⟨hz, h3⟩ := Bool.and_eq_true_iff.mp hz
      obtain ⟨h1, h2⟩ := Bool.and_eq_true_iff.mp hz
      have hlen : (nts.map fun x => V.ref x.2.1).length = (kds.map (·.1)).length := hq.len
      have e1 : (((nts.map fun x => V.ref x.2.1).zip (kds.map (·.1))).map fun p => (p.1, toPy p.2)).map (·.1) = nts.map fun x => V.ref x.2.1 := by
        rw [List.map_map]; exact zip_fst hlen
      have e2 : (((nts.map fun x => V.ref x.2.1).zip (kds.map (·.1))).map fun p => (p.1, toPy p.2)).map (·.2) = (kds.map (·.1)).map toPy := by
        have : (((nts.map fun x => V.ref x.2.1).zip (kds.map (·.1))).map fun p => (p.1, toPy p.2)).map (·.2) = (((nts.map fun x => V.ref x.2.1).zip (kds.map (·.1))).map (·.2)).map toPy := by rw [List.map_map, List.map_map]; rfl
        rw [this, zip_snd hlen]
      have hz := zip_reps (hq.mono sub)
      refine ⟨d, nts, ((nts.map fun x => V.ref x.2.1).zip (kds.map (·.1))).map fun p => (p.1, toPy p.2), rfl, same_rd sub hl, keysAt_mono sub (keysAt_of hk hq), e1, ?_, ?_, ?_, ?_, fun p hp => ?_⟩
      · intro b hb
        obtain ⟨p, hp, rfl⟩ := List.mem_map.mp hb
        rw [hK]
        exact dp_of 60 p.2 p.1 (lays_mem h3 _ (mem_zip_snd hp)) (hz p hp)
      · rw [e2]
        intro d hd d' hd'
        obtain ⟨x, hx, rfl⟩ := List.mem_map.mp hd
        obtain ⟨y, hyy, rfl⟩ := List.mem_map.mp hd'
        exact alk_py x y (alkAll_ok h2 x hx y hyy)
      · rw [e2]
        refine .inl fun d hd => ?_
        obtain ⟨x, hx, rfl⟩ := List.mem_map.mp hd
        have := List.all_eq_true.mp h1 x hx
        cases x with
        | tup xs =>
          cases xs with
          | nil => simp [D.isTup1] at this
          | cons x xs => exact ⟨toPy x, toPys xs, by simp only [toPy, toPys]⟩
        | _ => simp [D.isTup1] at this
      · intro b hb
        obtain ⟨p, hp, rfl⟩ := List.mem_map.mp hb
        exact (lay_py 60 p.2 (lays_mem h3 _ (mem_zip_snd hp))).2
      · have m1 : (((nts.map fun x => V.ref x.2.1).zip (kds.map (·.1))).mergeSort fun p q => leD p.2 q.2).map (fun p => (p.1, toPy p.2)) = (((nts.map fun x => V.ref x.2.1).zip (kds.map (·.1))).map fun p => (p.1, toPy p.2)).mergeSort (PySem.W.dataLe false (·.2)) := by
          refine List.map_mergeSort fun p hp q hq => ?_
          rw [PySem.W.dataLe_eq]
          show leD p.2 q.2 = !PySem.W.dataLt (toPy q.2) (toPy p.2)
          rw [lt_py 60 60 q.2 p.2 (alkAll_ok h2 _ (mem_zip_snd hq) _ (mem_zip_snd hp)) (lays_mem h3 _ (mem_zip_snd hq)) (lays_mem h3 _ (mem_zip_snd hp))]
          rfl
        have m2 : (((nts.map fun x => V.ref x.2.1).zip (kds.map (·.1))).mergeSort fun p q => leD p.2 q.2).map (·.2) = sortD (kds.map (·.1)) := by
          have := List.map_mergeSort (r := fun p q : V × D => leD p.2 q.2) (s := leD) (f := (·.2)) (l := (nts.map fun x => V.ref x.2.1).zip (kds.map (·.1))) fun p hp q hq => rfl
          rw [this, zip_snd hlen]; rfl
        have m3 : ((((nts.map fun x => V.ref x.2.1).zip (kds.map (·.1))).map fun p => (p.1, toPy p.2)).mergeSort (PySem.W.dataLe false (·.2))).map (·.1) = (((nts.map fun x => V.ref x.2.1).zip (kds.map (·.1))).mergeSort fun p q => leD p.2 q.2).map (·.1) := by
          rw [← m1, List.map_map]; rfl
        rw [m3]
        refine KE.newL k st ?_ p hp
        rw [← m2]
        exact reps_zip fun p hp => zip_reps hq p ((List.mergeSort_perm _ _).mem_iff.mp hp)
    · cases e
  · cases r1 <;> simp [fSortN1] at e
end
end TB
namespace TB
open PySem PySem.W PySem.Calls PyProof.Rows PySem.SeqAt
mutual
theorem toks_same : ∀ (x y : PyData), PyData.eqv x y = true → keyToks x = keyToks y
  | .none, y, h => by cases y <;> first | rfl | (simp [PyData.eqv] at h)
  | .bool a, y, h => by
    cases y with
    | bool b => have e : a = b := by simpa [PyData.eqv] using h
                rw [e]
    | int j => have e : (if a = true then 1 else 0 : Int) = j := by simpa [PyData.eqv] using h
               simp only [keyToks]; rw [e]
    | _ => simp [PyData.eqv] at h
  | .int i, y, h => by
    cases y with
    | bool b => have e : i = (if b = true then 1 else 0 : Int) := by simpa [PyData.eqv] using h
                simp only [keyToks]; rw [e]
    | int j => have e : i = j := by simpa [PyData.eqv] using h
               rw [e]
    | _ => simp [PyData.eqv] at h
  | .str a, y, h => by
    cases y with
    | str b => have e : a = b := by simpa [PyData.eqv] using h
               rw [e]
    | _ => simp [PyData.eqv] at h
  | .list xs, y, h => by
    cases y with
    | list ys => simp only [keyToks]; exact toks_sames xs ys (by simpa [PyData.eqv] using h)
    | _ => simp [PyData.eqv] at h
  | .tuple xs, y, h => by
    cases y with
    | tuple ys => simp only [keyToks]; exact toks_sames xs ys (by simpa [PyData.eqv] using h)
    | _ => simp [PyData.eqv] at h
  | .dict _, y, h => by cases y <;> simp [PyData.eqv] at h
theorem toks_sames : ∀ (xs ys : List PyData), PyData.eqvAll xs ys = true → keyToksAll xs = keyToksAll ys
  | [], [], _ => rfl
  | [], _ :: _, h => by simp [PyData.eqvAll] at h
  | _ :: _, [], h => by simp [PyData.eqvAll] at h
  | x :: xs, y :: ys, h => by
    rw [eqv_all_cons] at h
    obtain ⟨h1, h2⟩ := Bool.and_eq_true_iff.mp h
    rw [toks_all_cons, toks_all_cons, toks_same x y h1, toks_sames xs ys h2]
end
/-- comparable: of one kind up to the first place that differs -/
def wks : List PyData → List PyData → Bool
  | x :: xs, y :: ys => if PyData.eqv x y = true then wks xs ys else alike x y
  | _, _ => true
/-- what can be sorted so: tuples, their first places alike, no tuples, each two comparable -/
structure WkAll (ds : List PyData) : Prop where
  tup : ∀ d ∈ ds, ∃ x r, d = .tuple (x :: r) ∧ (∀ xs, x ≠ .tuple xs)
  head : ∀ d ∈ ds, ∀ e ∈ ds, ∀ x r y t, d = .tuple (x :: r) → e = .tuple (y :: t) → alike x y = true
  wk : ∀ d ∈ ds, ∀ e ∈ ds, ∀ xs ys, d = .tuple xs → e = .tuple ys → wks xs ys = true
  lay : ∀ d ∈ ds, d.canLay0 = true
theorem toks_yes {x y : PyData} {xs ys : List PyData} (e : PyData.eqv x y = true) : PyProof.Rows.lexLt itemOrd (keyToksAll (x :: xs)) (keyToksAll (y :: ys)) = PyProof.Rows.lexLt itemOrd (keyToksAll xs) (keyToksAll ys) := by
  rw [toks_all_cons, toks_all_cons, toks_same x y e, lex_self (O := itemOrd), lex_pre]
section
variable {prog : Program} {w : World} {A : Around} {s : Shared}
theorem kat_wk {b fin : Bool} {Q : Bool → Shared → Prop} : ∀ (xs ys : List PyData) (i : Nat) (vs us : List Value) (as bs : List Addr), ReadsAll s.heap vs xs as → ReadsAll s.heap us ys bs → wks xs ys = true → PyData.canLayAll0 xs = true → PyData.canLayAll0 ys = true →
    A.units + min (PyData.depthAll xs) (PyData.depthAll ys) < cLine → (b = true → i = 0 → ∀ x r t, xs = x :: r → x ≠ .tuple t) → fin = decide (xs.length < ys.length) → Q (PyProof.Rows.lexLt itemOrd (keyToksAll xs) (keyToksAll ys)) s → KatLex prog w A b fin Q (vs.zip us) i s := by
  intro xs
  induction xs with
  | nil =>
    intro ys i vs us as bs ra rb _ _ _ _ _ hf q
    cases ra
    rw [List.zip_nil_left]
    cases ys with
    | nil =>
      rw [lex_irrefl] at q
      exact kat_nil (by rw [hf]; exact q)
    | cons y ys =>
      rw [toks_all_cons] at q
      simp only [keyToksAll] at q
      rw [lex_diff (O := itemOrd) (by simp)] at q
      exact kat_nil (by rw [hf]; simpa [itemLt] using q)
  | cons x xs ih =>
    intro ys i vs us as bs ra rb hw l1 l2 hu hb hf q
    cases ys with
    | nil =>
      cases rb
      rw [toks_all_cons] at q
      simp only [keyToksAll] at q
      rw [lex_diff (O := itemOrd) (by simp)] at q
      rw [List.zip_nil_right]
      exact kat_nil (by rw [hf]; simpa [itemLt] using q)
    | cons y ys =>
      cases ra with
      | cons r rs =>
        cases rb with
        | cons r2 rs2 =>
          have m1 : x.canLay0 = true ∧ PyData.canLayAll0 xs = true := by simpa [PyData.canLayAll0] using l1
          have m2 : y.canLay0 = true ∧ PyData.canLayAll0 ys = true := by simpa [PyData.canLayAll0] using l2
          rw [List.zip_cons_cons]
          refine kat_cons (SeqAt.eqAt_reads x y A s _ _ _ _ r r2 m1.1 m2.1 (room_head hu) prog w _ _ ?_)
          cases hx : PyData.eqv x y with
          | true =>
            rw [toks_yes hx] at q
            have hw2 : wks xs ys = true := by unfold wks at hw; rw [if_pos hx] at hw; exact hw
            exact kat_yes (ih ys (i + 1) _ _ _ _ rs rs2 hw2 m1.2 m2.2 (room_tail hu) (fun _ z => absurd z (Nat.succ_ne_zero i)) (by rw [hf]; simp) q)
          | false =>
            have ha : alike x y = true := by unfold wks at hw; rw [if_neg (by rw [hx]; exact Bool.false_ne_true)] at hw; exact hw
            rw [dataLt_all_no ha hx] at q
            refine kat_no (oneLt_alike (fun hbi t => ?_) r r2 ha (ne_none_of ha hx) (room_head hu) q)
            rw [Bool.and_eq_true] at hbi
            exact hb hbi.1 (by simpa using hbi.2) x xs t rfl
theorem kind_some {h : Heap} {ds : List PyData} (hl : ∀ d ∈ ds, d.canLay0 = true) {v : Value} {d : PyData} {as : List Addr} (hd : d ∈ ds) (r : Reads h v d as) : (dataKind h ds).keyOf v = some (keyToks d) := by
  have ex : ∃ d, d ∈ ds ∧ ∃ as, Reads h v d as := ⟨d, hd, as, r⟩
  have e : (dataKind h ds).keyOf v = some (keyToks ex.choose) := by
    unfold dataKind
    simp only [dif_pos ex]
  obtain ⟨h1, as2, h2⟩ := ex.choose_spec
  rw [e, SeqAt.Reads.unique _ _ _ _ _ (hl _ h1) h2 r]
theorem sorts_wk {vs : List Value} {ds : List PyData} (e : EachIs (fun v d => ∃ as, Reads s.heap v d as) vs ds) (W : WkAll ds) (hu : ∀ d ∈ ds, A.units + d.depth < cLine) : SortsAt prog w A s (dataKind s.heap ds) vs := by
  refine ⟨fun v hv => ?_, ?_⟩
  · obtain ⟨d, hd, as, r⟩ := e.left v hv
    exact ⟨_, kind_some W.lay hd r⟩
  · cases ds with
    | nil =>
      cases e
      refine ⟨general', fun E x y a b Q ha _ _ => ?_, fun h2 => absurd h2 (by simp)⟩
      obtain ⟨d, _, hd, _⟩ := dataKind_inv ha
      cases hd
    | cons d0 ds0 =>
      obtain ⟨x0, r0, e0, nt⟩ := W.tup d0 List.mem_cons_self
      have first : ∀ x r, PyData.tuple (x :: r) ∈ d0 :: ds0 → alike x x0 = true := fun x r m => W.head _ m _ List.mem_cons_self x r x0 r0 rfl e0
      refine ⟨tuples' (dataType x0 != Value.type "tuple"), fun E x y a b Q ha hb q => ?_, fun h2 E Q q => ?_⟩
      · obtain ⟨d, as, hd, ra, rfl⟩ := dataKind_inv ha
        obtain ⟨d2, as2, hd2, rb, rfl⟩ := dataKind_inv hb
        obtain ⟨x1, r1, rfl, n1⟩ := W.tup d hd
        obtain ⟨x2, r2, rfl, n2⟩ := W.tup d2 hd2
        have q : Q (dataLt (.tuple (x1 :: r1)) (.tuple (x2 :: r2))) s := q
        rw [dataLt_tuple] at q
        have l1 : PyData.canLayAll0 (x1 :: r1) = true := by have := W.lay _ hd; simpa [PyData.canLay0] using this
        have l2 : PyData.canLayAll0 (x2 :: r2) = true := by have := W.lay _ hd2; simpa [PyData.canLay0] using this
        have room : A.units + min (PyData.tuple (x1 :: r1)).depth (PyData.tuple (x2 :: r2)).depth < cLine := Nat.lt_of_le_of_lt (Nat.add_le_add_left (Nat.min_le_left _ _) _) (hu _ hd)
        cases ra with
        | @tuple l o xs n _ _ h1 h2 h3 h4 =>
          cases rb with
          | @tuple l' o' xs' n' _ _ k1 k2 k3 k4 =>
            have z1 : xs.size = (x1 :: r1).length := by simpa using SeqAt.ReadsAll.length _ _ _ h4
            have z2 : xs'.size = (x2 :: r2).length := by simpa using SeqAt.ReadsAll.length _ _ _ k4
            refine kat_lt h1 h3 k1 k3 (kat_wk (x1 :: r1) (x2 :: r2) 0 _ _ _ _ h4 k4 (W.wk _ hd _ hd2 _ _ rfl rfl) l1 l2 (by have := SeqAt.room_in room; omega) (fun _ _ x r t ex => ?_) (by rw [z1, z2]) q)
            cases ex
            exact n1 t
      · obtain ⟨fs, t1, t2, t3⟩ := each_katTups e fun d hd => by
          obtain ⟨x, r, e, _⟩ := W.tup d hd
          exact ⟨x, r, e⟩
        refine kat_kind (T := dataType x0) t1 (by omega) (fun f hf => ?_) (beq_self_eq_true _) q
        obtain ⟨x, r, as, m1, m2⟩ := t3 f hf
        rw [← dataType_alike (first x r m1)]
        exact looks_reads m2
end
theorem vals_wk {β : Type} {h : Heap} {R : Value → β → Prop} {enc : β → PyData} {vs : List Value} {bs : List β} (e : EachIs R vs bs) (er : EachIs (fun v b => ∃ as, Reads h v (enc b) as) vs bs) (W : WkAll (bs.map enc)) :
    EachIs R (sortVals (dataKind h (bs.map enc)) false vs vs) (bs.mergeSort (dataLe false enc)) := by
  have ek : EachIs (fun v d => (dataKind h (bs.map enc)).keyOf v = some (keyToks d)) vs (bs.map enc) := (each_mem (each_map (R := fun v d => ∃ as, Reads h v d as) enc er)).mono fun v d ⟨⟨as, r⟩, hd⟩ => kind_some W.lay hd r
  exact sortVals_each (κ := dataKind h (bs.map enc)) (fun b => keyToks (enc b)) e (each_of_map enc ek)
section
variable {prog : Program} {w : World} {A : Around} {E : Value → Shared → Prop} {s : Shared} {β : Type} {vs : List Value} {bs : List β} {enc : β → PyData} {R : Value → β → Prop}
theorem sorted_wk {l : Addr} {Q : Value → Shared → Prop} (hl : s.heap.IsList l vs.toArray) (e : EachIs R vs bs) (er : EachIs (fun v b => ∃ as, Reads s.heap v (enc b) as) vs bs) (W : WkAll (bs.map enc)) (hL : bs.length ≤ sizeLine)
    (hu : ∀ b ∈ bs, A.units + 2 + (enc b).depth < cLine) (fin : ∀ out, out.length = bs.length → EachIs R out (bs.mergeSort (dataLe false enc)) → Q (.ref (s.heap.objs.size + 1)) { s with heap := sortedAll s.heap vs (List.toArray out) }) :
    wpAny (model prog w) A (call (.builtin "sorted") [.ref l]) Q E s := by
  have er2 : EachIs (fun v b => ∃ as, Reads (sortingHeap (copyHeap s.heap vs) (s.heap.objs.size + 1) vs) v (enc b) as) vs bs := er.mono fun _ _ ⟨as, r⟩ => ⟨as, PyProof.Rows.Reads.keeps (fun _ _ => sorting_copy_old) r⟩
  have S : SortsAt prog w A.in1.in1 { s with heap := sortingHeap (copyHeap s.heap vs) (s.heap.objs.size + 1) vs } (dataKind (sortingHeap (copyHeap s.heap vs) (s.heap.objs.size + 1) vs) (bs.map enc)) vs :=
    sorts_wk (s := { s with heap := sortingHeap (copyHeap s.heap vs) (s.heap.objs.size + 1) vs }) (each_map (R := fun v d => ∃ as, Reads (sortingHeap (copyHeap s.heap vs) (s.heap.objs.size + 1) vs) v d as) enc er2) W fun d hd => by
      obtain ⟨b, hb, rfl⟩ := List.mem_map.mp hd
      exact hu b hb
  exact sorted_vals hl S (by rw [e.length]; exact hL) (fin _ (by rw [sortVals_length false rfl]; exact e.length) (vals_wk e er2 W))
theorem list_sort_wk {a : Addr} {n : Nat} {Q : Value → Shared → Prop} (ho : s.heap.get? a = some (seqObj "list" vs.toArray n)) (e : EachIs R vs bs) (er : EachIs (fun v b => ∃ as, Reads (sortingHeap s.heap a vs) v (enc b) as) vs bs) (W : WkAll (bs.map enc)) (hL : bs.length ≤ sizeLine)
    (hu : ∀ b ∈ bs, A.units + 1 + (enc b).depth < cLine) (fin : ∀ out, out.length = bs.length → EachIs R out (bs.mergeSort (dataLe false enc)) → Q .none { s with heap := sortedHeap s.heap a vs (List.toArray out) }) :
    wpAny (model prog w) A (call (.builtin "list.sort") [.ref a]) Q E s := by
  have S : SortsAt prog w A.in1 { s with heap := sortingHeap s.heap a vs } (dataKind (sortingHeap s.heap a vs) (bs.map enc)) vs :=
    sorts_wk (s := { s with heap := sortingHeap s.heap a vs }) (each_map (R := fun v d => ∃ as, Reads (sortingHeap s.heap a vs) v d as) enc er) W fun d hd => by
      obtain ⟨b, hb, rfl⟩ := List.mem_map.mp hd
      exact hu b hb
  refine wpAny_call_entry slot_list_sort ⟨_, ho, rfl⟩ entry_list_sort (list_sort_vals ho S (by rw [e.length]; exact hL) ⟨.none, rfl, ?_⟩) (args_list_sort _)
  exact fin _ (by rw [sortVals_length false rfl]; exact e.length) (vals_wk e er W)
end
end TB
namespace TB
open PySem PySem.W PySem.Calls PyProof.Rows PySem.SeqAt
open AutoSeq1 (wpAny_loadPart')
open MeetsSeq MeetsSeq2 MeetsSeq3 SeqRoads2
end TB
namespace TB
open PySem L2 PyProof.Rows
theorem lts_wk : ∀ (xs ys : List D) (n m : Nat), wkDs xs ys = true → D.lays n xs = true → D.lays m ys = true → PyProof.Rows.lexLt itemOrd (PySem.W.keyToksAll (toPys xs)) (PySem.W.keyToksAll (toPys ys)) = D.lts xs ys
  | [], [], _, _, _, _, _ => by simp [toPys, PySem.W.keyToksAll, D.lts, PyProof.Rows.lex_irrefl]
  | [], y :: ys, _, _, _, _, _ => by
    simp only [toPys, PySem.W.keyToksAll, D.lts]
    exact (PyProof.Rows.lex_diff (O := itemOrd) (by decide)).trans (by decide)
  | x :: xs, [], _, _, _, _, _ => by
    simp only [toPys, PySem.W.keyToksAll, D.lts]
    exact (PyProof.Rows.lex_diff (O := itemOrd) (by decide)).trans (by decide)
  | x :: xs, y :: ys, n, m, h, hx, hy => by
    unfold D.lays at hx hy
    obtain ⟨a1, a2⟩ := Bool.and_eq_true_iff.mp hx
    obtain ⟨b1, b2⟩ := Bool.and_eq_true_iff.mp hy
    have ee := eqv_py n m x y a1 b1
    simp only [toPys, D.lts]
    unfold wkDs at h
    by_cases z : D.eqv x y = true
    · rw [if_pos z] at h
      rw [if_pos z, toks_yes (by rw [ee]; exact z)]
      exact lts_wk xs ys n m h a2 b2
    · rw [if_neg z] at h
      have z2 : D.eqv x y = false := by simpa using z
      rw [if_neg z, PySem.W.dataLt_all_no (alk_py x y h) (by rw [ee]; exact z2)]
      exact lt_py n m x y h a1 b1
theorem wks_py : ∀ (xs ys : List D) (n m : Nat), wkDs xs ys = true → D.lays n xs = true → D.lays m ys = true → wks (toPys xs) (toPys ys) = true
  | [], _, _, _, _, _, _ => by simp [toPys, wks]
  | _ :: _, [], _, _, _, _, _ => by simp [toPys, wks]
  | x :: xs, y :: ys, n, m, h, hx, hy => by
    unfold D.lays at hx hy
    obtain ⟨a1, a2⟩ := Bool.and_eq_true_iff.mp hx
    obtain ⟨b1, b2⟩ := Bool.and_eq_true_iff.mp hy
    have ee := eqv_py n m x y a1 b1
    unfold wkDs at h
    simp only [toPys]
    unfold wks
    by_cases z : D.eqv x y = true
    · rw [if_pos z] at h
      rw [if_pos (by rw [ee]; exact z)]
      exact wks_py xs ys n m h a2 b2
    · rw [if_neg z] at h
      rw [if_neg (by rw [ee]; exact z)]
      exact alk_py x y h
theorem tupH_cons {d : D} (h : d.isTupH = true) : ∃ x xs, d = .tup (x :: xs) ∧ ∀ ys, toPy x ≠ .tuple ys := by
  cases d with
  | tup xs =>
    cases xs with
    | nil => simp [D.isTupH] at h
    | cons x xs =>
      refine ⟨x, xs, rfl, ?_⟩
      cases x <;> first | exact absurd h Bool.false_ne_true | (intro ys q; cases q)
  | _ => simp [D.isTupH] at h
theorem wk_lays {xs : List D} (h : (D.tup xs).lay 60 = true) : D.lays 59 xs = true := by simpa [D.lay] using h
theorem wkall_of {ds : List D} (h : sortWk ds = true) : WkAll (ds.map toPy) ∧ D.lays 60 ds = true ∧ ∀ x ∈ ds, ∀ y ∈ ds, PySem.W.dataLt (toPy x) (toPy y) = D.lt x y := by
  unfold sortWk at h
  obtain ⟨h, h3⟩ := Bool.and_eq_true_iff.mp h
  obtain ⟨h1, h2⟩ := Bool.and_eq_true_iff.mp h
  have tp : ∀ d ∈ ds, ∃ x xs, d = .tup (x :: xs) ∧ ∀ ys, toPy x ≠ .tuple ys := fun d hd => tupH_cons (List.all_eq_true.mp h1 d hd)
  have pw : ∀ d ∈ ds, ∀ e ∈ ds, wkD d e = true := fun d hd e he => List.all_eq_true.mp (List.all_eq_true.mp h2 d hd) e he
  refine ⟨⟨fun d hd => ?_, fun d hd e he x r y t q1 q2 => ?_, fun d hd e he xs ys q1 q2 => ?_, fun d hd => ?_⟩, h3, fun x hx y hy => ?_⟩
  · obtain ⟨a, ha, rfl⟩ := List.mem_map.mp hd
    obtain ⟨x, xs, rfl, nt⟩ := tp a ha
    exact ⟨toPy x, toPys xs, by simp only [toPy, toPys], nt⟩
  · obtain ⟨a, ha, rfl⟩ := List.mem_map.mp hd
    obtain ⟨b, hb, rfl⟩ := List.mem_map.mp he
    obtain ⟨x1, xs1, rfl, _⟩ := tp a ha
    obtain ⟨y1, ys1, rfl, _⟩ := tp b hb
    simp only [toPy, toPys, PyData.tuple.injEq, List.cons.injEq] at q1 q2
    rw [← q1.1, ← q2.1]
    have := pw _ ha _ hb
    unfold wkD at this
    exact alk_py _ _ (Bool.and_eq_true_iff.mp this).1
  · obtain ⟨a, ha, rfl⟩ := List.mem_map.mp hd
    obtain ⟨b, hb, rfl⟩ := List.mem_map.mp he
    obtain ⟨x1, xs1, rfl, _⟩ := tp a ha
    obtain ⟨y1, ys1, rfl, _⟩ := tp b hb
    have e1 : toPys (x1 :: xs1) = xs := by simpa [toPy] using q1
    have e2 : toPys (y1 :: ys1) = ys := by simpa [toPy] using q2
    rw [← e1, ← e2]
    have := pw _ ha _ hb
    unfold wkD at this
    exact wks_py _ _ 59 59 (Bool.and_eq_true_iff.mp this).2 (wk_lays (lays_mem h3 _ ha)) (wk_lays (lays_mem h3 _ hb))
  · obtain ⟨a, ha, rfl⟩ := List.mem_map.mp hd
    exact (lay_py 60 a (lays_mem h3 _ ha)).1
  · obtain ⟨x1, xs1, rfl, _⟩ := tp x hx
    obtain ⟨y1, ys1, rfl, _⟩ := tp y hy
    have := pw _ hx _ hy
    unfold wkD at this
    show PySem.W.dataLt (.tuple (toPys _)) (.tuple (toPys _)) = D.lts _ _
    rw [PySem.W.dataLt_tuple]
    exact lts_wk _ _ 59 59 (Bool.and_eq_true_iff.mp this).2 (wk_lays (lays_mem h3 _ hx)) (wk_lays (lays_mem h3 _ hy))
section
variable {X : Cx} {G : Cfgx} {W : WX} {k : Nat} {F H : Hp} {σ : L2.St} {S : List Slot} {T : Cnt}
def rSortedW (K : PySem.W.Frag) : List V → Hp → VK → Prop := fun vs H Q => ∃ (a : Addr) (bs : List (V × PyData)), vs = [V.ref a] ∧ SqL K H a (bs.map (·.1)) ∧ (∀ b ∈ bs, Dp K H b.1 b.2) ∧ WkAll (bs.map (·.2)) ∧ (∀ b ∈ bs, b.2.depth ≤ 60) ∧
  ∀ p, H p = none → Q (.ref p) (upd H p (.lst ((bs.mergeSort (PySem.W.dataLe false (·.2))).map (·.1))))
theorem cr_sortedW {X : Cx} (hu : X.A.units + 64 < cLine) : CallR X (.builtin "sorted") (rSortedW X.K) := by
  intro pins s σ H vs us Q I r ⟨a, bs, e, hs, hd, hw, hz, q⟩
  subst e
  obtain ⟨its, rv, hl, hzl⟩ := I.list hs
  obtain ⟨u, rfl, ru⟩ := vals1 r
  obtain rfl : u = Value.ref a := ru
  obtain ⟨e1, e2⟩ := dp_reads_each I rv hd
  have hlen : bs.length ≤ sizeLine := by simpa using hzl
  refine sorted_wk (enc := fun b : V × PyData => b.2) hl.isList e1 e2 hw hlen (fun b hb => by have := hz b hb; omega) fun out ho he => ?_
  obtain ⟨n, hn⟩ := sortedAll_at s.heap its (List.toArray out)
  exact ⟨.ref (s.heap.objs.size + 1), _, I.laid (t' := s.toks) (o := .lst ((bs.mergeSort (PySem.W.dataLe false (·.2))).map (·.1))) (fun b o e => sortedAll_old e) (Nat.le_succ _) ⟨by rw [List.length_map, List.length_mergeSort]; exact hlen, out, n, vals_each he, hn⟩, rfl, q _ (I.hok.fresh (Nat.le_succ _))⟩
/-- the items, their data -/
theorem zip_core (hK : X.K = G.K) {xs : List V} {ds : List D} {Q : VK} (st : St' G F H σ S T) (rs : Reps G F xs ds) (h : sortWk ds = true) (k : KE G F H σ T Q (.li .fz, .lst (sortD ds)) S) :
    ∃ bs : List (V × PyData), bs.map (·.1) = xs ∧ (∀ b ∈ bs, Dp X.K H b.1 b.2) ∧ WkAll (bs.map (·.2)) ∧ (∀ b ∈ bs, b.2.depth ≤ 60) ∧ ∀ p, H p = none → Q (.ref p) (upd H p (.lst ((bs.mergeSort (PySem.W.dataLe false (·.2))).map (·.1)))) := by
  obtain ⟨wk, ly, lt⟩ := wkall_of h
  have hlen : xs.length = ds.length := rs.len
  have e1 : ((xs.zip ds).map fun p => (p.1, toPy p.2)).map (·.1) = xs := by rw [List.map_map]; exact zip_fst hlen
  have e2 : ((xs.zip ds).map fun p => (p.1, toPy p.2)).map (·.2) = ds.map toPy := by
    have : ((xs.zip ds).map fun p => (p.1, toPy p.2)).map (·.2) = ((xs.zip ds).map (·.2)).map toPy := by rw [List.map_map, List.map_map]; rfl
    rw [this, zip_snd hlen]
  have hz := zip_reps (rs.mono st.sub)
  refine ⟨(xs.zip ds).map fun p => (p.1, toPy p.2), e1, fun b hb => ?_, by rw [e2]; exact wk, fun b hb => ?_, fun p hp => ?_⟩
  · obtain ⟨p, hp, rfl⟩ := List.mem_map.mp hb
    rw [hK]
    exact dp_of 60 p.2 p.1 (lays_mem ly _ (mem_zip_snd hp)) (hz p hp)
  · obtain ⟨p, hp, rfl⟩ := List.mem_map.mp hb
    exact (lay_py 60 p.2 (lays_mem ly _ (mem_zip_snd hp))).2
  · have m1 : ((xs.zip ds).mergeSort fun p q => leD p.2 q.2).map (fun p => (p.1, toPy p.2)) = ((xs.zip ds).map fun p => (p.1, toPy p.2)).mergeSort (PySem.W.dataLe false (·.2)) := by
      refine List.map_mergeSort fun p hp q hq => ?_
      rw [PySem.W.dataLe_eq]
      show leD p.2 q.2 = !PySem.W.dataLt (toPy q.2) (toPy p.2)
      rw [lt _ (mem_zip_snd hq) _ (mem_zip_snd hp)]; rfl
    have m2 : ((xs.zip ds).mergeSort fun p q => leD p.2 q.2).map (·.2) = sortD ds := by
      have := List.map_mergeSort (r := fun p q : V × D => leD p.2 q.2) (s := leD) (f := (·.2)) (l := xs.zip ds) fun p hp q hq => rfl
      rw [this, zip_snd hlen]; rfl
    have m3 : (((xs.zip ds).map fun p => (p.1, toPy p.2)).mergeSort (PySem.W.dataLe false (·.2))).map (·.1) = ((xs.zip ds).mergeSort fun p q => leD p.2 q.2).map (·.1) := by
      rw [← m1, List.map_map]; rfl
    rw [m3]
    refine KE.newL k st ?_ p hp
    rw [← m2]
    exact reps_zip fun p hp => zip_reps rs p ((List.mergeSort_perm _ _).mem_iff.mp hp)
theorem sn_sortW (hK : X.K = G.K) : SN G (rSortedW X.K) fSortW := fun F H σ S T xs ds kd Q st rs e k => by
  rcases rs with _ | ⟨r1, _ | ⟨r2, r3⟩⟩
  · simp [fSortW] at e
  · cases r1 <;> simp only [fSortW, reduceCtorEq] at e
    rename_i a ys as hl ra
    split at e
    · rename_i hz
      cases e
      obtain ⟨bs, b1, b2, b3, b4, b5⟩ := zip_core hK st ra hz.1 k
      exact ⟨a, bs, rfl, by rw [b1]; exact .inl (.inl (st.sub _ _ hl)), b2, b3, b4, b5⟩
    · cases e
  · cases r1 <;> simp [fSortW] at e
def rSortedNW (G : Cfg) (K : PySem.W.Frag) : List V → Hp → VK → Prop := fun vs H Q => ∃ (d : Addr) (xs : List NT) (bs : List (V × PyData)), vs = [V.ref d] ∧ Rd H d (NDO G.w d xs) ∧ KeysAt G H xs ∧ bs.map (·.1) = xs.map (fun x => V.ref x.2.1) ∧ (∀ b ∈ bs, Dp K H b.1 b.2) ∧ WkAll (bs.map (·.2)) ∧ (∀ b ∈ bs, b.2.depth ≤ 60) ∧
  ∀ p, H p = none → Q (.ref p) (upd H p (.lst ((bs.mergeSort (PySem.W.dataLe false (·.2))).map (·.1))))
theorem cr_sortedNW (hK : X.K = G.K) (hw : X.w = G.w) (hr : Room k X.A) : CallR X (.builtin "sorted") (rSortedNW G X.K) := by
  intro pins s σ H vs us Q I r ⟨d, xs, bs, e, ha, hk, he, hd, hal, hz, q⟩
  subst e
  obtain ⟨u, rfl, ru⟩ := vals1 r
  obtain rfl : u = Value.ref d := ru
  obtain ⟨h1, h2, us, rel, dd⟩ := ndo_at I hK hw ha hk
  obtain ⟨es, ep, raw, hs, het⟩ := dd.raw
  have hl : us.length = xs.length := (nrel_len rel).symm
  have rv : Vals (bs.map (·.1)) (us.map fun y => Value.ref y.2.1) := by rw [he]; exact nrel_refs rel
  have hun : X.A.units + 100 < cLine := by have := hr.un; omega
  refine Calls.call_function_entry kind_sorted plain_sorted entry_sorted (args_sorted1 _) ?_
  unfold Builtin.«sorted»
  refine wpAny_bind (m := checkCount "sorted" 1 1 _) (wpAny_pure ?_)
  refine wpAny_bind (PySem.W.kdu_collect (A := X.A.in1) (KdlSrc.rawDict h1) hr.hd raw (by rw [hs, hl]; exact h2) fun h2' tk acc hk' hacc => ?_)
  have ea : acc.toList = us.map fun y => Value.ref y.2.1 := by
    refine List.ext_getElem? fun j => ?_
    rw [Array.getElem?_toList]
    cases ej : acc[j]? with
    | none =>
      rw [Array.getElem?_eq_none_iff] at ej
      rw [eq_comm, List.getElem?_eq_none_iff, List.length_map]
      rw [hacc.1, hs] at ej; exact ej
    | some v =>
      obtain ⟨hi, ev⟩ := hacc.2 j v ej
      obtain ⟨y, hy, g1, _, _⟩ := het j hi
      rw [List.getElem?_map, hy, ev, g1]; rfl
  refine wpAny_bind (wpAny_newList ?_ (by rw [ea, List.length_map, hl]; exact h2))
  rw [ea]
  obtain ⟨e1, e2⟩ := dp_reads_each I rv hd
  have sold : ∀ b o, h2'.get? b = some o → (PySem.W.sortingHeap (h2'.push { cls := .type "list", data := .seq (us.map fun y => Value.ref y.2.1).toArray }) h2'.objs.size (us.map fun y => Value.ref y.2.1)).get? b = some o := fun b o e =>
    PySem.W.sortingHeap_old (Nat.ne_of_lt (Heap.lt_size e)) (Heap.get?_push_of_some _ e)
  have e3 : PySem.W.EachIs (fun u (b : V × PyData) => ∃ as, Reads (PySem.W.sortingHeap (h2'.push { cls := .type "list", data := .seq (us.map fun y => Value.ref y.2.1).toArray }) h2'.objs.size (us.map fun y => Value.ref y.2.1)) u b.2 as) (us.map fun y => Value.ref y.2.1) bs :=
    each_imp (fun u b ⟨as, r⟩ => ⟨as, PyProof.Rows.Reads.keeps (fun b o e => sold b o (hk' b o e)) r⟩) e2
  have blen : bs.length = xs.length := by have := congrArg List.length he; simpa using this
  have ho : (h2'.push { cls := .type "list", data := .seq (us.map fun y => Value.ref y.2.1).toArray }).get? h2'.objs.size = some (seqObj "list" (us.map fun y => Value.ref y.2.1).toArray 0) := Heap.get?_push_size _ rfl
  refine wpAny_bind (wpAny_holding (list_sort_wk (enc := fun b : V × PyData => b.2) (n := 0) ho e1 e3 hal (by rw [blen]; exact h2) (fun b hb => by have := hz b hb; show X.A.units + 1 + 1 + _ < _; omega) fun out hout heach => ?_))
  obtain ⟨n, hn⟩ := sortedHeap_at (out := List.toArray out) ho
  have I0 : Inv X pins σ H { s with heap := h2', toks := tk } := I.kept (t' := tk) hk'
  refine wpAny_pure ⟨_, rfl, .ref h2'.objs.size, _, I0.laid (t' := tk) (a := h2'.objs.size) (o := .lst ((bs.mergeSort (PySem.W.dataLe false (·.2))).map (·.1))) (fun b o g => ?_) (Nat.le_refl _) ⟨?_, out, n, vals_each heach, hn⟩, rfl, q _ (I0.hok.fresh (Nat.le_refl _))⟩
  · rw [sortedHeap_old (Nat.ne_of_lt (Heap.lt_size g)) (by rw [size_push']; exact Nat.lt_succ_of_lt (Heap.lt_size g))]
    exact Heap.get?_push_of_some _ g
  · rw [List.length_map, List.length_mergeSort, blen]
    exact h2
theorem sn_sortNW (hK : X.K = G.K) : SN G (rSortedNW G X.K) fSortNW := fun F H σ S T xs ds kd Q st rs e k => by
  rcases rs with _ | ⟨r1, _ | ⟨r2, r3⟩⟩
  · simp [fSortNW] at e
  · cases r1 <;> simp only [fSortNW, reduceCtorEq] at e
    rename_i d nts kds hl hk hq hv
    split at e
    · rename_i hz
      cases e
      obtain ⟨bs, b1, b2, b3, b4, b5⟩ := zip_core hK st hq hz k
      exact ⟨d, nts, bs, rfl, same_rd st.sub hl, keysAt_mono st.sub (keysAt_of hk hq), b1, b2, b3, b4, b5⟩
    · cases e
  · cases r1 <;> simp [fSortNW] at e
theorem cls_sortedB (hK : X.K = G.K) (hw : X.w = G.w) (hr : Room k X.A) : ∃ r, CallR X (.builtin "sorted") r ∧ SN G r fSortedB := by
  obtain ⟨r, h1, h2⟩ := cls_sortedA (X := X) (G := G) hK hr
  exact ⟨_, h1.or ((cr_sortedN hK hw hr).or ((cr_sortedW hr.units).or (cr_sortedNW hK hw hr))), SN_or1 h2 (SN_or1 (sn_sortN hK) (SN_or1 (sn_sortW hK) (sn_sortNW hK)))⟩
end
end TB
namespace TB
open PySem L2 PySem.Spec PyProof.Rows
section
variable {P : Program} {w : World} {K : Type} [DecidableEq K] {kd : HeapKind P w K} {A : Around} {E : Value → Shared → Prop} {s : Shared}
variable {a : Addr} {L : List (Addr × K)} {es : Array (Int × Value)} {ep : Nat} {t : SetTable}
theorem row_at (e : es.toList = L.map fun (p : Addr × K) => (kd.hash p.2, Value.ref p.1)) {i : Nat} {p : Addr × K} (hp : L[i]? = some p) : es[i]? = some (kd.hash p.2, Value.ref p.1) := by
  have := congrArg (·[i]?) e
  simpa [hp] using this
abbrev pr (m : Nat) (h : Int) (c : Nat) : SetTable.Probe := nth m (runAt m (SetTable.bits h % (m + 1)) (SetTable.bits h)) c
end
end TB
namespace TB
open PySem L2 PySem.Spec PyProof.Rows
section
end
end TB
namespace TB
open PySem L2 PySem.Spec PyProof.Rows
section
end
section
end
section
end
end TB
namespace TB
open PySem L2 PySem.Spec PyProof.Rows
section
end
end TB
namespace TB
open PySem L2 PyProof.Rows
section
end
end TB
namespace TB
open PySem L2 PyProof.Rows
section
variable {X : Cx} {G : Cfgx} {W : WX} {k : Nat} {F H : Hp} {σ : L2.St} {S : List Slot} {T : Cnt}
theorem eqv_anys (n m : Nat) (x : D) (hx : x.lay n = true) : ∀ ys : List D, D.lays m ys = true → ((toPys ys).any fun z => PyData.eqv z (toPy x)) = ys.any fun y => D.eqv y x
  | [], _ => rfl
  | y :: ys, h => by
    simp only [D.lays, Bool.and_eq_true] at h
    simp only [toPys, List.any_cons]
    rw [eqv_py m n y x h.1 hx, eqv_anys n m x hx ys h.2]
theorem in_coreN (hK : X.K = G.K) {x y : V} {dx : D} {ys : List D} (st : St' G F H σ S T) (rx : Rep G F x dx) (ry : Rep G F y (.lst ys)) (h : (dx.lay 60 && D.lays 60 ys) = true) :
    Dp X.K H x (toPy dx) ∧ Dp X.K H y (.list (toPys ys)) ∧ SeqAt.shaped (toPy dx) = true ∧ SeqAt.shaped (.list (toPys ys)) = true ∧ ((toPys ys).any fun z => PyData.eqv z (toPy dx)) = ys.any fun y => D.eqv y dx := by
  obtain ⟨h1, h2⟩ := Bool.and_eq_true_iff.mp h
  have h3 : (D.lst ys).lay 61 = true := by simpa [D.lay] using h2
  have e : toPy (.lst ys) = .list (toPys ys) := rfl
  obtain ⟨a1, a2⟩ := lay_py 60 dx h1
  obtain ⟨b1, b2⟩ := lay_py 61 (.lst ys) h3
  rw [e] at b1 b2
  refine ⟨hK ▸ dp_of 60 dx x h1 (rx.mono st.sub), hK ▸ dp_of 61 (.lst ys) y h3 (ry.mono st.sub), ?_, ?_, eqv_anys 60 60 dx h1 ys h2⟩
  · exact Bool.and_eq_true_iff.mpr ⟨a1, decide_eq_true (by omega)⟩
  · exact Bool.and_eq_true_iff.mpr ⟨b1, decide_eq_true (by omega)⟩
theorem cls_notInN (hK : X.K = G.K) (hr : Room k X.A) : ∃ r, OpR X (compareOp .NotIn) r ∧ S2 G r fNotInN := by
  refine ⟨_, op_notInD (by have := hr.un; omega), fun F H σ S T x y dx dy kd Q st rx ry e k => ?_⟩
  unfold fNotInN at e
  split at e
  · split at e
    · rename_i h
      cases e
      obtain ⟨a, b, c, d, f⟩ := in_coreN hK st rx ry h
      exact ⟨_, _, a, b, c, d, by rw [f]; exact KE.val k st (.bl _)⟩
    · cases e
  · cases e
end
end TB
namespace TB
open PySem L2 PyProof.Rows
section
variable {X : Cx} {G : Cfgx} {W : WX} {k : Nat}
theorem den_fr {t : TE} {m : E} (hd : DenE G W t m) : DenE G W t (eFr m) := fun F H σ S T Q st p => by
  refine hd F H σ S T Q st (PR.bind (f := fun kd => M.pure ((.fz, kd.2) : KD)) p fun kd S1 q => KDt.freeze fun v F' H' T' s' st' r => ?_)
  exact (show KE G F H σ T Q (.fz, kd.2) S1 from q) v F' H' T' nil0 (s'.castR fun a => rfl) st' (.fz r) (fun a => st'.le a) fun _ _ => rfl
theorem tr_setLcF (i : Nat) {y : PySem.Str} {py : Pos} {elt tg iter : Expr} {ifs : List Expr} {scope : Scope} {own : List (PySem.Str × Nat)} {pos spos : Pos} {it : It} {t : Tg} {c : T} {e : E} (C : Cok X G W k) (hi : TrI X G W tg iter it) (ok : BlkOk X.N X.env.scope scope own)
    (hg : ∀ (s : Shared) (H : Hp) (C : Addr) (cl : List (PySem.Str × Addr)) (fp : List Addr), TrG (X.blk s H scope (compEnvC scope cl C X.env) fp) G tg t)
    (ht : ∀ (s : Shared) (H : Hp) (C : Addr) (cl : List (PySem.Str × Addr)) (fp : List Addr), Cok (X.blk s H scope (compEnvC scope cl C X.env) fp) G W0 k → TrTs (X.blk s H scope (compEnvC scope cl C X.env) fp) G W0 ifs c)
    (he : ∀ (s : Shared) (H : Hp) (C : Addr) (cl : List (PySem.Str × Addr)) (fp : List Addr), Cok (X.blk s H scope (compEnvC scope cl C X.env) fp) G W0 k → TrE (X.blk s H scope (compEnvC scope cl C X.env) fp) G W0 elt e)
    (hsw : swapsWith (.ListComp elt [⟨tg, iter, ifs, 0⟩] scope pos) (some (.Name y py)) spos.line X.env = pure true)
    (hy : X.N[i]? = some y := by rfl) (hyl : X.env.scope.names.lookup y = some .local := by rfl) (hs : ∀ x, foldedSetIterable iter X.env x = pure x := by intro _; rfl) (hpn : (own.map (·.2)).all (fun v => !G.pk.contains v) = true := by rfl) (hp : G.pk.contains i = false := by rfl) :
    TrS X G W (.Assign [.Name y py] (.ListComp elt [⟨tg, iter, ifs, 0⟩] scope pos) spos) (sSet i (eFr (eLc it t (own.map (·.2)) c e))) := by
  obtain ⟨wi, p, d⟩ := hi
  have cb : ∀ (s : Shared) (H : Hp) (A : Addr) (cl : List (PySem.Str × Addr)) (fp : List Addr), Cok (X.blk s H scope (compEnvC scope cl A X.env) fp) G W0 k := fun s H A cl fp => ⟨C.hK, takesN0, PassesOwn.never, C.calm, C.room, C.nd⟩
  refine ⟨_, ps_setLc C.calm C.nd hy hyl hsw p ok (fun s H A cl fp => (hg s H A cl fp).can) (fun s H A cl fp => ht s H A cl fp (cb s H A cl fp)) (fun s H A cl fp => (he s H A cl fp (cb s H A cl fp)).can) hs, fun F H σ S T D st z => den_fr (den_lc (W := W) (pins_ok hpn) d) F H σ S T _ st (PRs.bind z fun kd S1 y => ?_)⟩
  obtain ⟨kk, dd⟩ := kd
  intro v F' H' T' f s' st' o le di
  show D.nx (σ.set i (some v)) H'
  have y : PRs G W F H T (KS G F H T D) (if i < S1.length then .ok .nx (S1.set i (some (kk, dd))) else .bad) := y
  by_cases hl : i < S1.length
  · rw [if_pos hl] at y
    obtain ⟨T2, st2, l2⟩ := st'.set hl (pin_ok hp) o le di
    exact (show KS G F H T D .nx _ from y) _ F' H' T2 (s'.less l2) st2
  · rw [if_neg hl] at y; exact y.elim
end
end TB
namespace TB
open PySem L2 PyProof.Rows
section
end
section
end
end TB
namespace TB
open PySem PySem.Spec PyProof.Rows L2
section
variable {X : Cx} {G : Cfgx} {W : WX} {k : Nat}
theorem tr_b_sortedB (C : Cok X G W k) {p pos : Pos} {e : Expr} {es : List Expr} {ms : List E} (hm : X.mg "sorted" = none) (hw : X.w = G.w) (hg : Gl X "sorted") (ha : TrA X G W (e :: es) ms) (he : starEach (e :: es) X.env = (false, eval e X.env) :: starEach es X.env := by rfl) (hpl : (backTo pos (starEach es X.env)).any (·.1) = false := by rfl) : TrE X G W (.Call (.Name "sorted" p) (e :: es) [] pos) (eApp fSortedB ms) := by
  obtain ⟨r, h1, h2⟩ := cls_sortedB (X := X) (G := G) C.hK hw C.room
  exact tr_callB h1 h2 hm (by rfl) ha hg (by decide) (by decide) he hpl
theorem cls_notInB (hK : X.K = G.K) (hr : Room k X.A) : ∃ r, OpR X (compareOp .NotIn) r ∧ S2 G r fNotInB := by
  obtain ⟨r, h1, h2⟩ := cls_notInA (X := X) (G := G) hK
  obtain ⟨r', g1, g2⟩ := cls_notInN (X := X) (G := G) hK hr
  exact ⟨_, orR h1 g1, h2.or g2⟩
theorem tt_NotInB (C : Cok X G W k) {a b : Expr} {ma mb : E} {pos : Pos} (ha : TrE X G W a ma) (hb : TrE X G W b mb) (hm : behindInMarks .NotIn b = false := by rfl) : TrT X G W (.Compare a [.NotIn] [b] pos) (eBool (eOp fNotInB ma mb)) := by
  obtain ⟨r, h1, h2⟩ := cls_notInB C.hK C.room
  exact tt_cmp h1 h2 ha hb hm
end
end TB
namespace TB
open PySem L2
section
variable {X : Cx} {G : Cfgx} {W : WX} {k : Nat} {F H : Hp} {σ : L2.St} {S : List Slot} {T : Cnt}
theorem cr_sumT (hc : X.calm = true) : CallR X (.builtin "sum") (fun vs H Q => ∃ (a : Addr) (ns : List Int), vs = [V.ref a] ∧ SqT X.K H a (ns.map V.int) ∧ Q (.int ns.sum) H) := by
  intro pins s σ H vs us Q I r h
  obtain ⟨a, ns, rfl, hs, q⟩ := h
  obtain ⟨its, rv, hl, _⟩ := I.tuple hs
  rw [Vals.ref1 r]
  have hi : PyProof.Rows.IntsAre its ns := rv.ints
  obtain ⟨xs, hx⟩ := hi.allInts.items
  have hn : numsOf its.toArray.toList = ns := by rw [show its.toArray.toList = its from rfl, hi.numsOf]
  have hl : s.heap.IsTuple a its.toArray := hl
  rw [hx] at hl hn
  rw [nums_intItems] at hn
  refine PySem.W.ktm_sumG (I.ok.hd hc) hl fun h' tk t' hk => ?_
  rw [preSum_eq, List.take_of_length_le (by simp), hn]
  exact ⟨.int _, H, I.kept hk, ⟨_, rfl⟩, q⟩
theorem cls_sum (hK : X.K = G.K) (hc : X.calm = true) : ∃ r, CallR X (.builtin "sum") r ∧ SN G r fSum := by
  refine ⟨_, (cr_sum hc).or (cr_sumT hc), fun F H σ S T xs ds kd Q st rs e k => ?_⟩
  rcases rs with _ | ⟨r1, _ | ⟨r2, r3⟩⟩
  · simp [fSum] at e
  · cases r1 <;> simp only [fSum, kz, reduceCtorEq] at e
    · rename_i a xs as h1 r1
      cases q : intsOf as with
      | none => rw [q] at e; cases e
      | some is =>
        rw [q] at e
        cases e
        exact .inr ⟨a, is, rfl, by rw [← ints_of r1 q]; exact hK ▸ same_t st.sub h1, KE.val k st (.int _)⟩
    · rename_i a xs as h1 r1
      cases q : intsOf as with
      | none => rw [q] at e; cases e
      | some is =>
        rw [q] at e
        cases e
        exact .inl ⟨a, is, rfl, .inl (.inl (by rw [← ints_of r1 q]; exact st.sub _ _ h1)), KE.val k st (.int _)⟩
  · cases r1 <;> simp [fSum] at e
theorem merge_rep {F : Hp} : ∀ {more : List (Key × V)} {mds : List (D × D)} {kvs : List (Key × V)} {kds : List (D × D)}, mds.map (·.1) = more.map (fun p => keyD p.1) → Reps G F (more.map (·.2)) (mds.map (·.2)) →
    kds.map (·.1) = kvs.map (fun p => keyD p.1) → Reps G F (kvs.map (·.2)) (kds.map (·.2)) → (mergeD kds mds).map (·.1) = (mergeK kvs more).map (fun p => keyD p.1) ∧ Reps G F ((mergeK kvs more).map (·.2)) ((mergeD kds mds).map (·.2))
  | [], [], kvs, kds, _, _, h, r => ⟨h, r⟩
  | [], _ :: _, _, _, h, _, _, _ => by simp at h
  | _ :: _, [], _, _, h, _, _, _ => by simp at h
  | p :: more, q :: mds, kvs, kds, h1, r1, h2, r2 => by
    obtain ⟨e1, e2⟩ := List.cons.inj (show q.1 :: mds.map (·.1) = keyD p.1 :: more.map (fun p => keyD p.1) from h1)
    cases r1 with
    | cons ra rb =>
      obtain ⟨a, b⟩ := put_rep h2 r2 p.1 ra
      have := merge_rep e2 rb a b
      show (mergeD (putD kds q.1 q.2) mds).map (·.1) = (mergeK (putK kvs p.1 p.2) more).map (fun p => keyD p.1) ∧ _
      rw [e1]
      have e3 : mergeD kds (q :: mds) = mergeD (putD kds (keyD p.1) q.2) mds := by show mergeD (putD kds q.1 q.2) mds = _; rw [e1]
      rw [e3]
      exact this
theorem pairs_rep (hK : X.K = G.K) (st : St' G F H σ S T) : ∀ {xs : List V} {ds : List D} {kvs : List (D × D)}, Reps G F xs ds → pairsKV ds = some kvs → ∃ (ps : List Addr) (ks : List (Key × V)), xs = ps.map V.ref ∧ Paired (fun p kv => SqT X.K H p [kV kv.1, kv.2]) ps ks ∧ kvs.map (·.1) = ks.map (fun p => keyD p.1) ∧ Reps G F (ks.map (·.2)) (kvs.map (·.2))
  | _, _, _, .nil, h => by cases h; exact ⟨[], [], rfl, .nil, rfl, .nil⟩
  | _, _, kvs, .cons (d := d) r s, h => by
    unfold pairsKV at h
    cases q : pairKV d with
    | none => rw [q] at h; cases h
    | some p =>
      rw [q] at h
      cases q2 : pairsKV _ with
      | none => rw [q2] at h; cases h
      | some l =>
        rw [q2] at h
        cases h
        obtain ⟨ps, ks, rfl, hp, hk, hr⟩ := pairs_rep hK st s q2
        unfold pairKV at q
        split at q
        · rename_i kd vd
          split at q
          · rename_i hkey
            cases q
            cases r with
            | tup h1 r1 =>
              rename_i a vs
              rcases r1 with _ | ⟨ra, _ | ⟨rb, _ | _⟩⟩
              obtain ⟨kk, rfl, rfl⟩ := key_of hkey ra
              rename_i v2
              exact ⟨a :: ps, (kk, v2) :: ks, rfl, .cons (hK ▸ same_t st.sub h1) hp, by simp [hk], .cons rb hr⟩
          · cases q
        · cases q
theorem newK_kd {kk : Kd} {Q : VK} {kvs : List (Key × V)} {kds : List (D × D)} {g : Cnt} (z : KE G F H σ T Q (.dK .fz, .dic kds) S) (st : St' G F H σ S T) (hk : kds.map (·.1) = kvs.map (fun p => keyD p.1)) (hr : Reps G F (kvs.map (·.2)) (kds.map (·.2))) (p : Addr) (hp : H p = none) : Q (.ref p) (upd H p (.dK kvs)) := by
  obtain ⟨st2, s, le, fp⟩ := st.newT (o := .dK kvs) hp
  refine z (.ref p) F _ T (add (one p) nil0) (s.castR fun a => rfl) st2 (.dK upd_same hk (owns_fz hr)) (fun a => le a) fun a n => ?_
  by_cases q : a = p
  · subst q; rw [fp] at n; exact absurd rfl n
  · simp [add, one, nil0, q]
theorem cls_dictL (hK : X.K = G.K) (hc : X.calm = true) : ∃ r, CallR X (.type "dict") r ∧ SN G r fDictL := by
  refine ⟨_, call_dictP hc, fun F H σ S T xs ds kd Q st rs e k => ?_⟩
  rcases rs with _ | ⟨r1, _ | ⟨r2, r3⟩⟩
  · simp [fDictL] at e
  · cases r1 <;> simp only [fDictL, reduceCtorEq] at e
    rename_i a xs as h1 r1
    cases q : pairsKV as with
    | none => rw [q] at e; cases e
    | some kvs =>
      rw [q] at e
      cases e
      obtain ⟨ps, ks, rfl, hp, hk, hr⟩ := pairs_rep hK st r1 q
      obtain ⟨m1, m2⟩ := merge_rep hk hr (kvs := []) (kds := []) rfl .nil
      exact ⟨a, ps, ks, rfl, .inl (.inl (st.sub _ _ h1)), hp, fun p hp => newK_kd (kk := .fz) (g := nil0) k st m1 m2 p hp⟩
  · cases r1 <;> simp [fDictL] at e
theorem tr_b_sum (C : Cok X G W k) {p pos : Pos} {e : Expr} {es : List Expr} {ms : List E} (hm : X.mg "sum" = none) (hg : Gl X "sum") (ha : TrA X G W (e :: es) ms) (he : starEach (e :: es) X.env = (false, eval e X.env) :: starEach es X.env := by rfl) (hpl : (backTo pos (starEach es X.env)).any (·.1) = false := by rfl) : TrE X G W (.Call (.Name "sum" p) (e :: es) [] pos) (eApp fSum ms) := by
  obtain ⟨r, h1, h2⟩ := cls_sum (X := X) (G := G) C.hK C.calm
  exact tr_callB h1 h2 hm (by rfl) ha hg (by decide) (by decide) he hpl
theorem tr_b_dict (C : Cok X G W k) {p pos : Pos} {e : Expr} {es : List Expr} {ms : List E} (hm : X.mg "dict" = none) (hg : Gl X "dict") (ha : TrA X G W (e :: es) ms) (he : starEach (e :: es) X.env = (false, eval e X.env) :: starEach es X.env := by rfl) (hpl : (backTo pos (starEach es X.env)).any (·.1) = false := by rfl) : TrE X G W (.Call (.Name "dict" p) (e :: es) [] pos) (eApp fDictL ms) := by
  obtain ⟨r, h1, h2⟩ := cls_dictL (X := X) (G := G) C.hK C.calm
  exact tr_callT h1 h2 hm (by rfl) ha hg (by decide) (by decide) he hpl
theorem den_dget {ta tb : TE} {a b : E} (ha : DenE G W ta a) (hb : DenE G W tb b) : DenE G W (tDGet ta tb) (eOp fGet a b) := fun F H σ S T Q st p => by
  refine ha.dat F H σ S T _ st (PR.bind p fun dx S1 q => ?_)
  intro v F1 H1 T1 s1 st1 r1
  refine hb.dat F1 H1 σ S1 T1 _ st1 (PR.bind (PR.re s1 (fun _ _ h => h) q) fun dy S2 q2 => ?_)
  intro u F2 H2 T2 s2 st2 r2
  cases e : fGet dx dy with
  | none => rw [e] at q2; exact q2.elim
  | some d =>
    rw [e] at q2
    have q2 : KE G F H σ T Q d S2 := q2
    have r1 := r1.mono s2.sF
    cases r1 <;> simp only [fGet, reduceCtorEq] at e
    rename_i aa kvs kds h1 hk rr
    split at e
    · rename_i hx
      obtain ⟨kk, rfl, rfl⟩ := key_of hx r2
      have va := val_at hk rr kk
      cases q1 : valD kds (keyD kk) with
      | none => rw [q1] at e; cases e
      | some dd =>
        rw [q1] at e va
        cases e
        cases q3 : valV kvs kk with
        | none => rw [q3] at va; exact va.elim
        | some w =>
          rw [q3] at va
          exact ⟨aa, w, rfl, .inl ⟨kvs, kk, same_rd st2.sub h1, rfl, q3.symm⟩, KE.val (q2.re (s1.trans s2)) st2 va⟩
    · cases e
theorem tr_get (C : Cok X G W k) {a b : Expr} {ma mb : E} {pos : Pos} (ha : TrE X G W a ma) (hb : TrE X G W b mb) (hs : NoSl b := by exact fun _ _ => rfl) : TrE X G W (.Subscript a b pos) (eOp fGet ma mb) := by
  obtain ⟨t, p, d⟩ := ha
  obtain ⟨u, q, d2⟩ := hb
  exact ⟨_, pe_dget (by have := C.room.units; omega) p q hs, den_dget d d2⟩
theorem den_get3 {td ty tz : TE} {a b c : E} (ha : DenE G W td a) (hb : DenE G W ty b) (hc : DenE G W tz c) : DenE G W (tDGet2 td ty tz) (eGet3 a b c) := fun F H σ S T Q st p => by
  refine ha.dat F H σ S T _ st (PR.bind p fun dx S1 q => ?_)
  intro v F1 H1 T1 s1 st1 r1
  have q : PR G W F H σ T (KE G F H σ T Q) ((if dx.isDic = true then M.bind (eDat b) fun y => M.bind (eDat c) fun z => ofO (fGet3 dx y z) else eBad) S1) := q
  by_cases hd : dx.isDic = true
  case neg => rw [if_neg hd] at q; exact q.elim
  rw [if_pos hd] at q
  have q : PR G W F H σ T (KE G F H σ T Q) ((eDat b S1).bind fun y => M.bind (eDat c) fun z => ofO (fGet3 dx y z)) := q
  cases r1 with
  | @dK aa kvs kds h1 hk rr =>
      refine ⟨aa, rfl, .inl ⟨kvs, same_rd st1.sub h1⟩, ?_⟩
      refine hb.dat F1 H1 σ S1 T1 _ st1 (PR.bind (PR.re s1 (fun _ _ h => h) q) fun dy S2 q2 => ?_)
      intro u F2 H2 T2 s2 st2 r2
      refine hc.dat F2 H2 σ S2 T2 _ st2 (PR.bind (PR.re s2 (fun _ _ h => h) q2) fun dz S3 q3 => ?_)
      intro w F3 H3 T3 s3 st3 r3
      cases e : fGet3 (.dic kds) dy dz with
      | none => rw [e] at q3; exact q3.elim
      | some d =>
        rw [e] at q3
        have q3 : KE G F H σ T Q d S3 := q3
        have sF := s2.sF.trans s3.sF
        simp only [fGet3] at e
        split at e
        · rename_i hx
          cases e
          obtain ⟨kk, rfl, rfl⟩ := key_of hx (r2.mono s3.sF)
          have va := val_at hk (rr.mono sF) kk
          refine ⟨valV kvs kk, .inl ⟨kvs, kk, same_rd st3.sub (same_rd sF h1), rfl, rfl⟩, KE.val (q3.re ((s1.trans s2).trans s3)) st3 ?_⟩
          cases q1 : valD kds (keyD kk) with
          | none =>
            cases q4 : valV kvs kk with
            | none => exact r3
            | some w => rw [q1, q4] at va; exact va.elim
          | some dd =>
            cases q4 : valV kvs kk with
            | none => rw [q1, q4] at va; exact va.elim
            | some w => rw [q1, q4] at va; exact va
        · cases e
  | _ => cases hd
theorem tr_get3 {o ke ze : Expr} {a b c : E} {apos pos : Pos} (C : Cok X G W k) (h : TrE X G W o a) (hk : TrE X G W ke b) (hz : TrE X G W ze c) (m2 : M2 X o "get" apos ke ze pos := by exact ⟨rfl, rfl, rfl, rfl⟩) : TrE X G W (.Call (.Attribute o "get" apos) [ke, ze] [] pos) (eGet3 a b c) := by
  obtain ⟨t, p, d⟩ := h
  obtain ⟨t2, p2, d2⟩ := hk
  obtain ⟨t3, p3, d3⟩ := hz
  exact ⟨_, pe_dget2 (by have := C.room.units; omega) p p2 p3 m2, den_get3 d d2 d3⟩
end
end TB
namespace TB
open PySem L2
section
variable {X : Cx} {G : Cfgx} {W : WX} {k : Nat} {F H : Hp} {σ : L2.St} {S : List Slot} {T : Cnt}
def augOp (s : Bool) : Operator := if s then .Sub else .Add
theorem ip_aug (s : Bool) : PIp X (augOp s) (ipI (augI s)) := by cases s <;> first | exact ip_add | exact ip_sub
theorem rep_int {F : Hp} {v : V} {i : Int} (r : Rep G F v (.int i)) : v = .int i := by cases r; rfl
end
end TB
namespace TB
open PySem L2
section
end
end TB
namespace TB
open PySem L2
section
end
end TB
namespace TB
open PySem L2
open Sem (wp)
open PySem.Calls PyProof.Rows
section
end
end TB
namespace TBZ
open PySem PySem.W
open Sem (wp)
section
end
end TBZ
namespace TBZ
open PySem PySem.W
open Sem (wp)
section
end
section
open L2
end
section
open PyProof.Rows L2
end
end TBZ
namespace TB
open PySem L2
section
open TBZ
end
end TB
namespace TB
open PySem PySem.Spec PyProof.Rows L2
/-- a class of refusals without an own __init__ -/
structure RaiseC (K : PySem.W.Frag) (C : Addr) : Prop where
  q : PySem.W.excIn K C [.type "ValueError", .type "Exception", .type "BaseException", .type "object"] "ValueError.__new__" = true
  kp : PySem.W.keepIn K (.ref C) = true
  b : PySem.W.subIn K (.ref C) (.type "BaseException") = some true
  t : PySem.W.typeIn K (.ref C) = some (.type "type")
def raiseB (K : PySem.W.Frag) (C : Addr) : Bool := PySem.W.excIn K C [.type "ValueError", .type "Exception", .type "BaseException", .type "object"] "ValueError.__new__" && (PySem.W.keepIn K (.ref C) && (decide (PySem.W.subIn K (.ref C) (.type "BaseException") = some true) && decide (PySem.W.typeIn K (.ref C) = some (.type "type"))))
theorem raiseB_ok {K : PySem.W.Frag} {C : Addr} (h : raiseB K C = true) : RaiseC K C := by
  obtain ⟨h1, h⟩ := Bool.and_eq_true_iff.mp h
  obtain ⟨h2, h⟩ := Bool.and_eq_true_iff.mp h
  obtain ⟨h3, h4⟩ := Bool.and_eq_true_iff.mp h
  exact ⟨h1, h2, of_decide_eq_true h3, of_decide_eq_true h4⟩
theorem tr_raise (c : Nat) {X : Cx} {G : Cfgx} {W : WX} {k : Nat} {x m : PySem.Str} {j : Nat} {p p2 pos pos' : Pos} (C : Cok X G W k) (R : RaiseC X.K (G.ca c)) (hm : X.mg x = some (.ref (G.ca c))) (hg : Gl X x := by rfl) (hdb : (x == ("__debug__" : PySem.Str)) = false := by decide) :
    TrS X G W (.Raise (some (.Call (.Name x p) [.Constant (.str m) j p2] [] pos)) none pos') (sRaise c) :=
  ⟨_, L2N.ps_raise C.calm C.tk (L2N.pmk_own PySem.F.excBase_ValueError R.q hm R.kp (raises_own R.b R.t) hg hdb),
    fun F H σ S T D st z => (show PXs G W F H T ⟨c, .non⟩ S from z) σ (.ref (G.ca c)) none F H T (Step.refl F H T) st ⟨rfl, .inl ⟨rfl, rfl⟩⟩⟩
def tM (G : Cfgx) (W : WX) (m : St) : TS := fun D σ H => ∃ F S T, St' G F H σ S T ∧ PRs G W F H T (KS G F H T D) (m S)
theorem TrSs.can {X : Cx} {G : Cfgx} {W : WX} {ss : List Stmt} {m : St} (h : TrSs X G W ss m) : PSs X ss (tM G W m) := by
  obtain ⟨t, p, d⟩ := h
  exact ⟨fun pins s σ H D I ⟨F, S, T, st, z⟩ => p.run pins s σ H D I (d F H σ S T D st z)⟩
/-- a clause: its class, the slot of its name, the reading of its suite -/
structure ClK where
  c : Value
  i : Nat
  ts : Addr → Value → Option Addr → TS
inductive ClOk (X : Cx) : List ExceptHandler → List ClK → Prop
  | nil : ClOk X [] []
  | cons {x n : PySem.Str} {c : Value} {i : Nat} {ts : Addr → Value → Option Addr → TS} {b₁ : Stmt} {ss : List Stmt} {np ep : Pos} {hds : List ExceptHandler} {qs : List ClK} (hi : X.N[i]? = some n) (hl : X.env.kindOf n = some .local) (hc : Names X x c)
      (hu : ∀ (a : Addr) (oe : Obj) (cls : Value) (d : Option Addr) (pn : List (Addr × Obj)), L2N.Zn cls d oe → (∃ fv, oe.data = .fields fv) → PSs (X.suite a ((a, oe) :: pn)) (b₁ :: ss) (ts a cls d)) (rest : ClOk X hds qs) :
      ClOk X (.ExceptHandler (some (.Name x np)) (some n) (b₁ :: ss) ep :: hds) (⟨c, i, ts⟩ :: qs)
section
end
end TB
namespace TB
open PySem PySem.Spec PyProof.Rows L2 L2H
end TB
namespace TB
open PySem PySem.Spec PyProof.Rows L2 L2H
section
end
end TB
namespace TB
open PySem PySem.Spec PyProof.Rows L2 L2H
/-- the exception x, of the class cls, at a, in the slot i -/
def SeesX (G : Cfg) (i : Nat) (a : Addr) (x : Xc) (cls : Value) (d : Option Addr) (σ : L2.St) (H : Hp) : Prop := σ[i]? = some (some (.ref a)) ∧ ExcR G x cls d H
section
end
def tRs (G : Cfg) (i j : Nat) (a : Addr) (x : Xc) (cls : Value) (d : Option Addr) (r : Rs) : TS := fun D σ H => SeesX G i a x cls d σ H ∧ ∀ H', Same H H' → match r with
  | .one e => ∀ v, (∀ F, Rep G F v e) → D.nx (σ.set j (some v)) H'
  | .tup es => ∀ vs, (∀ F, Reps G F vs es) → ∀ p, H' p = none → D.nx (σ.set j (some (.ref p))) (upd H' p (.tup vs))
section
end
inductive ClsT (X : Cx) (G : Cfgx) (xs : List Nat) : List ExceptHandler → List Cl → Prop
  | nil : ClsT X G xs [] []
  | cons {q : Cl} {cn n : PySem.Str} {b₁ : Stmt} {ss : List Stmt} {np ep : Pos} {hds : List ExceptHandler} {qs : List Cl} (hi : X.N[q.i]? = some n) (hl : X.env.kindOf n = some .local) (hc : Names X cn (.ref (G.ca q.t))) (ht : q.t ∈ ([10, 22, 23] : List Nat)) (pi_ : G.pk.contains q.i = false) (pj : G.pk.contains q.j = false)
      (hu : ∀ (a : Addr) (oe : Obj) (cls : Value) (d : Option Addr) (pn : List (Addr × Obj)) (x : Xc), L2N.Zn cls d oe → (∃ fv, oe.data = .fields fv) → xs.contains x.c = true → xSub x.c q.t = true → (q.r x).ok = true → PSs (X.suite a ((a, oe) :: pn)) (b₁ :: ss) (tRs G q.i q.j a x cls d (q.r x))) (rest : ClsT X G xs hds qs) :
      ClsT X G xs (.ExceptHandler (some (.Name cn np)) (some n) (b₁ :: ss) ep :: hds) (q :: qs)
/-- the reading of a clause, whatever the exception is -/
def tCl (G : Cfg) (xs : List Nat) (q : Cl) : Addr → Value → Option Addr → TS := fun a cls d D σ H => ∃ x : Xc, xs.contains x.c = true ∧ xSub x.c q.t = true ∧ (q.r x).ok = true ∧ tRs G q.i q.j a x cls d (q.r x) D σ H
def clK (G : Cfg) (xs : List Nat) (q : Cl) : ClK := ⟨.ref (G.ca q.t), q.i, tCl G xs q⟩
theorem ClsT.ok {X : Cx} {G : Cfgx} {xs : List Nat} {hds : List ExceptHandler} {qs : List Cl} (h : ClsT X G xs hds qs) : ClOk X hds (qs.map (clK G xs)) := by
  induction h with
  | nil => exact .nil
  | cons hi hl hc ht pi_ pj hu rest ih => exact .cons hi hl hc (fun a oe cls d pn hz hf => ⟨fun pins s σ H D I ⟨x, h1, h2, h3, h4⟩ => (hu a oe cls d pn x hz hf h1 h2 h3).run pins s σ H D I h4⟩) ih
end TB
namespace TB
open PySem PySem.Spec PyProof.Rows L2
section
end
end TB
namespace TB
open PySem PySem.Spec PyProof.Rows L2
section
variable {G : Cfg} {F : Hp} {a : Addr} {o : Obj} {kvs : List (Key × V)}
theorem lock_ne {b : Addr} {u : HO} (hF : F a = some (.dK kvs)) (h : F b = some u) (n : ∀ ks, u ≠ .dK ks) : upd F a (.frz o (.dK kvs)) b = some u := by
  rw [upd_ne (fun e => by rw [e, hF] at h; cases h; exact n _ rfl)]
  exact h
theorem lock_rd {b : Addr} {u : HO} (hF : F a = some (.dK kvs)) (h : Rd F b u) : Rd (upd F a (.frz o (.dK kvs))) b u := by
  by_cases e : b = a
  · subst e
    rcases h with h | ⟨o2, h⟩
    · rw [hF] at h
      cases h
      exact .inr ⟨o, upd_same⟩
    · rw [hF] at h
      cases h
  · rcases h with h | ⟨o2, h⟩
    · exact .inl (by rw [upd_ne e]; exact h)
    · exact .inr ⟨o2, by rw [upd_ne e]; exact h⟩
theorem lock_t {K : PySem.W.Frag} {b : Addr} {xs : List V} (hF : F a = some (.dK kvs)) (h : SqT K F b xs) : SqT K (upd F a (.frz o (.dK kvs))) b xs := h.elim (fun h => .inl (lock_rd hF h)) .inr
theorem lock_l {K : PySem.W.Frag} {b : Addr} {xs : List V} (hF : F a = some (.dK kvs)) (h : SqL K F b xs) : SqL K (upd F a (.frz o (.dK kvs))) b xs := h.elim (fun h => .inl (lock_rd hF h)) .inr
mutual
theorem Rep.lock (hF : F a = some (.dK kvs)) : ∀ {v : V} {d : D}, Rep G F v d → Rep G (upd F a (.frz o (.dK kvs))) v d
  | _, _, .non => .non
  | _, _, .bl b => .bl b
  | _, _, .int i => .int i
  | _, _, .str z => .str z
  | _, _, .tup h r => .tup (lock_t hF h) (Reps.lock hF r)
  | _, _, .scr h => .scr (lock_l hF h)
  | _, _, .lst h r => .lst (lock_ne hF h (fun _ e => nomatch e)) (Reps.lock hF r)
  | _, _, .dK h k r => .dK (lock_rd hF h) k (Reps.lock hF r)
  | _, _, .dN h k q r => .dN (lock_rd hF h) k (Reps.lock hF q) (Reps.lock hF r)
  | _, _, .ldc h k r => .ldc (lock_ne hF h (fun _ e => nomatch e)) k (Reps.lock hF r)
  | _, _, .ob h k r => .ob (lock_ne hF h (fun _ e => nomatch e)) k (Reps.lock hF r)
  | _, _, .fn k => .fn k
theorem Reps.lock (hF : F a = some (.dK kvs)) : ∀ {vs : List V} {ds : List D}, Reps G F vs ds → Reps G (upd F a (.frz o (.dK kvs))) vs ds
  | _, _, .nil => .nil
  | _, _, .cons h r => .cons (Rep.lock hF h) (Reps.lock hF r)
end
end
section
variable {X : Cx} {G : Cfgx} {W : WX} {k : Nat} {F H : Hp} {σ : L2.St} {S : List Slot} {T : Cnt}
theorem slots_lock {H : Hp} {a : Addr} {o : Obj} {kvs : List (Key × V)} (hF : H a = some (.dK kvs)) {σ : L2.St} {S : List Slot} (h : Slots G H H σ S nil0) (hz : ∀ s ∈ S, ∀ kd, s = some kd → kd.1 = .fz) : Slots G (upd H a (.frz o (.dK kvs))) (upd H a (.frz o (.dK kvs))) σ S nil0 := by
  have main : ∀ {σ : L2.St} {S : List Slot} {T : Cnt}, Slots G H H σ S T → (∀ s ∈ S, ∀ kd, s = some kd → kd.1 = .fz) → Slots G (upd H a (.frz o (.dK kvs))) (upd H a (.frz o (.dK kvs))) σ S nil0 := by
    intro σ S T h hz
    induction h with
    | nil => exact .nil
    | @cons v s f g σ S h r ih =>
      have : Slots G (upd H a (.frz o (.dK kvs))) (upd H a (.frz o (.dK kvs))) (v :: σ) (s :: S) (add nil0 nil0) := by
        refine .cons ?_ (ih fun s hs => hz s (List.mem_cons_of_mem _ hs))
        cases h with
        | no v => exact .no v
        | @yes kk v d f ow =>
          have e := hz (some (kk, d)) List.mem_cons_self _ rfl
          have e : kk = .fz := e
          subst e
          cases ow with
          | fz rr => exact .yes (.fz (rr.lock hF))
      exact this
  exact main h hz
/-- the walk over the keys of a locked dict -/
theorem ti_ldc (i : Nat) {x : PySem.Str} {tg : Expr} {pos : Pos} (hN : X.N[i]? = some x := by rfl) (hv : Vis X.env.scope x := by first | exact Or.inl rfl | exact Or.inr (Or.inl rfl) | exact Or.inr (Or.inr rfl)) (hd : (x == ("__debug__" : PySem.Str)) = false := by decide) (hcd : (x == ("__classdict__" : PySem.Str)) = false := by decide) : TrI X G W tg (.Name x pos) (itLdc i) := by
  refine ⟨_, pi_keys (pe_var hN hv hd hcd), fun F H σ S T R st z => ?_⟩
  unfold itLdc at z
  cases e : S[i]? with
  | none => rw [e] at z; exact z.elim
  | some s =>
    rw [e] at z
    cases s with
    | none => exact z.elim
    | some kd =>
      obtain ⟨kk, d⟩ := kd
      cases kk with
      | fz =>
        cases d with
        | ldc kds =>
          have z : KI G F H σ T R (kds.map (·.1)) S := z
          obtain ⟨v, f, hs, ow, _⟩ := st.sl.var e
          cases ow with
          | fz r =>
            cases r with
            | @ldc a o kvs _ h hk hr =>
              refine ⟨.ref a, hs, a, o, rfl, .inl ⟨kvs, st.sub _ _ h, z _ F H T (Step.refl F H T) st ?_⟩⟩
              have hl : (kds.map (·.1)).length = kvs.length := by rw [hk, List.length_map]
              refine ⟨fun i H x H' => H' = H ∧ ∃ k v, kvs[i]? = some (k, v) ∧ x = kV k, ?_, ?_⟩
              · rw [hl]
                exact walk_keys.mono (fun H e => e _ _ h) fun i H x H' _ _ y => y
              · rintro i H1 x H1' d hd ⟨e1, kk, vv, e2, e3⟩
                subst e1 e3
                rw [hk, List.getElem?_map, e2] at hd
                cases hd
                exact .inl ⟨rfl, by cases kk with
                  | inl n => exact .int n
                  | inr z => exact .str z⟩
        | _ => exact z.elim
      | _ => exact z.elim
/-- d[k], d locked -/
theorem tr_getL (C : Cok X G W k) {a b : Expr} {ma mb : E} {pos : Pos} (ha : TrE X G W a ma) (hb : TrE X G W b mb) (hs : NoSl b := by exact fun _ _ => rfl) : TrE X G W (.Subscript a b pos) (eOp fGetL ma mb) := by
  obtain ⟨t, p, da⟩ := ha
  obtain ⟨u, q, db⟩ := hb
  refine ⟨_, pe_dget (by have := C.room.units; omega) p q hs, fun F H σ S T Q st z => ?_⟩
  refine da.dat F H σ S T _ st (PR.bind z fun dx S1 z1 => ?_)
  intro v F1 H1 T1 s1 st1 r1
  refine db.dat F1 H1 σ S1 T1 _ st1 (PR.bind (PR.re s1 (fun _ _ h => h) z1) fun dy S2 z2 => ?_)
  intro u F2 H2 T2 s2 st2 r2
  cases e : fGetL dx dy with
  | none => rw [e] at z2; exact z2.elim
  | some d =>
    rw [e] at z2
    have z2 : KE G F H σ T Q d S2 := z2
    have r1 := r1.mono s2.sF
    cases r1 <;> simp only [fGetL, reduceCtorEq] at e
    rename_i aa oo kvs kds h1 hk rr
    split at e
    · rename_i hx
      obtain ⟨kk, rfl, rfl⟩ := key_of hx r2
      have va := val_at hk rr kk
      cases q1 : valD kds (keyD kk) with
      | none => rw [q1] at e; cases e
      | some dd =>
        rw [q1] at e va
        cases e
        cases q3 : valV kvs kk with
        | none => rw [q3] at va; exact va.elim
        | some w =>
          rw [q3] at va
          exact ⟨aa, w, rfl, .inl ⟨kvs, kk, .inr ⟨oo, st2.sub _ _ h1⟩, rfl, q3.symm⟩, KE.val (z2.re (s1.trans s2)) st2 va⟩
    · cases e
theorem unlock_rd {a b : Addr} {o : Obj} {kvs : List (Key × V)} {xs : List V} (hF : H a = some (.frz o (.dK kvs))) (h : Rd H b (.tup xs)) : Rd (upd H a (.dK kvs)) b (.tup xs) := by
  have ne : b ≠ a := fun e => by
    rw [e] at h
    rcases h with h | ⟨o2, h⟩ <;> (rw [hF] at h; cases h)
  rcases h with h | ⟨o2, h⟩
  · exact .inl (by rw [upd_ne ne]; exact h)
  · exact .inr ⟨o2, by rw [upd_ne ne]; exact h⟩
mutual
theorem rep_unlock {a : Addr} {o : Obj} {kvs : List (Key × V)} (hF : H a = some (.frz o (.dK kvs))) : ∀ {v : V} {d : D}, d.imm = true → Rep G H v d → Rep G (upd H a (.dK kvs)) v d
  | _, _, _, .non => .non
  | _, _, _, .bl b => .bl b
  | _, _, _, .int i => .int i
  | _, _, _, .str z => .str z
  | _, _, h, .tup q r => .tup (q.elim (fun q => .inl (unlock_rd hF q)) .inr) (reps_unlock hF (by simpa [D.imm] using h) r)
  | _, _, h, .scr _ => by simp [D.imm] at h
  | _, _, h, .lst _ _ => by simp [D.imm] at h
  | _, _, h, .dK _ _ _ => by simp [D.imm] at h
  | _, _, h, .dN _ _ _ _ => by simp [D.imm] at h
  | _, _, h, .ldc _ _ _ => by simp [D.imm] at h
  | _, _, h, .ob _ _ _ => by simp [D.imm] at h
  | _, _, h, .fn _ => by simp [D.imm] at h
theorem reps_unlock {a : Addr} {o : Obj} {kvs : List (Key × V)} (hF : H a = some (.frz o (.dK kvs))) : ∀ {vs : List V} {ds : List D}, D.imms ds = true → Reps G H vs ds → Reps G (upd H a (.dK kvs)) vs ds
  | _, _, _, .nil => .nil
  | _, _, h, .cons a r => by
    simp only [D.imms, Bool.and_eq_true] at h
    exact .cons (rep_unlock hF h.1 a) (reps_unlock hF h.2 r)
end
theorem tr_lockLI (i : Nat) {e : Expr} {m : E} {W' : WX} (h : TrE X G W' e m) : TrE X G W e (eLockLI i m) := by
  obtain ⟨t, hp, hd⟩ := h
  refine ⟨_, pe_lock hp, fun F H σ S T Q st p => ?_⟩
  unfold eLockLI at p
  split at p
  case h_2 => exact p.elim
  rename_i kds ei
  have ek : ownK S i = some kds := by unfold ownK; rw [ei]
  obtain ⟨a, kvs, hσ, hH, hk, hr, _⟩ := own_dict st ek
  split at p
  case h_2 => exact p.elim
  rename_i ds S1 em
  split at p
  case isFalse => exact p.elim
  rename_i hi
  have p : KE G F H σ T Q (.li .fz, .lst ds) S := p
  refine ⟨a, .dK kvs, hH, True.intro, fun od => ?_⟩
  have wl := slots_lock (o := od) hH (slots_frz st.sub st.sl) (fun s hs kd e => by
    obtain ⟨s0, _, e0⟩ := List.mem_map.mp hs
    rw [e] at e0
    cases s0 with
    | none => cases e0
    | some k0 => cases e0; rfl)
  have ei2 : (S.map frz)[i]? = some (some (.fz, .dic kds)) := by rw [List.getElem?_map, ei]; rfl
  obtain ⟨v0, f0, T0, ht, hv, ho, back⟩ := wl.at ei2
  have hH1 : upd H a (.frz od (.dK kvs)) a = some (.frz od (.dK kvs)) := upd_same
  have hr1 : Reps G (upd H a (.frz od (.dK kvs))) (kvs.map (·.2)) (kds.map (·.2)) := (hr.mono st.sub).lock hH
  have st1 : St' G (upd H a (.frz od (.dK kvs))) (upd H a (.frz od (.dK kvs))) σ ((S.map frz).set i (some (.fz, .ldc kds))) nil0 := by
    refine ⟨st.pi, Same.refl _, ?_, fun _ => Nat.zero_le _, fun _ _ => rfl⟩
    have b := back _ _ (some (.ref a)) (some (.fz, .ldc kds)) nil0 (Same.refl _) (fun _ _ _ h => h) (.yes (.fz (.ldc hH1 hk hr1)))
    have e2 : σ.set i (some (.ref a)) = σ := by
      obtain ⟨hi2, q1⟩ := List.getElem?_eq_some_iff.mp hσ
      rw [← q1, List.set_getElem_self]
    rw [e2] at b
    exact b.cast fun x => by have h0 : (nil0 : Cnt) x = f0 x + T0 x := ht x; simp only [nil0, add] at *; omega
  refine hd _ _ σ _ nil0 _ st1 ?_
  rw [em]
  intro v F' H' T' f s' st' o le di
  have sLL : Same (upd H a (.frz od (.dK kvs))) H' := fun b u e => s'.fr b u rfl e
  have hA : H' a = some (.frz od (.dK kvs)) := sLL _ _ hH1
  refine ⟨hA, ?_⟩
  have sHH : Same H (upd H' a (.dK kvs)) := fun b u e => by
    by_cases q : b = a
    · subst q
      rw [hH] at e
      cases e
      exact upd_same
    · rw [upd_ne q]
      exact sLL b u (by rw [upd_ne q]; exact e)
  cases o with
  | @li k b vs ds g h r =>
    obtain ⟨rr, rfl⟩ := reps_fz r
    obtain ⟨sF, st2, s2⟩ := st.exT sHH
    have nb : b ≠ a := fun q => by rw [q, hA] at h; cases h
    have hn : H b = none := by
      rcases s'.nT b (by simp [add, one]) with z | z
      · exact absurd rfl z
      · rw [upd_ne nb] at z; exact z
    have h2 : upd H' a (.dK kvs) b = some (.lst vs) := by rw [upd_ne nb]; exact h
    have tz : T b = 0 := Decidable.byContradiction fun n => st.there b n hn
    have r2 : Reps G (exT F (upd H' a (.dK kvs))) vs ds := reps_exT sF hi (reps_unlock hA hi (rr.mono st'.sub))
    refine p (.ref b) _ _ T (add (one b) nil0) ⟨s2.sF, s2.fr, fun c n => ?_, s2.nF, s2.tl⟩ st2 (.li h2 (owns_fz r2)) (fun c => ?_) fun c n => ?_
    · by_cases q : c = b
      · rw [q]; exact .inr hn
      · exact .inl (by simp only [add, one, if_neg q, nil0] at n; omega)
    · by_cases q : c = b
      · rw [q]; simp [add, one, nil0, tz]
      · have := st2.le c; simp only [add, one, if_neg q, nil0]; omega
    · by_cases q : c = b
      · exfalso
        rw [q] at n
        cases z : exT F (upd H' a (.dK kvs)) b with
        | none => exact n z
        | some u =>
          rcases exT_some z with z | ⟨_, _, t⟩
          · have := st.sub _ _ z; rw [hn] at this; cases this
          · rw [h2] at t; rcases t with ⟨_, t⟩ | ⟨_, _, t⟩ <;> cases t
      · simp [add, one, if_neg q, nil0]
end
end TB
namespace TB
end TB
namespace TB
open PySem PySem.Spec PyProof.Rows L2
section
end
section
end
section
end
end TB
namespace TB
open PySem PySem.Spec PyProof.Rows L2
section
end
section
end
end TB
namespace HT
open PySem PySem.Spec PyProof.Rows PySem.Calls
section
end
end HT
namespace L2
open PySem PySem.Spec PyProof.Rows
section
end
end L2
namespace TB
open PySem PySem.Spec PyProof.Rows L2
section
end
end TB
namespace TB
open PySem PySem.Spec PyProof.Rows L2
/-- what is asked of the base, an own class: its __init__ is ValueError's -/
structure BaseC (K : PySem.W.Frag) (B : Addr) : Prop where
  rd : PySem.W.readsIn K B (.type "type") = true
  ga : PySem.W.specialIn K (.ref B) "__getattribute__" = some (some (.builtin "type.__getattribute__"))
  at_ : PySem.W.findCls K (.ref B) (.type "type") "__init__" = some (.val (.builtin "ValueError.__init__"))
section
variable {X : Cx} {e : Expr} {es : List Expr} {ta : TA} {x : PySem.Str} {p1 p2 pos : Pos} {B : Addr}
theorem pe_binit {pl : Sem Bool} (hB : BaseC X.K B) (hg : Gl X x) (hm : X.mg x = some (.ref B)) (ha : PA X (e :: es) ta) (hdb : (x == ("__debug__" : PySem.Str)) = false := by decide)
    (hc : eval (.Call (.Attribute (.Name x p1) "__init__" p2) (e :: es) [] pos) X.env = (do
      let recv ← eval (.Name x p1) X.env
      standAt p2.atName
      let (g, first) ← holding [recv] (getMethod recv "__init__" pl)
      callWith pos g first (backTo pos (starEach (e :: es) X.env)) (backToKw pos (keywordEach [] X.env))) := by rfl)
    (he : starEach (e :: es) X.env = (false, eval e X.env) :: starEach es X.env := by rfl) (hpl : (backTo pos (starEach es X.env)).any (·.1) = false := by rfl) :
    PE X (.Call (.Attribute (.Name x p1) "__init__" p2) (e :: es) [] pos) (tVeI X.K ta) := by
  constructor
  intro pins s σ H Q I h
  refine PySem.W.methodCall_KW (ld_glob I hg hm ?_ hdb) hc
  refine PySem.W.method_cls I.kIn hB.ga (PySem.W.cls_value I.kIn hB.rd hB.at_ (by decide +kernel) ?_)
  show wpAny _ _ (callWith pos (Value.builtin "ValueError.__init__") [] (backTo pos (starEach (e :: es) X.env)) []) _ _ _
  refine PyProof.Rows.callWith_method1 (thn (ha.run pos pins _ σ H _ (I.tok _) h) ?_) he hpl
  rintro us s1 ⟨vs, H1, I1, r1, a, C, ws, rfl, hl, T, ea, q⟩
  cases r1 with
  | @cons _ u0 _ ur ra rw' =>
    cases (show u0 = Value.ref a from ra)
    exact oinit_ok T I1 ea (by have := Paired.length rw'; rw [sizeLine_eq]; omega) fun s' J => ⟨.non, H1, J, rfl, q⟩
end
def spInit (C : Addr) (fld : PySem.Str) : Sp := fun vs H Q _ => ∃ a y, vs = [.ref a, y] ∧ H a = some (exo a C none) ∧ ∀ dx, H dx = none → dx ≠ a → Q .non (upd (upd H dx (exd dx [(fld, y)])) a (exo a C (some dx)))
section
variable {P : Program} {w : World} {K : PySem.W.Frag} {mg : PySem.Str → Option Value} {base : Heap} {x qual m fld : PySem.Str} {params : Arguments} {body : List Stmt} {scope : Scope} {f C : Addr} {fd : FuncData} {k : Nat}
theorem init_fn (FD : FunD K x qual params body scope [] [] f fd) (S : FnScope ["self", fld] ["self", fld] scope) (T : OexC K C) (hno : PySem.W.findIn K (.ref C) fld = some none)
    (hb : ∀ (cdv : Value) (A : Around) (outer : List Env) (s : Shared) (H : Hp) (E : XK), PSs (cxOf (L2N.CX P w) P w K mg base ["self", fld] qual scope f cdv A outer s H E) body (tSeq (tDrop (tVeI K (tCons (tVar 0) (tCons (tC (.str m)) tNil)))) (tOst K fld (tVar 0) (tVar 1)))) :
    FnOk P w K mg base (L2N.CX P w) (k + 1) f fd ["self", fld] (spInit C fld) := by
  refine FD.ok S (fun vs H Q E ⟨a, y, e, _⟩ => by rw [e]; rfl) fun cdv A outer s H vs Q E hr ⟨a, y, e, ha, hq⟩ => ⟨_, hb cdv A outer s H E, ?_⟩
  subst e
  refine ⟨.ref a, rfl, a, C, [.str m], rfl, (by show 1 ≤ 1000; decide), T, ha, ?_⟩
  refine ⟨y, rfl, .ref a, rfl, a, C, rfl, T, hno, .inl ⟨ha, fun dx n ne => hq dx n ne⟩⟩
end
section
variable {X : Cx} {e : Expr} {es : List Expr} {ta : TA} {x fld : PySem.Str} {p pos : Pos} {C fI : Addr} {k : Nat} {fd : FuncData} {ps : List PySem.Str} {sp : Sp}
theorem pmk_ini (T : OexC X.K C) (iC : PySem.W.findIn X.K (.ref C) "__init__" = some (some (.ref fI))) (tI : PySem.W.typeIn X.K (.ref fI) = some (.type "function"))
    (F1 : FnOk X.prog X.w X.K X.mg X.base (L2N.CX X.prog X.w) k fI fd ps sp) (hr : Room (k + 1) X.A) (hb : Binds X.K fd ps []) (hg : Gl X x) (hm : X.mg x = some (.ref C)) (ha : PA X (e :: es) ta)
    (hdb : (x == ("__debug__" : PySem.Str)) = false := by decide) (he : starEach (e :: es) X.env = (false, eval e X.env) :: starEach es X.env := by rfl) (hpl : (backTo pos (starEach es X.env)).any (·.1) = false := by rfl) :
    L2N.PMk X (.Call (.Name x p) (e :: es) [] pos) (tMkO C sp [] ta) := by
  intro pins s σ H Q I h
  obtain ⟨nm, q, N, bs, bm, sn, sub, ab, col, dd, k0, k1, k2, k3, k5, hC, hbm⟩ := T.cls
  refine wpAny_Call_Name_kw (ld_glob I hg hm ?_ hdb)
  refine PySem.W.callWith_K (h₀ := X.base) I.ok.mod.kin T.kC (thn (ha.run pos pins s σ H _ I h) ?_) he hpl
  rintro us s1 ⟨vs, H1, I1, r1, hz, q1⟩
  refine ⟨I1.kIn, ?_⟩
  show wpAny _ _ (call (.ref C) us) _ _ _
  obtain ⟨hp, g, dr, tk, os⟩ := s1
  have hn : H1 (hp.objs.size + 1) = none := I1.hok.fresh (Nat.le_succ _)
  have hq := q1 (hp.objs.size + 1) hn
  have kk : ∀ b o, hp.get? b = some o → ((hp.push (PySem.W.kdv_tup us)).push (PySem.HandSPX.excO C hp.objs.size)).get? b = some o := fun b o z => Heap.get?_push_of_some _ (Heap.get?_push_of_some _ z)
  have hget : ((hp.push (PySem.W.kdv_tup us)).push (PySem.HandSPX.excO C hp.objs.size)).get? (hp.objs.size + 1) = some (PySem.HandSPX.excO C hp.objs.size) := by heap_get
  have I2 := I1.laid (t' := tk) (a := hp.objs.size + 1) (o := exo (hp.objs.size + 1) C none) kk (Nat.le_succ _) (exo_ok hget)
  have r2 : Vals (V.ref (hp.objs.size + 1) :: (vs ++ [])) (Value.ref (hp.objs.size + 1) :: us) := .cons rfl (by simpa using r1)
  have hl : (Value.ref (hp.objs.size + 1) :: us).length = ps.length := by
    have z := r2.length
    rw [F1.len _ _ _ _ hq] at z
    exact z.symm
  have hus : us.length ≤ sizeLine := by
    have z := Paired.length r1
    rw [sizeLine_eq]; omega
  have bnd : BindsTo ⟨(hp.push (PySem.W.kdv_tup us)).push (PySem.HandSPX.excO C hp.objs.size), g, dr, tk, os⟩ fd ⟨Value.ref (hp.objs.size + 1) :: us, []⟩ (ps.zip (Value.ref (hp.objs.size + 1) :: us)) := by
    have z := hb ⟨(hp.push (PySem.W.kdv_tup us)).push (PySem.HandSPX.excO C hp.objs.size), g, dr, tk, os⟩ (Value.ref (hp.objs.size + 1) :: us) I2.kIn (by simpa using hl)
    simpa using z
  refine wpAny_call (PySem.HandSPX.call_own F.excBase_ValueError (fun Y => PySem.HandSPX.refsVE_contains Y bm hbm) (I1.kIn _ _ hC) (PySem.W.looks_findIn I1.kIn iC) (fun self => PySem.W.bind_fn I1.kIn self tI) hus
    (codeAny_mono (F1.run _ X.stack _ _ ⟨Value.ref (hp.objs.size + 1) :: us, []⟩ (Value.ref (hp.objs.size + 1) :: us) _ _ _ (hr.make C us []) (I2.env0.make C us []) bnd r2 hq) ?_))
  rintro (er | fl) s' hq'
  · exact pass_none X pins σ _ _ er s' I2 hq'
  · cases fl with
    | ret u =>
      obtain ⟨v, H2, os2, bare2, un2, hok2, rv, rfl, d, fs, ea, ed, hd1, q2⟩ := hq'
      obtain ⟨h2, g2, d2, t2, os'⟩ := s'
      obtain ⟨t0, G, J, kG, ge, hoe, na⟩ := mk_end0 (d2 := d2) (t2 := t2) I1 (Nat.le_succ _) kk un2 hok2 os2 bare2 ea ed hd1
      exact ⟨rv, hp.objs.size + 1, _, _, ⟨G, g2, d2, t2, os'⟩, _, .ref C, some d, rfl, J, kG, ge, hoe, ⟨rfl, rfl, fun vs z => by cases z; rfl⟩, rfl, rfl, na, rfl, bare2, raises_own T.exC T.tyC, q2⟩
    | _ => exact False.elim hq'
end
def oexClsB (K : PySem.W.Frag) (C : Addr) : Bool := match K.lookup C with
  | some ⟨.type "type", _, .cls cd, sl⟩ => (match cd.mro, sl.toList with
    | .ref C' :: bm, [_, _, _, _, some (.builtin n), _] => C' == C && (n == "ValueError.__new__" && (!cd.hasDel && (cd.hasDict && PySem.HandSPX.refsVE bm)))
    | _, _ => false)
  | _ => false
theorem oexClsB_ok {K : PySem.W.Frag} {C : Addr} (q : oexClsB K C = true) : ∃ nm q N bs bm sn sub ab col dd k0 k1 k2 k3 k5, K.lookup C = some (excClassObj nm q C N bs bm true sn sub ab col dd k0 k1 k2 k3 k5 "ValueError.__new__") ∧ PySem.HandSPX.refsVE bm = true := by
  unfold oexClsB at q
  split at q
  · rename_i dd cd sl ho
    split at q
    · rename_i C' bm k0 k1 k2 k3 n k5 hm hs
      simp only [Bool.and_eq_true, beq_iff_eq, Bool.not_eq_true'] at q
      obtain ⟨rfl, rfl, hdel, hdct, hr⟩ := q
      obtain ⟨nm, bs, mro, ns, qn, hd, sn, sub, ab, col, del⟩ := cd
      dsimp only at hm hdel hdct
      subst hm hdel hdct
      obtain ⟨l⟩ := sl
      simp only at hs
      subst hs
      exact ⟨nm, qn, ns, bs, bm, sn, sub, ab, col, dd, k0, k1, k2, k3, k5, ho, hr⟩
    · cases q
  · cases q
/-- a class of refusals with an __init__ of its own -/
structure IniC (K : PySem.W.Frag) (C fI : Addr) (fld : PySem.Str) : Prop where
  ox : OexC K C
  init : PySem.W.findIn K (.ref C) "__init__" = some (some (.ref fI))
  fn : PySem.W.typeIn K (.ref fI) = some (.type "function")
  no : PySem.W.findIn K (.ref C) fld = some none
  xf : XfC K C
def iniB (K : PySem.W.Frag) (C fI : Addr) (fld : PySem.Str) : Bool := oexClsB K C && (decide (PySem.W.findIn K (.ref C) "__setattr__" = some (some (.builtin "object.__setattr__"))) && (decide (PySem.W.subIn K (.ref C) (.type "BaseException") = some true) && (decide (PySem.W.typeIn K (.ref C) = some (.type "type")) &&
  (PySem.W.keepIn K (.ref C) && (decide (PySem.W.findIn K (.ref C) "__init__" = some (some (.ref fI))) && (decide (PySem.W.typeIn K (.ref fI) = some (.type "function")) && (decide (PySem.W.findIn K (.ref C) fld = some none) && xfB K C)))))))
theorem iniB_ok {K : PySem.W.Frag} {C fI : Addr} {fld : PySem.Str} (h : iniB K C fI fld = true) : IniC K C fI fld := by
  simp only [iniB, Bool.and_eq_true, decide_eq_true_eq] at h
  obtain ⟨h1, h2, h3, h4, h5, h6, h7, h8, h9⟩ := h
  exact ⟨⟨oexClsB_ok h1, h2, h3, h4, h5⟩, h6, h7, h8, xfB_ok h9⟩
def baseB (K : PySem.W.Frag) (B : Addr) : Bool := PySem.W.readsIn K B (.type "type") && (decide (PySem.W.specialIn K (.ref B) "__getattribute__" = some (some (.builtin "type.__getattribute__"))) && (match PySem.W.findCls K (.ref B) (.type "type") "__init__" with
  | some (.val v) => v == .builtin "ValueError.__init__"
  | _ => false))
theorem baseB_ok {K : PySem.W.Frag} {B : Addr} (h : baseB K B = true) : BaseC K B := by
  simp only [baseB, Bool.and_eq_true, decide_eq_true_eq] at h
  obtain ⟨h1, h2, h3⟩ := h
  refine ⟨h1, h2, ?_⟩
  split at h3
  · rename_i v e
    rw [e, beq_iff_eq.mp h3]
  · cases h3
section
variable {X : Cx} {G : Cfgx} {W : WX} {k : Nat}
theorem del_upd {H : Hp} {a dx : Addr} {o1 o2 o3 : HO} (ha : H a = none) (hd : H dx = none) (ne : dx ≠ a) (o : HO) : upd (del (upd (upd (upd H a o1) dx o2) a o3) a) dx o = upd H dx o := by
  funext b
  by_cases h1 : b = dx
  · rw [h1, upd_same, upd_same]
  · rw [upd_ne h1, upd_ne h1]
    by_cases h2 : b = a
    · rw [h2, del_same, ha]
    · rw [del_ne h2, upd_ne h2, upd_ne h1, upd_ne h2]
theorem tr_raiseI (c : Nat) {x fld : PySem.Str} {e : Expr} {m : E} {j : Nat} {fI : Addr} {fd : FuncData} {p pos pos' : Pos} (C : Cok X G W k) (hj : j + 1 ≤ k) (I : IniC X.K (G.ca c) fI fld) (F1 : FnOk X.prog X.w X.K X.mg X.base (L2N.CX X.prog X.w) j fI fd ["self", fld] (spInit (G.ca c) fld)) (hb : Binds X.K fd ["self", fld] [])
    (hm : X.mg x = some (.ref (G.ca c))) (hcn : G.cn c = [fld]) (h : TrE X G W e m) (hg : Gl X x := by rfl) (hdb : (x == ("__debug__" : PySem.Str)) = false := by decide) (he : starEach [e] X.env = (false, eval e X.env) :: starEach [] X.env := by rfl) :
    TrS X G W (.Raise (some (.Call (.Name x p) [e] [] pos)) none pos') (sRaiseI c m) := by
  obtain ⟨t, q, d⟩ := h
  refine ⟨_, L2N.ps_raise C.calm C.tk (pmk_ini I.ox I.init I.fn F1 (C.room.mono hj) hb hg hm (pa_cons q pa_nil he) hdb he rfl), fun F H σ S T D st z => ?_⟩
  refine d.dat F H σ S T _ st (PRs.bind z fun dd S1 y => ?_)
  intro v F1 H1 T1 s1 st1 r1
  cases dd with
  | int i =>
    cases r1
    have y : PXs G W F H T ⟨c, .int i⟩ S1 := y
    refine ⟨by show 1 ≤ 1000; decide, fun a ha => ⟨a, .int i, rfl, upd_same, fun dx hdx ne => ⟨rfl, dx, [(fld, .int i)], upd_same, ?_, ?_, ?_⟩⟩⟩
    · rw [upd_ne ne, upd_same]
    · rw [upd_ne ne] at hdx; exact hdx
    · rw [upd_ne ne] at hdx
      rw [del_upd ha hdx ne]
      have k12 : Same H1 (upd H1 dx (.xd [(fld, V.int i)])) := fun b o z => by
        rw [upd_ne (ne_of_none z hdx)]; exact z
      have td : T1 dx = 0 := Decidable.byContradiction fun w => st1.there dx w hdx
      refine y σ (.ref (G.ca c)) (some dx) F1 (upd H1 dx (.xd [(fld, V.int i)])) T1 (s1.trans ⟨Same.refl F1, fun b o _ z => k12 b o z, fun b z => .inl z, fun b z w => absurd z w, fun b z => ?_⟩) ⟨st1.pi, st1.sub.trans k12, st1.sl.mono (Same.refl F1) fun b o _ z => k12 b o z, st1.le, st1.di⟩ ⟨rfl, .inr ⟨dx, i, rfl, rfl, ?_⟩⟩
      · cases w : H1 b with
        | none => exact absurd w z
        | some o => rw [k12 b o w]; simp
      · rw [upd_same, hcn]
        rfl
  | _ => exact y.elim
end
end TB
namespace TB
open PySem PySem.Spec PyProof.Rows L2 L2H
section
end
end TB
namespace TB
/-- 1 << k, i >> k, i & 1 -/
def fShl1 : D → D → Option KD
  | .int i, .int j => if i = 1 ∧ 0 ≤ j ∧ j ≤ 1000 then kz (.int (2 ^ j.toNat)) else none
  | _, _ => none
def fShr : D → D → Option KD
  | .int i, .int j => if 0 ≤ j ∧ j ≤ 1000 then kz (.int (i / 2 ^ j.toNat)) else none
  | _, _ => none
def fAnd1 : D → D → Option KD
  | .int i, .int j => if 0 ≤ i ∧ j = 1 then kz (.int (i % 2)) else none
  | _, _ => none
/-- x += e, x -= e of a number -/
def sAugI (i : Nat) (sub : Bool) (e : E) : St := fun S => match S[i]? with
  | some (some (.fz, .int x)) => (eDat e S).bind fun d S1 => match d with
    | .int y => if i < S1.length then .ok .nx (S1.set i (some (.fz, .int (if sub then x - y else x + y)))) else .bad
    | _ => .bad
  | _ => .bad
end TB
namespace TB
def fMinA : List D → Option KD := fOr1 fMin2 fMinL
def fMaxA : List D → Option KD := fOr1 fMax2 fMaxL
/-- [] whose items will be of a kind -/
def eNewL (k : Kd) : E := M.pure (.li k, .lst [])
/-- o.append([]) of an own list of own lists -/
def pAppN (i : Nat) (ps : List PS) : E := fun S => match tgt i ps S with
  | some t => match t.k, t.d with
    | .li (.li kk), .lst xs => if xs.length < sizeMax then pOk (.fz, .non) (t.put i (.li (.li kk), .lst (xs ++ [.lst []])) S) else .bad
    | _, _ => .bad
  | none => .bad
def fLenD : List D → Option KD
  | [.dic kvs] => kz (.int kvs.length)
  | _ => none
end TB
namespace TB
open PySem PySem.Spec PyProof.Rows L2
section
variable {X : Cx} {G : Cfgx} {W : WX} {k : Nat}
theorem cls_shl1 : ∃ r, OpR X (binaryOp .LShift) r ∧ S2 G r fShl1 := by
  refine ⟨_, op_oneShl, fun F H σ S T x y dx dy kd Q st rx ry e k => ?_⟩
  cases rx <;> cases ry <;> simp only [fShl1, reduceCtorEq] at e
  rename_i i j
  split at e
  · rename_i h
    cases e
    obtain ⟨rfl, h0, h1⟩ := h
    exact ⟨j.toNat, rfl, by rw [Int.toNat_of_nonneg h0], by omega, KE.val k st (.int _)⟩
  · cases e
theorem cls_shr : ∃ r, OpR X (binaryOp .RShift) r ∧ S2 G r fShr := by
  refine ⟨_, op_shrN, fun F H σ S T x y dx dy kd Q st rx ry e k => ?_⟩
  cases rx <;> cases ry <;> simp only [fShr, reduceCtorEq] at e
  rename_i i j
  split at e
  · rename_i h
    cases e
    exact ⟨i, j.toNat, rfl, by rw [Int.toNat_of_nonneg h.1], KE.val k st (.int _)⟩
  · cases e
theorem cls_and1 : ∃ r, OpR X (binaryOp .BitAnd) r ∧ S2 G r fAnd1 := by
  refine ⟨_, op_odd, fun F H σ S T x y dx dy kd Q st rx ry e k => ?_⟩
  cases rx <;> cases ry <;> simp only [fAnd1, reduceCtorEq] at e
  rename_i i j
  split at e
  · rename_i h
    cases e
    obtain ⟨h0, rfl⟩ := h
    refine ⟨i.toNat, by rw [Int.toNat_of_nonneg h0], rfl, ?_⟩
    have : ((i.toNat % 2 : Nat) : Int) = i % 2 := by omega
    rw [this]
    exact KE.val k st (.int _)
  · cases e
theorem tr_LShift {a b : Expr} {ma mb : E} {pos : Pos} (C : Cok X G W k) (ha : TrE X G W a ma) (hb : TrE X G W b mb) : TrE X G W (.BinOp a .LShift b pos) (eOp fShl1 ma mb) := by
  obtain ⟨r, ho, hs⟩ := cls_shl1 (X := X) (G := G)
  exact tr_op ho hs ha hb
theorem tr_RShift {a b : Expr} {ma mb : E} {pos : Pos} (C : Cok X G W k) (ha : TrE X G W a ma) (hb : TrE X G W b mb) : TrE X G W (.BinOp a .RShift b pos) (eOp fShr ma mb) := by
  obtain ⟨r, ho, hs⟩ := cls_shr (X := X) (G := G)
  exact tr_op ho hs ha hb
theorem tr_BitAnd {a b : Expr} {ma mb : E} {pos : Pos} (C : Cok X G W k) (ha : TrE X G W a ma) (hb : TrE X G W b mb) : TrE X G W (.BinOp a .BitAnd b pos) (eOp fAnd1 ma mb) := by
  obtain ⟨r, ho, hs⟩ := cls_and1 (X := X) (G := G)
  exact tr_op ho hs ha hb
theorem den_augI {i : Nat} {sub : Bool} {te : TE} {m : E} (hp : G.pk.contains i = false) (h : DenE G W te m) : DenS G W (tAug i te (ipI fun a b => if sub then a - b else a + b)) (sAugI i sub m) := fun F H σ S T D st z => by
  unfold sAugI at z
  cases e : S[i]? with
  | none => rw [e] at z; exact z.elim
  | some s =>
    cases s with
    | none => rw [e] at z; exact z.elim
    | some kd =>
      obtain ⟨kk, dd⟩ := kd
      obtain ⟨v, f, hv, o, _⟩ := st.sl.var e
      rw [e] at z
      cases o with
      | fz r =>
        cases r with
        | int x =>
          refine ⟨.int x, hv, h.dat F H σ S T _ st (PRs.bind z fun d S1 y => ?_)⟩
          intro w F1 H1 T1 s1 st1 r1
          cases d with
          | int j =>
            cases r1
            have y : PRs G W F H T (KS G F H T D) (if i < S1.length then .ok .nx (S1.set i (some (.fz, .int (if sub then x - j else x + j)))) else .bad) := y
            refine ⟨x, j, rfl, rfl, ?_⟩
            by_cases hl : i < S1.length
            · rw [if_pos hl] at y
              obtain ⟨T2, st2, l2⟩ := st1.set (f := nil0) hl (pin_ok hp) (.fz (.int (if sub then x - j else x + j))) (fun a => by have := st1.le a; simp only [nil0]; omega) (fun a n => rfl)
              exact (show KS G F H T D .nx _ from y) _ F1 H1 T2 (s1.less fun a => by have := l2 a; simpa [add, nil0] using this) st2
            · rw [if_neg hl] at y
              exact y.elim
          | _ => exact y.elim
        | _ => exact z.elim
      | _ => exact z.elim
theorem tr_augIs (i : Nat) {x : PySem.Str} {e : Expr} {m : E} {pos pos' : Pos} (C : Cok X G W k) (h : TrE X G W e m) (hp : G.pk.contains i = false := by rfl) (hi : X.N[i]? = some x := by rfl) (hx : Loc X.env.scope x := by first | exact Or.inl rfl | exact Or.inr rfl)
    (hf : X.fn x = true ∨ X.env.scope.names.lookup x = some .local := by first | exact .inl rfl | exact .inr rfl) : TrS X G W (.AugAssign (.Name x pos') .Sub e pos) (sAugI i true m) := by
  obtain ⟨t, q, d⟩ := h
  exact ⟨_, ps_aug C.nd hi hx q ip_sub hf, den_augI (sub := true) hp d⟩
end
end TB
namespace TB
open PySem PySem.Spec PyProof.Rows L2
section
variable {X : Cx} {G : Cfgx} {W : WX} {k : Nat}
/-- what a method of a list does -/
def MthOk2 (G : Cfgx) (r : V → List V → Hp → VK → Prop) (f : List D → List D → Option (D × List D)) : Prop := ∀ F H a vs xs us ds d ys Q, Same F H → H a = some (.lst vs) → Reps G F vs xs → Reps G F us ds → f xs ds = some (d, ys) → (∀ v ws, Rep G F v d → Reps G F ws ys → Q v (upd H a (.lst ws))) → r (.ref a) us H Q
theorem tr_mth2 (i : Nat) {x name : PySem.Str} {id : String} {r : V → List V → Hp → VK → Prop} {f : List D → List D → Option (D × List D)} {e : Expr} {es : List Expr} {ms : List E} {p apos cpos : Pos} (slot : PySem.Slot "list" name id) (hty : typeOf (.builtin id) = pure (.type "method_descriptor")) (hm : MtR X id r) (ok : MthOk2 G r f) (h : TrA X G W (e :: es) ms)
    (hN : X.N[i]? = some x := by rfl) (hv : Vis X.env.scope x := by first | exact Or.inl rfl | exact Or.inr (Or.inl rfl) | exact Or.inr (Or.inr rfl)) (hd : (x == ("__debug__" : PySem.Str)) = false := by decide) (hcd : (x == ("__classdict__" : PySem.Str)) = false := by decide)
    (hbase : attributeBase (.Name x p) name X.env (eval (.Name x p) X.env) = eval (.Name x p) X.env := by rfl)
    (hfew : ((backTo cpos (starEach (e :: es) X.env)).all (fun x => !x.1) && (backToKw cpos (keywordEach [] X.env)).all (fun x => x.1.isSome)
      && decide ((e :: es).length + ([] : List Keyword).length + (if ([] : List Keyword).isEmpty then 0 else 1) < 30)) = true := by rfl)
    (hline : (apos.endLine == cpos.line) = true := by rfl) (hs : starEach (e :: es) X.env = (false, eval e X.env) :: starEach es X.env := by rfl) (hplain : (backTo cpos (starEach es X.env)).any (·.1) = false := by rfl) :
    TrE X G W (.Call (.Attribute (.Name x p) name apos) (e :: es) [] cpos) (eMth f i ms) := by
  obtain ⟨u, q2, d2⟩ := h
  refine ⟨_, pe_bm F.plainAttrs_list slot hty hm (pe_var hN hv hd hcd) q2 hbase hfew hline hs hplain, fun F H σ S T Q st z => ?_⟩
  obtain ⟨⟨xs0, e0⟩, z1⟩ := has_list st z
  obtain ⟨a, vs0, hv0, hH0, _⟩ := own_list st e0
  refine ⟨_, hv0, .inl ⟨rfl, vs0, .inl (.inl hH0)⟩, ?_⟩
  refine d2 F H σ S T _ st (PR.bind z1 fun ds S2 z2 => ?_)
  intro us F2 H2 T2 s2 st2 r2
  cases e2 : ownL S2 i with
  | none => rw [e2] at z2; exact z2.elim
  | some xs =>
    rw [e2] at z2
    obtain ⟨a', vs, hv2, hH, rs, _, up⟩ := own_list st2 e2
    rw [hv0] at hv2
    cases hv2
    have z2 : PR G W F H σ T (KE G F H σ T Q) (match f xs ds with | some (r, ys) => .ok (.fz, r) (S2.set i (some (.li .fz, .lst ys))) | none => .bad) := z2
    cases e3 : f xs ds with
    | none => rw [e3] at z2; exact z2.elim
    | some dy =>
      obtain ⟨d, ys⟩ := dy
      rw [e3] at z2
      have z2 : KE G F H σ T Q (.fz, d) (S2.set i (some (.li .fz, .lst ys))) := z2
      refine ok F2 H2 a vs xs us ds d ys Q st2.sub hH rs r2 e3 fun v ws rv rws => ?_
      obtain ⟨st3, s3⟩ := up ws ys rws
      exact z2 v F2 _ T2 nil0 ((s2.trans s3).castR fun a => rfl) st3 (.fz rv) (fun a => st3.le a) fun _ _ => rfl
theorem mo_extend : MthOk2 G rExtend fExtend := by
  intro F H a vs xs us ds d ys Q sub hH rs ru e q
  cases ru with
  | nil => cases e
  | cons r1 r2 =>
    cases r2 with
    | cons a b => cases r1 <;> cases e
    | nil =>
      cases r1 with
      | @lst b us2 zs hb rz =>
        have e : (if xs.length + zs.length ≤ sizeMax then some (D.non, xs ++ zs) else none) = some (d, ys) := e
        split at e
        · rename_i hz
          cases e
          have l : sizeLine = sizeMax := rfl
          exact ⟨a, b, vs, us2, rfl, rfl, hH, sub _ _ hb, by rw [rs.len, rz.len, l]; exact hz, q _ _ .non (rs.app rz)⟩
        · cases e
      | _ => cases e
theorem tr_extend (i : Nat) {x : PySem.Str} {e : Expr} {m : E} {p apos cpos : Pos} (h : TrE X G W e m) (hs : starEach [e] X.env = (false, eval e X.env) :: starEach [] X.env := by rfl)
    (hN : X.N[i]? = some x := by rfl) (hv : Vis X.env.scope x := by first | exact Or.inl rfl | exact Or.inr (Or.inl rfl) | exact Or.inr (Or.inr rfl)) (hd : (x == ("__debug__" : PySem.Str)) = false := by decide) (hcd : (x == ("__classdict__" : PySem.Str)) = false := by decide)
    (hbase : attributeBase (.Name x p) "extend" X.env (eval (.Name x p) X.env) = eval (.Name x p) X.env := by rfl)
    (hfew : ((backTo cpos (starEach [e] X.env)).all (fun x => !x.1) && (backToKw cpos (keywordEach [] X.env)).all (fun x => x.1.isSome)
      && decide ([e].length + ([] : List Keyword).length + (if ([] : List Keyword).isEmpty then 0 else 1) < 30)) = true := by rfl)
    (hline : (apos.endLine == cpos.line) = true := by rfl) (hplain : (backTo cpos (starEach [] X.env)).any (·.1) = false := by rfl) :
    TrE X G W (.Call (.Attribute (.Name x p) "extend" apos) [e] [] cpos) (eMth fExtend i [m]) :=
  tr_mth2 i PySem.F.slot_list_extend PySem.F.type_list_extend mt_extend mo_extend (tra_cons h tra_nil hs) hN hv hd hcd hbase hfew hline hs hplain
end
end TB
namespace TB
open PySem PySem.Spec PyProof.Rows L2
section
variable {X : Cx} {G : Cfgx} {W : WX} {k : Nat} {F H : Hp} {σ : L2.St} {S : List Slot} {T : Cnt}
theorem tr_b_minA (C : Cok X G W k) {p pos : Pos} {e : Expr} {es : List Expr} {ms : List E} (hm : X.mg "min" = none) (hg : Gl X "min") (ha : TrA X G W (e :: es) ms) (he : starEach (e :: es) X.env = (false, eval e X.env) :: starEach es X.env := by rfl) (hpl : (backTo pos (starEach es X.env)).any (·.1) = false := by rfl) : TrE X G W (.Call (.Name "min" p) (e :: es) [] pos) (eApp fMinA ms) := by
  obtain ⟨r, h1, h2⟩ := cls_minL (X := X) (G := G) C.hK C.room C.calm
  exact tr_callB h1 h2 hm (by rfl) ha hg (by decide) (by decide) he hpl
theorem tr_b_maxA (C : Cok X G W k) {p pos : Pos} {e : Expr} {es : List Expr} {ms : List E} (hm : X.mg "max" = none) (hg : Gl X "max") (ha : TrA X G W (e :: es) ms) (he : starEach (e :: es) X.env = (false, eval e X.env) :: starEach es X.env := by rfl) (hpl : (backTo pos (starEach es X.env)).any (·.1) = false := by rfl) : TrE X G W (.Call (.Name "max" p) (e :: es) [] pos) (eApp fMaxA ms) := by
  obtain ⟨r, h1, h2⟩ := cls_maxL (X := X) (G := G) C.hK C.room C.calm
  exact tr_callB h1 h2 hm (by rfl) ha hg (by decide) (by decide) he hpl
theorem call_lenR : CallR X (.builtin "len") (fun xs H Q => ∃ a kvs, xs = [V.ref a] ∧ Rd H a (.dK kvs) ∧ Q (.int kvs.length) H) := by
  intro pins s σ H xs us Q I r h
  obtain ⟨a, kvs, rfl, ha, q⟩ := h
  obtain ⟨u, rfl, ru⟩ := vals1 r
  cases ru
  exact d_len I ha fun t s' I' => ⟨.int kvs.length, H, I', ⟨t, rfl⟩, q⟩
theorem cls_lenD : ∃ r, CallR X (.builtin "len") r ∧ SN G r fLenD := by
  refine ⟨_, call_lenR, fun F H σ S T xs ds kd Q st rs e k => ?_⟩
  cases rs with
  | nil => simp [fLenD] at e
  | cons r1 r2 =>
    cases r2 with
    | cons _ _ => cases r1 <;> simp [fLenD] at e
    | nil =>
      cases r1 <;> simp only [fLenD, kz, reduceCtorEq] at e
      cases e
      rename_i a kvs kds h1 hk rr
      have hl : kds.length = kvs.length := by have := congrArg List.length hk; simpa using this
      exact ⟨a, kvs, rfl, same_rd st.sub h1, by rw [← hl]; exact KE.val k st (.int _)⟩
theorem tr_b_lenD (C : Cok X G W k) {p pos : Pos} {e : Expr} {es : List Expr} {ms : List E} (hm : X.mg "len" = none) (hg : Gl X "len") (ha : TrA X G W (e :: es) ms) (he : starEach (e :: es) X.env = (false, eval e X.env) :: starEach es X.env := by rfl) (hpl : (backTo pos (starEach es X.env)).any (·.1) = false := by rfl) : TrE X G W (.Call (.Name "len" p) (e :: es) [] pos) (eApp fLenD ms) := by
  obtain ⟨r, h1, h2⟩ := cls_lenD (X := X) (G := G)
  exact tr_callB h1 h2 hm (by rfl) ha hg (by decide) (by decide) he hpl
theorem tr_newL (kk : Kd) {pos : Pos} : TrE X G W (.List [] pos) (eNewL kk) := ⟨_, pe_lst pa_nil, fun F H σ S T Q st z => by
  have z : KE G F H σ T Q (.li kk, .lst []) S := z
  refine ⟨Nat.zero_le _, fun p hp => ?_⟩
  obtain ⟨st2, s, le, fp⟩ := st.newT (o := .lst []) hp
  refine z (.ref p) F _ T (add (one p) nil0) (s.castR fun a => rfl) st2 (.li upd_same .nil) (fun a => le a) fun a n => ?_
  by_cases q : a = p
  · subst q; rw [fp] at n; exact absurd rfl n
  · simp [add, one, nil0, q]⟩
/-- something owned more, behind the others -/
theorem list_app {g : Tgt} {i : Nat} {a : Addr} {vs : List V} {xs : List D} {kk : Kd} {gg fe f' T0 : Cnt} {v : V} {d : D} {S1 : List Slot} (st : St' G F H σ S T) (ho : H a = some (.lst vs)) (r : Owns G F H kk vs xs gg)
    (hf' : ∀ b, f' b = one a b + gg b) (hT : ∀ b, T b = f' b + T0 b)
    (back : ∀ F1 H1 k1 d1 f1 S1, Same F F1 → Same F1 H1 → (∀ a o, T0 a ≠ 0 → H a = some o → H1 a = some o) → Own G F1 H1 k1 (.ref a) d1 f1 → (∀ a, f1 a + T0 a ≤ 1) → (∀ a, F1 a ≠ none → f1 a + T0 a = 0) → g.put i (k1, d1) S = some S1 → St' G F1 H1 σ S1 (add f1 T0))
    (oe : Own G F H kk v d fe) (le : ∀ b, T b + fe b ≤ 1) (di : ∀ b, F b ≠ none → fe b = 0) (es : g.put i (.li kk, .lst (xs ++ [d])) S = some S1) :
    ∃ T', St' G F (upd H a (.lst (vs ++ [v]))) σ S1 T' ∧ Step F H (add T fe) F (upd H a (.lst (vs ++ [v]))) T' := by
  have ga : gg a = 0 := by have := hf' a; have := hT a; have := st.le a; simp only [one, if_true] at *; omega
  have fa : fe a = 0 := by have := hf' a; have := hT a; have := le a; simp only [one, if_true] at *; omega
  obtain ⟨g', h2, l⟩ := r.app1 oe
  have ow : Own G F (upd H a (.lst (vs ++ [v]))) (.li kk) (.ref a) (.lst (xs ++ [d])) (add (one a) g') := by
    refine .li upd_same (h2.mono (Same.refl F) fun b u nb e => ?_)
    rw [upd_ne (fun q => by rw [q] at nb; have := l a; omega)]; exact e
  obtain ⟨x, y⟩ := put_core st hT (by rw [hf' a]; simp [one]) back le di ow (fun b => by have := l b; have := hf' b; simp only [add]; omega) es
  exact ⟨_, x, y⟩
/-- o.append([]) -/
theorem tr_pAppN {o : Expr} {i : Nat} {ps : List PS} {lpos apos cpos : Pos} (ho : TrP X G o i ps) (hbase : attributeBase o "append" X.env (eval o X.env) = eval o X.env := by rfl)
    (hfew : ((backTo cpos (starEach [.List [] lpos] X.env)).all (fun x => !x.1) && (backToKw cpos (keywordEach [] X.env)).all (fun x => x.1.isSome)
      && decide ([Expr.List [] lpos].length + ([] : List Keyword).length + (if ([] : List Keyword).isEmpty then 0 else 1) < 30)) = true := by rfl)
    (hline : (apos.endLine == cpos.line) = true := by rfl) (hs : starEach [.List [] lpos] X.env = (false, eval (.List [] lpos) X.env) :: starEach [] X.env := by rfl) (hplain : (backTo cpos (starEach [] X.env)).any (·.1) = false := by rfl) :
    TrE X G W (.Call (.Attribute o "append" apos) [.List [] lpos] [] cpos) (pAppN i ps) := by
  obtain ⟨t, p, d⟩ := ho
  refine ⟨_, pe_bm F.plainAttrs_list F.slot_list_append F.type_list_append mt_append p (pa_cons (pe_lst pa_nil) pa_nil hs) hbase hfew hline hs hplain, fun F H σ S T Q st z => ?_⟩
  unfold pAppN at z
  cases eg : tgt i ps S with
  | none => rw [eg] at z; exact z.elim
  | some g =>
    rw [eg] at z
    obtain ⟨pv, rk, rd, gk, gd⟩ := g
    simp only at z
    split at z
    · rename_i kk xs
      split at z
      · rename_i hz
        refine d F H σ S T _ _ st eg fun v0 w F1 H1 s1 st1 h1 hv nv => ?_
        obtain ⟨v0', v', f', T0, hv', hT, nv', o', back⟩ := tgt_own st1 eg
        rw [hv] at hv'; cases hv'
        have := nv.uniq nv'
        subst this
        cases o' with
        | @li _ a vs _ gg hl rl =>
          refine ⟨.inl ⟨rfl, vs, .inl (.inl hl)⟩, ⟨Nat.zero_le _, fun q hq => ?_⟩⟩
          obtain ⟨st2, s2, le, fp⟩ := st1.newT (o := .lst []) hq
          have h2 : Same H1 (upd H1 q (.lst [])) := fun b u e => by rw [upd_ne (ne_of_none e hq)]; exact e
          obtain ⟨w0, w', f2, T2, hw, hT2, nw, o2, back2⟩ := tgt_own st2 eg
          rw [hv] at hw; cases hw
          have := (nv.mono h2).uniq nw
          subst this
          cases o2 with
          | @li _ _ vs2 _ gg2 hl2 rl2 =>
            have ln : vs2.length = xs.length := rl2.len
            have l2 : sizeLine = sizeMax := rfl
            cases es : (⟨pv, rk, rd, .li (.li kk), .lst xs⟩ : Tgt).put i (.li (.li kk), .lst (xs ++ [.lst []])) S with
            | none => rw [es] at z; exact z.elim
            | some S3 =>
              rw [es] at z
              have z : KE G F H σ T Q (.fz, .non) S3 := z
              have oe : Own G F1 (upd H1 q (.lst [])) (.li kk) (.ref q) (.lst []) (add (one q) nil0) := .li upd_same .nil
              obtain ⟨T3, st3, s3⟩ := list_app (v := .ref q) st2 hl2 rl2 (fun b => rfl) hT2 back2 oe (fun b => by have := le b; simp only [add, nil0]; omega) (fun b n => by
                by_cases q' : b = q
                · subst q'; rw [fp] at n; exact absurd rfl n
                · simp [add, one, nil0, q']) es
              refine ⟨a, vs2, .ref q, rfl, rfl, hl2, by rw [ln, l2]; exact hz, ?_⟩
              exact z .non F1 _ T3 nil0 (((s1.trans s2).trans (s3.castL fun b => by simp only [add, nil0]; omega)).castR fun a => rfl) st3 (.fz .non) (fun a => st3.le a) fun _ _ => rfl
      · exact z.elim
    · exact z.elim
theorem get_dK (hu : X.A.units + 1 < cLine) : PGet X (fun x y H Q => ∃ a v, x = .ref a ∧ DGet H a y (some v) ∧ Q v H) := by
  intro pins s σ H o i ov iv Q I ro ri h
  obtain ⟨a, v, rfl, g, q⟩ := h
  cases ro
  exact d_getItem hu I g ri fun w' s' I' rw' => ⟨v, H, I', rw', q⟩
/-- o[k] op= e of an own dict -/
theorem tr_augD (s : Bool) {op : Operator} {o e ke : Expr} {i : Nat} {ps : List PS} {n m : E} {p' pos : Pos} (C : Cok X G W k) (h : TrP X G o i ps) (hk : TrQ X G ke n) (he : TrQ X G e m) (ho : augOp s = op := by rfl)
    (ha : ∀ ov iv new, augStore ke ov iv new = (do holding [new, ov, iv] (setItem ov iv new); release [new, ov, iv] []; pure .next) := by intros; rfl) : TrS X G W (.AugAssign (.Subscript o ke p') op e pos) (pAugD i ps n s m) := by
  obtain ⟨t, p, d⟩ := h
  obtain ⟨u, q, d2⟩ := he
  obtain ⟨t3, q3, d3⟩ := hk
  subst ho
  have hu : X.A.units + 1 < cLine := by have := C.room.units; omega
  refine ⟨_, ps_augS p q3 (get_dK hu) q (ip_aug s) (set_dict hu) ha, fun F H σ S T D st z => ?_⟩
  unfold pAugD at z
  cases eg : tgt i ps S with
  | none => rw [eg] at z; exact z.elim
  | some g =>
    cases ek : eFzD n S with
    | none => rw [eg, ek] at z; exact z.elim
    | some x =>
      cases ev : eFzD m S with
      | none => rw [eg, ek, ev] at z; exact z.elim
      | some y =>
        rw [eg, ek, ev] at z
        cases y <;> first | exact z.elim | skip
        rename_i y
        obtain ⟨pv, rk, rd, gk, gd⟩ := g
        simp only at z
        split at z
        · rename_i kds
          split at z
          · rename_i hc
            obtain ⟨hx, hz⟩ := hc
            split at z
            · rename_i old e4
              cases es : (⟨pv, rk, rd, .dK .fz, .dic kds⟩ : Tgt).put i (.dK .fz, .dic (putD kds x (.int (augI s old y)))) S with
              | none => rw [es] at z; exact z.elim
              | some S2 =>
              rw [es] at z
              refine d F H σ S T _ _ st eg fun v0 w F1 H1 s1 st1 h1 hv nv => ?_
              obtain ⟨S', em⟩ := fzD_eq ek
              refine d3 F1 H1 σ S T _ x S' st1 em fun yv F2 H2 s2 st2 h2 ry => ?_
              obtain ⟨v0', v', f', T0, hv', hT, nv', o', back⟩ := tgt_own st2 eg
              rw [hv] at hv'; cases hv'
              have := (nv.mono h2).uniq nv'
              subst this
              cases o' with
              | @dK _ a kvs _ gg ho hnm rl =>
                obtain ⟨kx, rfl, rfl⟩ := key_of hx ry
                obtain ⟨rr, rfl⟩ := reps_fz rl
                have va := val_at hnm rr kx
                rw [e4] at va
                cases q4 : valV kvs kx with
                | none => rw [q4] at va; exact va.elim
                | some ov =>
                  rw [q4] at va
                  cases rep_int va
                  refine ⟨a, _, rfl, by have := DGet.k (k := kx) ho; rw [q4] at this; exact this, ?_⟩
                  obtain ⟨S'', en2⟩ := fzD_eq ev
                  refine d2 F2 H2 σ S T _ _ S'' st2 en2 fun wv F3 H3 s3 st3 h3 re => ?_
                  cases rep_int re
                  refine ⟨old, y, rfl, rfl, ?_⟩
                  obtain ⟨w0, w', f2, T2, hw2, hT2, nw, o2, back2⟩ := tgt_own st3 eg
                  rw [hv] at hw2; cases hw2
                  have := ((nv.mono h2).mono h3).uniq nw
                  subst this
                  cases o2 with
                  | @dK _ _ kvs2 _ gg2 ho2 hnm2 rl2 =>
                    obtain ⟨T', st4, s4⟩ := dict_up (v := .int (augI s old y)) (d := .int (augI s old y)) (fe := nil0) st3 ho2 hnm2 rl2 (fun b => rfl) hT2 back2 (.fz (.int _)) (fun b => by simp only [nil0]; exact st3.le b) (fun _ _ => rfl) rfl es
                    have hl : kvs2.length = kds.length := by have := congrArg List.length hnm2; simpa using this.symm
                    have l2 : sizeLine = sizeMax := rfl
                    exact ⟨a, _, rfl, .k ho2 (by rw [hl, l2]; exact hz), nx_of (show KS G F H T D .nx S2 from z) (((s1.trans s2).trans s3).trans (s4.castL fun b => by simp [add, nil0])) st4⟩
            · exact z.elim
          · exact z.elim
        · exact z.elim
end
end TB
noncomputable section
namespace TBH
open PySem PySem.W PySem.Calls PyProof.Rows
def obsA (as : List Addr) (fa : List He.Fa) (fn : List He.DefD) (ts : List He.Tab) (ex : PySem.W.Frag → Bool) (g : Addr → Option Obj) : He.AlT × Bool :=
  (He.obsT fa fn ts (He.frT g as), ex (He.frT g as))
theorem saysA {as : List Addr} {fa : List He.Fa} {fn : List He.DefD} {ts : List He.Tab} {ex : PySem.W.Frag → Bool} {w : World} {h : Heap}
    (e : obsA as fa fn ts ex h.get? = (He.valT fn ts w, true)) : He.SaysX fa fn ts [] ex w h (He.frT h.get? as) :=
  ⟨(congrArg Prod.fst e : He.obsT fa fn ts _ = _), (congrArg Prod.snd e : ex _ = _), fun _ m => absurd m (by simp), fun _ m => absurd m (by simp), fun _ m => absurd m (by simp)⟩
def hookA (as : List Addr) (fa : List He.Fa) (fn : List He.DefD) (ts : List He.Tab) (ex : PySem.W.Frag → Bool) : PySem.W.Hook where
  α := He.AlT × Bool
  obs s := obsA as fa fn ts ex s.heap.get?
  val w := (He.valT fn ts w, true)
  says w h := ∃ K : PySem.W.Frag, K.In h ∧ He.SaysX fa fn ts [] ex w h K
  of _ _ e := ⟨_, He.frT_in, saysA e⟩
  keeps := by
    intro w h h' hs k
    obtain ⟨K, hK, c⟩ := hs
    exact ⟨K, hK.keeps k, c.t, c.more, fun _ m => absurd m (by simp), fun _ m => absurd m (by simp), fun _ m => absurd m (by simp)⟩
theorem obsA_eq {as : List Addr} {fa : List He.Fa} {fn : List He.DefD} {ts : List He.Tab} {ex : PySem.W.Frag → Bool} {g : Addr → Option Obj} {s : Shared}
    (h : ∀ a, g a = s.heap.get? a) : obsA as fa fn ts ex g = (hookA as fa fn ts ex).obs s := by
  have e : g = s.heap.get? := funext h
  subst e
  rfl
end TBH
namespace LW
open TB
/-- is_within -/
def mb_0 (Γ : Nat → Fn) : St := (sRet (eAnd (eIsi .int (eVar 0)) (eAnd (eNot (eIsi .bool (eVar 0))) (eChain fLe fLe (eVar 1) (eVar 0) (eVar 2)))))
abbrev rf_0 (Γ : Nat → Fn) : Fn := runF 3 [] (mb_0 Γ)
/-- is_name -/
def mb_1 (Γ : Nat → Fn) : St := (sRet (eAnd (eIsi .str (eVar 0)) (eAnd (eChain fLe fLe (eCon (.int 1)) (eApp fLen [(eVar 0)]) (eCon (.int 8))) (eApp fAllB [(eLc (itStr (eVar 0)) (.nm 1) [1] tTrue (eOp fInA (eVar 1) (eCon (.str [97, 98, 99, 100, 101, 102, 103, 104, 105, 106, 107, 108, 109, 110, 111, 112, 113, 114, 115, 116, 117, 118, 119, 120, 121, 122]))))]))))
abbrev rf_1 (Γ : Nat → Fn) : Fn := runF 2 [] (mb_1 Γ)
/-- _law_draws -/
def mb_6 (Γ : Nat → Fn) : St := (sSeq (sSet 2 (eFr (eOp fMul (eCon (.int 15485863)) (eVar 1)))) (sSeq (sIf (eBool (eOp fLt (eVar 1) (eApp fLen [(eVar 0)]))) (sSet 2 (eOp fMod (eOp fIx (eVar 0) (eVar 1)) (eOp fMul (eOp fPow (eCon (.int 10)) (eCon (.int 60))) (eOp fPow (eCon (.int 10)) (eCon (.int 60)))))) (sIf (eBool (eOp fGt (eApp fLen [(eVar 0)]) (eCon (.int 0)))) (sSet 2 (eFr (eOp fAdd (eOp fMod (eOp fIx (eVar 0) (eOp fMod (eVar 1) (eApp fLen [(eVar 0)]))) (eOp fPow (eCon (.int 10)) (eCon (.int 15)))) (eOp fMul (eCon (.int 15485863)) (eVar 1))))) sNx)) (sRet (eApp fLst [(eOp fMul (eVar 2) (eApp fIntB [(eOp fGe (eVar 2) (eOp fPow (eCon (.int 10)) (eCon (.int 18))))])), (eOp fAdd (eCon (.int 1)) (eOp fMod (eOp fAdd (eOp fMul (eVar 2) (eCon (.int 69621))) (eOp fMul (eCon (.int 86028121)) (eOp fAdd (eVar 1) (eCon (.int 1))))) (eCon (.int 2147483646))))]))))
abbrev rf_6 (Γ : Nat → Fn) : Fn := runF 3 [] (mb_6 Γ)
/-- _law_draw -/
def mb_7 (Γ : Nat → Fn) : St := (sSeq (sIf (eBool (eOp fGt (eIxO 0 (eCon (.int 0))) (eCon (.int 0)))) (sSeq (sSet 2 (eOp fMod (eIxO 0 (eCon (.int 0))) (eVar 1))) (sSeq (sSetIx 0 (eCon (.int 0)) (eOp fDiv (eIxO 0 (eCon (.int 0))) (eVar 1))) (sRet (eVar 2)))) sNx) (sSeq (sSet 2 (eCon (.int 0))) (sSeq (sSet 3 (eCon (.int 1))) (sSeq (sWhile 64 (eBool (eOp fLt (eVar 3) (eVar 1))) (sSeq (sSetIx 0 (eCon (.int 1)) (eOp fMod (eOp fMul (eIxO 0 (eCon (.int 1))) (eCon (.int 69621))) (eCon (.int 2147483647)))) (sSeq (sSet 2 (eFr (eOp fAdd (eOp fMul (eVar 2) (eCon (.int 268435456))) (eOp fDiv (eOp fMod (eOp fMul (eIxO 0 (eCon (.int 1))) (eOp fAdd (eOp fDiv (eIxO 0 (eCon (.int 1))) (eCon (.int 128))) (eCon (.int 3)))) (eCon (.int 2147483629))) (eCon (.int 8)))))) (sSet 3 (eFr (eOp fMul (eVar 3) (eCon (.int 268435456)))))))) (sRet (eOp fMod (eVar 2) (eVar 1)))))))
abbrev rf_7 (Γ : Nat → Fn) : Fn := runF 4 [0] (mb_7 Γ)
/-- _law_names -/
def mb_37 (Γ : Nat → Fn) : St := (sSeq (sSet 2 (eCon (.str [97, 98, 99, 100, 101, 102, 103, 104, 105, 106, 107, 108, 109, 110, 111, 112, 113, 114, 115, 116, 117, 118, 119, 120, 121, 122]))) (sSeq (sSet 3 (eJoin (eCon (.str [])) (eLc (itRange1 (eOp fIx (eApp fLst [(eCon (.int 0)), (eCon (.int 1)), (eCon (.int 2)), (eCon (.int 7))]) (eCall (Γ 7) [.b 0, .v (eCon (.int 4))]))) (.nm 6) [6] tTrue (eOp fIx (eVar 2) (eCall (Γ 7) [.b 0, .v (eCon (.int 26))]))))) (sSeq (sSet 4 (eCall (Γ 7) [.b 0, .v (eCon (.int 26))])) (sSeq (sSet 5 (eOp fIx (eApp fLst [(eCon (.int 1)), (eCon (.int 3)), (eCon (.int 5)), (eCon (.int 7))]) (eCall (Γ 7) [.b 0, .v (eCon (.int 4))]))) (sRet (eFr (eApp fSorted [(eLc (itRange1 (eVar 1)) (.nm 6) [6] tTrue (eOp fAdd (eVar 3) (eOp fIx (eVar 2) (eOp fMod (eOp fAdd (eVar 4) (eOp fMul (eVar 5) (eVar 6))) (eCon (.int 26))))))])))))))
abbrev rf_37 (Γ : Nat → Fn) : Fn := runF 7 [0] (mb_37 Γ)
/-- are_two -/
def mb_54 (Γ : Nat → Fn) : St := (sRet (eAnd (eCall (Γ 1) [.v (eVar 0)]) (eAnd (eCall (Γ 1) [.v (eVar 1)]) (eOp fNe (eVar 0) (eVar 1)))))
abbrev rf_54 (Γ : Nat → Fn) : Fn := runF 2 [] (mb_54 Γ)
/-- is_going -/
def mb_191 (Γ : Nat → Fn) : St := (sSeq (sIf (tOr (tNot (eBool (eIsi .tuple (eVar 0)))) (tOr (eBool (eOp fNe (eApp fLen [(eVar 0)]) (eCon (.int 3)))) (tNot (eBool (eCall (Γ 54) [.v (eOp fIx (eVar 0) (eCon (.int 0))), .v (eOp fIx (eVar 0) (eCon (.int 1)))]))))) (sRet (eCon (.bl false))) sNx) (sRet (eAnd (eIsi .int (eOp fIx (eVar 0) (eCon (.int 2)))) (eAnd (eNot (eIsi .bool (eOp fIx (eVar 0) (eCon (.int 2))))) (eOp fGt (eOp fIx (eVar 0) (eCon (.int 2))) (eCon (.int 0)))))))
abbrev rf_191 (Γ : Nat → Fn) : Fn := runF 1 [] (mb_191 Γ)
/-- are_goings -/
def mb_192 (Γ : Nat → Fn) : St := (sRet (eAnd (eIsi .list (eVar 0)) (eAnd (eOp fLe (eApp fLen [(eVar 0)]) (eCon (.int 200))) (eApp fAllB [(eLc (itSeq (eVar 0)) (.nm 1) [1] tTrue (eCall (Γ 191) [.v (eVar 1)]))]))))
abbrev rf_192 (Γ : Nat → Fn) : Fn := runF 2 [] (mb_192 Γ)
/-- need_debts -/
def mb_193 (Γ : Nat → Fn) : St := (sIf (tOr (tNot (eBool (eCall (Γ 192) [.v (eVar 0)]))) (tNot (eBool (eApp fAllB [(eLc (itSeq (eVar 0)) (.nm 1) [1] tTrue (eCall (Γ 0) [.v (eOp fIx (eVar 1) (eCon (.int 2))), .v (eCon (.int 1)), .v (eCon (.int 1000000000))]))])))) (sRaise 17) sNx)
abbrev rf_193 (Γ : Nat → Fn) : Fn := runF 2 [] (mb_193 Γ)
/-- balanced -/
def mb_194 (Γ : Nat → Fn) : St := (sSeq (sSet 1 eDnew) (sSeq (sFor (itSeq (eVar 0)) (.tp [(.nm 2), (.nm 3), (.nm 4)]) (sSeq (sDput 1 (eVar 2) (ePeekI (eOp fAdd (eGet3 (eVar 1) (eVar 2) (eCon (.int 0))) (eVar 4)))) (sDput 1 (eVar 3) (ePeekI (eOp fSub (eGet3 (eVar 1) (eVar 3) (eCon (.int 0))) (eVar 4)))))) (sRet (ePeekLI (eLc (itSeq (eApp fSortedB [(eApp fList [(eVar 1)])])) (.nm 2) [2] (eBool (eOp fNe (eOp fGet (eVar 1) (eVar 2)) (eCon (.int 0)))) (eApp fTup [(eVar 2), (eOp fGet (eVar 1) (eVar 2))]))))))
abbrev rf_194 (Γ : Nat → Fn) : Fn := runF 5 [] (mb_194 Γ)
/-- _law_debts -/
def mb_204 (Γ : Nat → Fn) : St := (sSeq (sSet 2 (eCall (Γ 37) [.b 0, .v (eOp fAdd (eCon (.int 2)) (eCall (Γ 7) [.b 0, .v (eOp fSub (eVar 1) (eCon (.int 1)))]))])) (sSeq (sSet 3 (eApp fLst [])) (sSeq (sFor (itRange1 (eCall (Γ 7) [.b 0, .v (eOp fIx (eApp fLst [(eCon (.int 6)), (eCon (.int 20))]) (eCall (Γ 7) [.b 0, .v (eCon (.int 2))]))])) (.nm 4) (sSeq (sSet 5 (eOp fIx (eVar 2) (eCall (Γ 7) [.b 0, .v (eApp fLen [(eVar 2)])]))) (sSeq (sSet 6 (eOp fIx (eVar 2) (eCall (Γ 7) [.b 0, .v (eApp fLen [(eVar 2)])]))) (sIf (eBool (eOp fNe (eVar 5) (eVar 6))) (sDrop (eMth fAppend 3 [(eApp fTup [(eVar 5), (eVar 6), (eOp fAdd (eCon (.int 1)) (eCall (Γ 7) [.b 0, .v (eOp fIx (eApp fLst [(eCon (.int 3)), (eCon (.int 9)), (eOp fPow (eCon (.int 10)) (eCon (.int 9)))]) (eCall (Γ 7) [.b 0, .v (eCon (.int 3))]))]))])])) sNx)))) (sRet (eFzV 3)))))
abbrev rf_204 (Γ : Nat → Fn) : Fn := runF 7 [0] (mb_204 Γ)
/-- _law_balances -/
def mb_205 (Γ : Nat → Fn) : St := (sSeq (sSet 1 eDnew) (sSeq (sFor (itSeq (eVar 0)) (.tp [(.nm 2), (.nm 3), (.nm 4)]) (sFor (itSeq (eApp fLst [(eApp fTup [(eVar 2), (eVar 4)]), (eApp fTup [(eVar 3), (eOp fSub (eCon (.int 0)) (eVar 4))])])) (.tp [(.nm 5), (.nm 6)]) (sDput 1 (eVar 5) (ePeekI (eOp fAdd (eGet3 (eVar 1) (eVar 5) (eCon (.int 0))) (eVar 6)))))) (sRet (eFr (eApp fSortedB [(eLockLI 1 (eLc (itLdc 1) (.nm 5) [5] (eBool (eOp fNe (eOp fGetL (eVar 1) (eVar 5)) (eCon (.int 0)))) (eApp fTup [(eVar 5), (eOp fGetL (eVar 1) (eVar 5))])))])))))
abbrev rf_205 (Γ : Nat → Fn) : Fn := runF 7 [] (mb_205 Γ)
end LW
namespace LW
open TB
end LW
namespace LW
open TB
/-- _law_whole -/
def mb_170 (Γ : Nat → Fn) : St := (sRet (eAnd (eIsi .int (eVar 0)) (eNot (eIsi .bool (eVar 0)))))
abbrev rf_170 (Γ : Nat → Fn) : Fn := runF 1 [] (mb_170 Γ)
/-- settles -/
def mb_196 (Γ : Nat → Fn) : St := (sSeq (sDrop (eCall (Γ 193) [.v (eVar 0)])) (sRet (eAnd (eCall (Γ 192) [.v (eVar 1)]) (eOp fEq (eCall (Γ 194) [.v (eVar 1)]) (eCall (Γ 194) [.v (eVar 0)])))))
abbrev rf_196 (Γ : Nat → Fn) : Fn := runF 2 [] (mb_196 Γ)
/-- most_lots -/
def mb_197 (Γ : Nat → Fn) : St := (sSeq (sSet 1 (eApp fLst [(eApp fTup [(eCon (.int 0)), (eCon (.int 0))])])) (sSeq (sSet 2 (eApp fLst [(eCon (.int 0))])) (sSeq (sFor (itRange2 (eCon (.int 1)) (eOp fShl1 (eCon (.int 1)) (eApp fLen [(eVar 0)]))) (.nm 3) (sSeq (sSet 4 (eFr (eLc (itRange1 (eApp fLen [(eVar 0)])) (.nm 9) [9] (eBool (eOp fEq (eOp fAnd1 (eOp fShr (eVar 3) (eVar 9)) (eCon (.int 1))) (eCon (.int 1)))) (eVar 9)))) (sSeq (sSet 5 (eApp fSum [(eLc (itSeq (eVar 4)) (.nm 9) [9] tTrue (eOp fIx (eOp fIx (eVar 0) (eVar 9)) (eCon (.int 1))))])) (sSeq (sDrop (eMth fAppend 2 [(eVar 5)])) (sSeq (sSet 6 (eFr (eLc (itSeq (eVar 4)) (.nm 9) [9] tTrue (ePeekI (eApp fTup [(eOp fIx (eOp fIx (eVar 1) (eOp fSub (eVar 3) (eOp fShl1 (eCon (.int 1)) (eVar 9)))) (eCon (.int 0))), (eVar 9)]))))) (sSeq (sPut (.tp [(.nm 7), (.nm 8)]) (eApp fMaxA [(eVar 6)])) (sDrop (eMth fAppend 1 [(eApp fTup [(eOp fAdd (eVar 7) (eApp fIntB [(eOp fEq (eVar 5) (eCon (.int 0)))])), (eVar 8)])])))))))) (sRet (eFzV 1)))))
abbrev rf_197 (Γ : Nat → Fn) : Fn := runF 10 [] (mb_197 Γ)
/-- lots_of -/
def mb_198 (Γ : Nat → Fn) : St := (sSeq (sSet 1 (eCall (Γ 197) [.v (eVar 0)])) (sSeq (sSet 2 (eOp fSub (eOp fShl1 (eCon (.int 1)) (eApp fLen [(eVar 0)])) (eCon (.int 1)))) (sSeq (sSet 3 (eNewL (.li .fz))) (sSeq (sWhile 64 (eBool (eOp fGt (eVar 2) (eCon (.int 0)))) (sSeq (sSet 4 (eFr (eLc (itRange1 (eApp fLen [(eVar 0)])) (.nm 6) [6] (eBool (eOp fEq (eOp fAnd1 (eOp fShr (eVar 2) (eVar 6)) (eCon (.int 1))) (eCon (.int 1)))) (eVar 6)))) (sSeq (sIf (eBool (eOp fEq (eApp fSum [(eLc (itSeq (eVar 4)) (.nm 6) [6] tTrue (eOp fIx (eOp fIx (eVar 0) (eVar 6)) (eCon (.int 1))))]) (eCon (.int 0)))) (sDrop (pAppN 3 [])) sNx) (sSeq (sSet 5 (eOp fIx (eOp fIx (eVar 1) (eVar 2)) (eCon (.int 1)))) (sSeq (sDrop (pMth fAppend 3 ([] ++ [.ix (ePeekI (eUn fNeg (eCon (.int 1))))]) [(ePeekI (eOp fIx (eVar 0) (eVar 5)))])) (sAugI 2 true (eOp fShl1 (eCon (.int 1)) (eVar 5)))))))) (sRet (eFzV 3))))))
abbrev rf_198 (Γ : Nat → Fn) : Fn := runF 7 [] (mb_198 Γ)
/-- need_few -/
def mb_199 (Γ : Nat → Fn) : St := (sIf (eBool (eOp fGt (eApp fLen [(eVar 0)]) (eCon (.int 8)))) (sRaiseI 23 (eApp fLen [(eVar 0)])) sNx)
abbrev rf_199 (Γ : Nat → Fn) : Fn := runF 1 [] (mb_199 Γ)
/-- goings_of -/
def mb_200 (Γ : Nat → Fn) : St := (sSeq (sSet 1 (eApp fDictL [(eVar 0)])) (sSeq (sSet 2 (eApp fLst [])) (sSeq (sWhile 64 (tPeek (eBool (eOp fGt (eApp fLenD [(eVar 1)]) (eCon (.int 1))))) (sSeq (sSet 3 (eOp fIx (eApp fMaxA [(eLockLI 1 (eLc (itLdc 1) (.nm 6) [6] tTrue (eApp fTup [(eOp fGetL (eVar 1) (eVar 6)), (eVar 6)])))]) (eCon (.int 1)))) (sSeq (sSet 4 (eOp fIx (eApp fMinA [(eLockLI 1 (eLc (itLdc 1) (.nm 6) [6] tTrue (eApp fTup [(eOp fGetL (eVar 1) (eVar 6)), (eVar 6)])))]) (eCon (.int 1)))) (sSeq (sSet 5 (ePeekI (eApp fMin2 [(eOp fGet (eVar 1) (eVar 3)), (eOp fSub (eCon (.int 0)) (eOp fGet (eVar 1) (eVar 4)))]))) (sSeq (sDrop (eMth fAppend 2 [(eApp fTup [(eVar 3), (eVar 4), (eVar 5)])])) (sSeq (pAugD 1 [] (eVar 3) true (eVar 5)) (sSeq (pAugD 1 [] (eVar 4) false (eVar 5)) (sSet 1 (eApp fDictL [(eLockLI 1 (eLc (itLdc 1) (.nm 6) [6] (eBool (eOp fNe (eOp fGetL (eVar 1) (eVar 6)) (eCon (.int 0)))) (eApp fTup [(eVar 6), (eOp fGetL (eVar 1) (eVar 6))])))]))))))))) (sRet (eFzV 2)))))
abbrev rf_200 (Γ : Nat → Fn) : Fn := runF 7 [] (mb_200 Γ)
/-- settled -/
def mb_201 (Γ : Nat → Fn) : St := (sSeq (sDrop (eCall (Γ 193) [.v (eVar 0)])) (sSeq (sSet 1 (eFr (eCall (Γ 194) [.v (eVar 0)]))) (sSeq (sDrop (eCall (Γ 199) [.v (eVar 1)])) (sSeq (sSet 2 (eApp fLst [])) (sSeq (sFor (itSeq (eCall (Γ 198) [.v (eVar 1)])) (.nm 3) (sDrop (eMth fExtend 2 [(eCall (Γ 200) [.v (eVar 3)])]))) (sRet (ePeekLI (eApp fSortedB [(eVar 2)]))))))))
abbrev rf_201 (Γ : Nat → Fn) : Fn := runF 4 [] (mb_201 Γ)
/-- how_few -/
def mb_202 (Γ : Nat → Fn) : St := (sSeq (sDrop (eCall (Γ 193) [.v (eVar 0)])) (sSeq (sSet 1 (eFr (eCall (Γ 194) [.v (eVar 0)]))) (sSeq (sDrop (eCall (Γ 199) [.v (eVar 1)])) (sRet (eOp fSub (eApp fLen [(eVar 1)]) (eOp fIx (eOp fIx (eCall (Γ 197) [.v (eVar 1)]) (eUn fNeg (eCon (.int 1)))) (eCon (.int 0))))))))
abbrev rf_202 (Γ : Nat → Fn) : Fn := runF 2 [] (mb_202 Γ)
end LW
namespace LW
open TB
/-- _law_most_lots -/
def mb_212 (Γ : Nat → Fn) : St := (sSeq (sIf (eBool (eOp fEq (eVar 0) (eApp fLst []))) (sRet (eCon (.int 0))) sNx) (sSeq (sSet 1 (eCon (.int 1))) (sSeq (sFor (itRange1 (eOp fShl1 (eCon (.int 1)) (eOp fSub (eApp fLen [(eVar 0)]) (eCon (.int 1))))) (.nm 2) (sSeq (sSet 3 (eFr (eOp fAdd (eSl (eVar 0) none (some (eCon (.int 1)))) (eLc (itRange1 (eOp fSub (eApp fLen [(eVar 0)]) (eCon (.int 1)))) (.nm 4) [4] (eBool (eOp fEq (eOp fAnd1 (eOp fShr (eVar 2) (eVar 4)) (eCon (.int 1))) (eCon (.int 1)))) (eOp fIx (eVar 0) (eOp fAdd (eVar 4) (eCon (.int 1)))))))) (sIf (tAnd (eBool (eOp fEq (eApp fSum [(eLc (itSeq (eVar 3)) (.nm 5) [5] tTrue (eOp fIx (eVar 5) (eCon (.int 1))))]) (eCon (.int 0)))) (eBool (eOp fLt (eApp fLen [(eVar 3)]) (eApp fLen [(eVar 0)])))) (sSet 1 (eApp fMax2 [(eVar 1), (eOp fAdd (eCon (.int 1)) (eCall (Γ 212) [.v (eLc (itSeq (eVar 0)) (.nm 5) [5] (eBool (eOp fNotInB (eVar 5) (eVar 3))) (eVar 5))]))])) sNx))) (sRet (eVar 1)))))
abbrev rf_212 (Γ : Nat → Fn) : Fn := runF 6 [] (mb_212 Γ)
/-- _law_rings -/
def mb_213 (Γ : Nat → Fn) : St := (sSeq (sSet 2 (eApp fLst [])) (sSeq (sSet 3 (eFr (eOp fAdd (eCon (.int 1)) (eCall (Γ 7) [.b 0, .v (eCon (.int 9))])))) (sSeq (sFor (itRange1 (eOp fMul (eApp fLen [(eVar 1)]) (eCall (Γ 7) [.b 0, .v (eCon (.int 2))]))) (.nm 4) (sDrop (eMth fAppend 2 [(eApp fTup [(eOp fIx (eVar 1) (eVar 4)), (eOp fIx (eVar 1) (eOp fMod (eOp fAdd (eVar 4) (eCon (.int 1))) (eApp fLen [(eVar 1)]))), (eVar 3)])]))) (sSeq (sFor (itRange1 (eCall (Γ 7) [.b 0, .v (eCon (.int 8))])) (.nm 5) (sSeq (sSet 6 (eCall (Γ 7) [.b 0, .v (eApp fLen [(eVar 1)])])) (sSeq (sSet 7 (eCall (Γ 7) [.b 0, .v (eApp fLen [(eVar 1)])])) (sIf (eBool (eOp fNe (eVar 6) (eVar 7))) (sDrop (eMth fAppend 2 [(eApp fTup [(eOp fIx (eVar 1) (eVar 6)), (eOp fIx (eVar 1) (eVar 7)), (eOp fAdd (eCon (.int 1)) (eCall (Γ 7) [.b 0, .v (eCon (.int 3))]))])])) sNx)))) (sRet (eFzV 2))))))
abbrev rf_213 (Γ : Nat → Fn) : Fn := runF 8 [0] (mb_213 Γ)
/-- _law_lots_right -/
def mb_214 (Γ : Nat → Fn) : St := (sSeq (sSet 1 (eFr (eLc (itStr (eCon (.str [97, 98, 99, 100, 101, 102, 103, 104]))) (.nm 5) [5] tTrue (eOp fAdd (eVar 5) (eCon (.str [120])))))) (sSeq (sSet 2 (eApp fLst [])) (sSeq (sFor (itRange1 (eCon (.int 4))) (.nm 3) (sDrop (eMth fAppend 2 [(eApp fTup [(eOp fIx (eVar 1) (eOp fMul (eCon (.int 2)) (eVar 3))), (eOp fIx (eVar 1) (eOp fAdd (eOp fMul (eCon (.int 2)) (eVar 3)) (eCon (.int 1)))), (eOp fAdd (eOp fIx (eApp fLst [(eCon (.int 1)), (eCon (.int 10)), (eCon (.int 100)), (eCon (.int 1000))]) (eVar 3)) (eOp fMul (eCall (Γ 7) [.b 0, .v (eCon (.int 3))]) (eOp fPow (eCon (.int 10)) (eCon (.int 7)))))])]))) (sSeq (sIf (tPeek (tOr (eBool (eOp fGt (eCall (Γ 202) [.v (eVar 2)]) (eCon (.int 4)))) (eBool (eOp fNe (eApp fLen [(eCall (Γ 201) [.v (eVar 2)])]) (eCall (Γ 202) [.v (eVar 2)]))))) (sRet (eCon (.bl false))) sNx) (sSeq (sSet 4 (eFr (eApp fLst [(eApp fTup [(eCon (.str [97, 120])), (eCon (.str [98, 120])), (eCon (.int 7))]), (eApp fTup [(eCon (.str [97, 120])), (eCon (.str [99, 120])), (eCon (.int 5))]), (eApp fTup [(eCon (.str [100, 120])), (eCon (.str [101, 120])), (eCon (.int 300))]), (eApp fTup [(eCon (.str [102, 120])), (eCon (.str [101, 120])), (eCon (.int 20))]), (eApp fTup [(eCon (.str [103, 120])), (eCon (.str [104, 120])), (eCon (.int 4000))])]))) (sRet (eAnd (eOp fEq (eCall (Γ 202) [.v (eVar 4)]) (eCon (.int 5))) (eOp fIsA (eCall (Γ 196) [.v (eVar 4), .v (eCall (Γ 201) [.v (eVar 4)])]) (eCon (.bl true))))))))))
abbrev rf_214 (Γ : Nat → Fn) : Fn := runF 6 [0] (mb_214 Γ)
/-- law -/
def mb_215 (Γ : Nat → Fn) : St := (sSeq (sIf (tNot (eBool (eCall (Γ 214) [.o (eCall (Γ 6) [.v (eVar 0), .v (eCon (.int 0))])]))) (sRet (eCon (.bl false))) sNx) (sSeq (sFor (itRange1 (eApp fMax2 [(eCon (.int 1)), (eApp fMin2 [(eCon (.int 16)), (eApp fLen [(eVar 0)])])])) (.nm 1) (sSeq (sSet 2 (eCall (Γ 6) [.v (eVar 0), .v (eVar 1)])) (sFor (itSeq (eApp fLst [(eCall (Γ 204) [.b 2, .v (eCon (.int 7))]), (eCall (Γ 213) [.b 2, .v (eCall (Γ 37) [.b 2, .v (eOp fAdd (eCon (.int 2)) (eCall (Γ 7) [.b 2, .v (eCon (.int 7))]))])])])) (.nm 3) (sSeq (sSet 4 (eCall (Γ 205) [.v (eVar 3)])) (sSeq (sSet 5 (eOp fSub (eApp fLen [(eVar 4)]) (eCall (Γ 212) [.v (eVar 4)]))) (sSeq (sSet 6 (eFr (eApp fList [(eVar 3)]))) (sSeq (sSet 7 (eCall (Γ 201) [.v (eVar 6)])) (sSeq (sIf (tPeek (tOr (eBool (eOp fNe (eCall (Γ 202) [.v (eVar 3)]) (eVar 5))) (tOr (tNot (eBool (eIsi .list (eVar 7)))) (tOr (eBool (eOp fNe (eApp fLen [(eVar 7)]) (eVar 5))) (eBool (eOp fNe (eVar 6) (eVar 3))))))) (sRet (eCon (.bl false))) sNx) (sSeq (sIf (tPeek (tOr (eBool (eOp fNe (eVar 7) (eApp fSortedB [(eVar 7)]))) (tOr (eBool (eOp fIsNotA (eCall (Γ 196) [.v (eVar 3), .v (eVar 7)]) (eCon (.bl true)))) (eBool (eOp fNe (eCall (Γ 205) [.v (eVar 7)]) (eVar 4)))))) (sRet (eCon (.bl false))) sNx) (sSeq (sIf (tPeek (eBool (eOp fNe (eLc (itSeq (eVar 7)) (.nm 8) [8] (tOr (eBool (eOp fEq (eOp fIx (eVar 8) (eCon (.int 0))) (eOp fIx (eVar 8) (eCon (.int 1))))) (tOr (tNot (eBool (eCall (Γ 170) [.v (eOp fIx (eVar 8) (eCon (.int 2)))]))) (eBool (eOp fLt (eOp fIx (eVar 8) (eCon (.int 2))) (eCon (.int 1)))))) (eVar 8)) (eApp fLst [])))) (sRet (eCon (.bl false))) sNx) (sSeq (sIf (eBool (eOp fNe (eOp fEq (eVar 5) (eCon (.int 0))) (eOp fEq (eVar 4) (eApp fLst [])))) (sRet (eCon (.bl false))) sNx) (sSeq (sDrop (eMth fAppend 7 [(eCon (.str [122, 122]))])) (sIf (eBool (eOp fNe (eApp fLen [(eCall (Γ 201) [.v (eVar 3)])]) (eVar 5))) (sRet (eCon (.bl false))) sNx))))))))))))) (sRet (eCon (.bl true)))))
abbrev rf_215 (Γ : Nat → Fn) : Fn := runF 9 [] (mb_215 Γ)
end LW
namespace LW
open TB
def bodyF (Γ : Nat → Fn) : Nat → Fn
  | 0 => rf_0 Γ
  | 1 => rf_1 Γ
  | 6 => rf_6 Γ
  | 7 => rf_7 Γ
  | 37 => rf_37 Γ
  | 54 => rf_54 Γ
  | 170 => rf_170 Γ
  | 191 => rf_191 Γ
  | 192 => rf_192 Γ
  | 193 => rf_193 Γ
  | 194 => rf_194 Γ
  | 196 => rf_196 Γ
  | 197 => rf_197 Γ
  | 198 => rf_198 Γ
  | 199 => rf_199 Γ
  | 200 => rf_200 Γ
  | 201 => rf_201 Γ
  | 202 => rf_202 Γ
  | 204 => rf_204 Γ
  | 205 => rf_205 Γ
  | 212 => rf_212 Γ
  | 213 => rf_213 Γ
  | 214 => rf_214 Γ
  | 215 => rf_215 Γ
  | _ => fun _ => .bad
def callF (k : Nat) : Nat → Fn := Nat.rec (fun _ _ => .bad) (fun _ Γ => bodyF Γ) k
end LW
namespace TB
section
variable {α β : Type}
@[simp] theorem bind_ap (m : M α) (f : α → M β) (S : List Slot) : M.bind m f S = (m S).bind f := rfl
@[simp] theorem rbind_ok (a : α) (S : List Slot) (f : α → M β) : (R.ok a S).bind f = f a S := rfl
@[simp] theorem rbind_bad (f : α → M β) : (R.bad : R α).bind f = .bad := rfl
@[simp] theorem rbind_exc (x : Xc) (S : List Slot) (f : α → M β) : (R.exc x S : R α).bind f = .exc x S := rfl
@[simp] theorem pure_ap (a : α) (S : List Slot) : M.pure a S = R.ok a S := rfl
@[simp] theorem ite_ap (c : Prop) [Decidable c] (f g : M α) (S : List Slot) : (if c then f else g) S = if c then f S else g S := by split <;> rfl
@[simp] theorem rbind_ite (c : Prop) [Decidable c] (x y : R α) (f : α → M β) : (if c then x else y).bind f = if c then x.bind f else y.bind f := by split <;> rfl
end
@[simp] theorem eVar_ap (i : Nat) (S : List Slot) : eVar i S = match S[i]? with | some (some (.fz, d)) => .ok (.fz, d) S | _ => .bad := rfl
@[simp] theorem eMv_ap (i : Nat) (S : List Slot) : eMv i S = match S[i]? with | some (some kd) => .ok kd (S.set i none) | _ => .bad := rfl
@[simp] theorem eFzV_ap (i : Nat) (S : List Slot) : eFzV i S = match S[i]? with | some (some (_, d)) => .ok (.fz, d) (S.set i (some (.fz, d))) | _ => .bad := rfl
@[simp] theorem eCon_ap (d : D) (S : List Slot) : eCon d S = .ok (.fz, d) S := rfl
@[simp] theorem eDat_ap (e : E) (S : List Slot) : eDat e S = (e S).bind fun kd => M.pure kd.2 := rfl
@[simp] theorem eAll_nil (S : List Slot) : eAll [] S = .ok [] S := rfl
@[simp] theorem eAll_cons (e : E) (es : List E) (S : List Slot) : eAll (e :: es) S = (eDat e S).bind fun d S1 => (eAll es S1).bind fun ds S2 => .ok (d :: ds) S2 := rfl
@[simp] theorem ofO_some (kd : KD) (S : List Slot) : ofO (some kd) S = .ok kd S := rfl
@[simp] theorem ofO_none (S : List Slot) : ofO none S = .bad := rfl
@[simp] theorem ofO_ite (c : Prop) [Decidable c] (a b : Option KD) (S : List Slot) : ofO (if c then a else b) S = if c then ofO a S else ofO b S := by split <;> rfl
@[simp] theorem eFr_ap (e : E) (S : List Slot) : eFr e S = (e S).bind fun kd S1 => .ok (.fz, kd.2) S1 := rfl
@[simp] theorem eApp_ap (f : List D → Option KD) (es : List E) (S : List Slot) : eApp f es S = (eAll es S).bind fun ds S1 => ofO (f ds) S1 := rfl
@[simp] theorem eOp_ap (f : D → D → Option KD) (a b : E) (S : List Slot) : eOp f a b S = (eDat a S).bind fun x S1 => (eDat b S1).bind fun y S2 => ofO (f x y) S2 := rfl
@[simp] theorem eUn_ap (f : D → Option KD) (a : E) (S : List Slot) : eUn f a S = (eDat a S).bind fun x S1 => ofO (f x) S1 := rfl
@[simp] theorem eIsi_ap (t : Ty) (a : E) (S : List Slot) : eIsi t a S = (eDat a S).bind fun x S1 => ofO (fIsi t x) S1 := rfl
@[simp] theorem eBool_ap (e : E) (S : List Slot) : eBool e S = (e S).bind fun kd S1 => (match kd.2 with | .bl b => (M.pure b : M Bool) | _ => fun _ => .bad) S1 := rfl
@[simp] theorem eAnd_ap (a b : E) (S : List Slot) : eAnd a b S = (eBool a S).bind fun c S1 => if c = true then b S1 else .ok (.fz, .bl false) S1 := by
  show (eBool a S).bind (fun c => if c = true then b else M.pure (.fz, .bl false)) = _
  congr 1; funext c S1; split <;> rfl
@[simp] theorem eOr_ap (a b : E) (S : List Slot) : eOr a b S = (eBool a S).bind fun c S1 => if c = true then .ok (.fz, .bl true) S1 else b S1 := by
  show (eBool a S).bind (fun c => if c = true then M.pure (.fz, .bl true) else b) = _
  congr 1; funext c S1; split <;> rfl
@[simp] theorem eNot_ap (a : E) (S : List Slot) : eNot a S = (eBool a S).bind fun c S1 => .ok (.fz, .bl (!c)) S1 := rfl
@[simp] theorem tAnd_ap (a b : T) (S : List Slot) : tAnd a b S = (a S).bind fun c S1 => if c = true then b S1 else .ok false S1 := by
  show (a S).bind (fun c => if c = true then b else M.pure false) = _
  congr 1; funext c S1; split <;> rfl
@[simp] theorem tOr_ap (a b : T) (S : List Slot) : tOr a b S = (a S).bind fun c S1 => if c = true then .ok true S1 else b S1 := by
  show (a S).bind (fun c => if c = true then M.pure true else b) = _
  congr 1; funext c S1; split <;> rfl
@[simp] theorem tNot_ap (a : T) (S : List Slot) : tNot a S = (a S).bind fun c S1 => .ok (!c) S1 := rfl
@[simp] theorem tTrue_ap (S : List Slot) : tTrue S = .ok true S := rfl
@[simp] theorem eIf_ap (c : T) (a b : E) (S : List Slot) : eIf c a b S = (c S).bind fun x S1 => if x = true then a S1 else b S1 := by
  show (c S).bind (fun x => if x = true then a else b) = _
  congr 1; funext c S1; split <;> rfl
@[simp] theorem eChain_ap (f g : D → D → Option KD) (a b c : E) (S : List Slot) : eChain f g a b c S = (eDat a S).bind fun x S1 => (eDat b S1).bind fun y S2 => chain2 g c y (f x y) S2 := rfl
@[simp] theorem chain2_ap (g : D → D → Option KD) (c : E) (y : D) (b : Bool) (S : List Slot) : chain2 g c y (some (.fz, .bl b)) S = if b = true then (eDat c S).bind fun z S1 => ofO (g y z) S1 else .ok (.fz, .bl false) S := by
  show (if b = true then M.bind (eDat c) (fun z => ofO (g y z)) else M.pure (.fz, .bl false)) S = _
  split <;> rfl
@[simp] theorem ePeek_ap (e : E) (S : List Slot) : ePeek e S = match e (S.map frz) with | .ok (_, d) _ => (if d.flat = true then .ok (.fz, d) S else .bad) | _ => .bad := rfl
@[simp] theorem tPeek_ap (c : T) (S : List Slot) : tPeek c S = match c (S.map frz) with | .ok b _ => .ok b S | _ => .bad := rfl
@[simp] theorem ePeekL_ap (e : E) (S : List Slot) : ePeekL e S = match e (S.map frz) with | .ok (.li .fz, .lst ds) _ => (if ds.all D.flat = true then .ok (.li .fz, .lst ds) S else .bad) | _ => .bad := rfl
@[simp] theorem sNx_ap (S : List Slot) : sNx S = .ok .nx S := rfl
@[simp] theorem sSet_ap (i : Nat) (e : E) (S : List Slot) : sSet i e S = (e S).bind fun kd S1 => if i < S1.length then .ok .nx (S1.set i (some kd)) else .bad := rfl
@[simp] theorem sPut_ap (g : Tg) (e : E) (S : List Slot) : sPut g e S = (eDat e S).bind fun d S1 => match g.put d S1 with | some S' => .ok .nx S' | none => .bad := rfl
@[simp] theorem sSeq_ap (a b : St) (S : List Slot) : sSeq a b S = (a S).bind fun f S1 => (match f with | .nx => b | f => M.pure f) S1 := rfl
@[simp] theorem sRet_ap (e : E) (S : List Slot) : sRet e S = (e S).bind fun kd S1 => .ok (.rt kd) S1 := rfl
@[simp] theorem sDrop_ap (e : E) (S : List Slot) : sDrop e S = (e S).bind fun _ S1 => .ok .nx S1 := rfl
@[simp] theorem sIf_ap (c : T) (a b : St) (S : List Slot) : sIf c a b S = (c S).bind fun x S1 => if x = true then a S1 else b S1 := by
  show (c S).bind (fun x => if x = true then a else b) = _
  congr 1; funext c S1; split <;> rfl
@[simp] theorem sFor_ap (it : It) (g : Tg) (b : St) (S : List Slot) : sFor it g b S = (it S).bind fun ds S1 => loop g b ds S1 := rfl
@[simp] theorem itSeq_ap (e : E) (S : List Slot) : itSeq e S = (eDat e S).bind fun d S1 => (match itemsOf d with | some xs => (M.pure xs : It) | none => fun _ => .bad) S1 := rfl
@[simp] theorem itStr_ap (e : E) (S : List Slot) : itStr e S = (eDat e S).bind fun d S1 => (match d with | .str s => (M.pure (s.map fun c => D.str [c]) : It) | _ => fun _ => .bad) S1 := rfl
@[simp] theorem itRange1_ap (e : E) (S : List Slot) : itRange1 e S = (eDat e S).bind fun d S1 => (match d with | .int j => (if j.natAbs < limN then (M.pure (rangeL 0 j.toNat) : It) else fun _ => .bad) | _ => fun _ => .bad) S1 := rfl
@[simp] theorem itRange2_ap (a b : E) (S : List Slot) : itRange2 a b S = (eDat a S).bind fun x S1 => (eDat b S1).bind fun y S2 => (match x, y with | .int i, .int j => (if i.natAbs < limN ∧ j.natAbs < limN then (M.pure (rangeL i (j - i).toNat) : It) else fun _ => .bad) | _, _ => fun _ => .bad) S2 := rfl
@[simp] theorem hasL_ap (i : Nat) (S : List Slot) : hasL i S = match ownL S i with | some _ => .ok () S | none => .bad := rfl
@[simp] theorem hasK_ap (i : Nat) (S : List Slot) : hasK i S = match ownK S i with | some _ => .ok () S | none => .bad := rfl
@[simp] theorem sSetIx_ap (i : Nat) (k e : E) (S : List Slot) : sSetIx i k e S = (eDat e S).bind fun y S1 => (hasL i S1).bind fun _ S2 => (eDat k S2).bind fun x S3 => match ownL S3 i, x with
  | some xs, .int j => (match normIx xs.length j with | some n => .ok .nx (S3.set i (some (.li .fz, .lst (xs.set n y)))) | none => .bad)
  | _, _ => .bad := rfl
@[simp] theorem eIxO_ap (i : Nat) (k : E) (S : List Slot) : eIxO i k S = (hasL i S).bind fun _ S2 => (eDat k S2).bind fun x S3 => match ownL S3 i, x with
  | some xs, .int j => (match (normIx xs.length j).bind fun n => xs[n]? with | some d => .ok (.fz, d) S3 | none => .bad)
  | _, _ => .bad := rfl
@[simp] theorem eMth_ap (f : List D → List D → Option (D × List D)) (i : Nat) (es : List E) (S : List Slot) : eMth f i es S = (hasL i S).bind fun _ S2 => (eAll es S2).bind fun ds S3 => match ownL S3 i with
  | some xs => (match f xs ds with | some (r, ys) => .ok (.fz, r) (S3.set i (some (.li .fz, .lst ys))) | none => .bad)
  | none => .bad := rfl
@[simp] theorem sDput_ap (i : Nat) (k e : E) (S : List Slot) : sDput i k e S = (eDat e S).bind fun y S1 => (hasK i S1).bind fun _ S2 => (eDat k S2).bind fun x S3 => match ownK S3 i with
  | some kvs => (if isKey x = true ∧ kvs.length < sizeMax then .ok .nx (S3.set i (some (.dK .fz, .dic (putD kvs x y)))) else .bad)
  | none => .bad := rfl
@[simp] theorem eDnew_ap (S : List Slot) : eDnew S = .ok (.dK .fz, .dic []) S := rfl
@[simp] theorem eOpt_none (S : List Slot) : eOpt none S = .ok none S := rfl
@[simp] theorem eOpt_some (e : E) (S : List Slot) : eOpt (some e) S = (eDat e S).bind fun d S1 => (match d with | .int i => (M.pure (some i) : M (Option Int)) | _ => fun _ => .bad) S1 := rfl
@[simp] theorem eSl_ap (a : E) (lo hi : Option E) (S : List Slot) : eSl a lo hi S = (eDat a S).bind fun x S1 => (eOpt lo S1).bind fun l S2 => (eOpt hi S2).bind fun h S3 => ofO (fSl x l h) S3 := rfl
@[simp] theorem eSlO_ap (i : Nat) (lo hi : Option E) (S : List Slot) : eSlO i lo hi S = (hasL i S).bind fun _ S1 => (eOpt lo S1).bind fun l S2 => (eOpt hi S2).bind fun h S3 => match ownL S3 i with
  | some xs => .ok (.li .fz, .lst (cutL xs l h)) S3
  | none => .bad := rfl
@[simp] theorem eJoin_ap (a b : E) (S : List Slot) : eJoin a b S = (eDat a S).bind fun x S1 => (match x with | .str s => M.bind (eDat b) fun y => ofO (fJoin s y) | _ => fun _ => .bad) S1 := rfl
@[simp] theorem eLRg1_ap (a : E) (S : List Slot) : eLRg1 a S = (eDat a S).bind fun d S1 => (match d with | .int j => (if j.natAbs ≤ sizeMax then (M.pure (.li .fz, .lst (rangeL 0 j.toNat)) : E) else fun _ => .bad) | _ => fun _ => .bad) S1 := rfl
theorem eCall_ap (F : Fn) (as : List Ar) (S : List Slot) : eCall F as S = (arEv as S).bind fun vs S1 => match arIn vs S1 with
  | none => .bad
  | some (ks, S1) => (match F ks with
    | .ret r os => (match arOut vs os S1 with | some S2 => .ok r S2 | none => .bad)
    | .exc x os => (match arOut vs os S1 with | some S2 => .exc x S2 | none => .bad)
    | .bad => .bad) := rfl
theorem arEv_nil (S : List Slot) : arEv [] S = .ok [] S := rfl
theorem arEv_v (e : E) (as : List Ar) (S : List Slot) : arEv (.v e :: as) S = (eDat e S).bind fun d S1 => (arEv as S1).bind fun r S2 => .ok (.v d :: r) S2 := rfl
theorem arEv_b (i : Nat) (as : List Ar) (S : List Slot) : arEv (.b i :: as) S = match S[i]? with | some (some _) => (arEv as S).bind (fun r S2 => .ok (.b i :: r) S2) | _ => .bad := rfl
def okP {α : Type} (r : R α) (Q : α → List Slot → Prop) : Prop := match r with
  | .ok a S => Q a S
  | _ => False
section
variable {α β : Type}
@[simp] theorem okP_ok (a : α) (S : List Slot) (Q : α → List Slot → Prop) : okP (.ok a S) Q = Q a S := rfl
@[simp] theorem okP_bad (Q : α → List Slot → Prop) : okP (.bad) Q = False := rfl
@[simp] theorem okP_bind (r : R α) (f : α → M β) (Q : β → List Slot → Prop) : okP (r.bind f) Q = okP r (fun a S => okP (f a S) Q) := by cases r <;> rfl
theorem okP.of {r : R α} {a : α} {S : List Slot} {Q : α → List Slot → Prop} (e : r = .ok a S) (h : Q a S) : okP r Q := by rw [e]; exact h
theorem okP.mono {r : R α} {Q Q' : α → List Slot → Prop} (h : okP r Q) (i : ∀ a S, Q a S → Q' a S) : okP r Q' := by
  cases r with
  | ok a S => exact i a S h
  | exc x S => exact h
  | bad => exact h
theorem okP.ex {r : R α} {Q : α → List Slot → Prop} (h : okP r Q) : ∃ a S, r = .ok a S ∧ Q a S := by
  cases r with
  | ok a S => exact ⟨a, S, rfl, h⟩
  | exc x S => exact h.elim
  | bad => exact h.elim
end
def fin (as : List KD) (Q : KD → List KD → Prop) (f : Fl) (S : List Slot) : Prop := match f with
  | .rt r => (match outsOf as S with | some o => Q r o | none => False)
  | .nx => (match outsOf as S with | some o => Q (.fz, .non) o | none => False)
  | _ => False
@[simp] theorem fin_rt (as : List KD) (Q : KD → List KD → Prop) (r : KD) (S : List Slot) : fin as Q (.rt r) S = (match outsOf as S with | some o => Q r o | none => False) := rfl
@[simp] theorem fin_nx (as : List KD) (Q : KD → List KD → Prop) (S : List Slot) : fin as Q .nx S = (match outsOf as S with | some o => Q (.fz, .non) o | none => False) := rfl
theorem runF_eq (n : Nat) (pk : List Nat) (body : St) (as : List KD) : runF n pk body as = if pinned pk 0 as = true then (match body (as.map some ++ List.replicate (n - as.length) none) with
    | .ok (.rt r) S => frOf as r S
    | .ok .nx S => frOf as (.fz, .non) S
    | .exc x S => (match outsOf as S with | some o => .exc x o | none => .bad)
    | _ => .bad) else .bad := rfl
/-- a function's promise -/
def FnP (F : Fn) (as : List KD) (Q : KD → List KD → Prop) : Prop := ∃ r o, F as = .ret r o ∧ Q r o
theorem runF_wp {n : Nat} {pk : List Nat} {body : St} {as : List KD} {Q : KD → List KD → Prop} (hp : pinned pk 0 as = true) (h : okP (body (as.map some ++ List.replicate (n - as.length) none)) (fin as Q)) : FnP (runF n pk body) as Q := by
  obtain ⟨f, S, e, h⟩ := h.ex
  unfold FnP
  rw [runF_eq, if_pos hp, e]
  cases f with
  | rt r =>
    show ∃ r' o, frOf as r S = .ret r' o ∧ Q r' o
    unfold frOf
    have h : (match outsOf as S with | some o => Q r o | none => False) := h
    cases e2 : outsOf as S with
    | none => rw [e2] at h; exact h.elim
    | some o => rw [e2] at h; exact ⟨r, o, rfl, h⟩
  | nx =>
    show ∃ r' o, frOf as (.fz, .non) S = .ret r' o ∧ Q r' o
    unfold frOf
    have h : (match outsOf as S with | some o => Q (.fz, .non) o | none => False) := h
    cases e2 : outsOf as S with
    | none => rw [e2] at h; exact h.elim
    | some o => rw [e2] at h; exact ⟨_, o, rfl, h⟩
  | bk => exact h.elim
  | ct => exact h.elim
theorem call_wp {F : Fn} {as : List Ar} {S : List Slot} {Q : KD → List Slot → Prop} (h : okP (arEv as S) fun vs S1 => match arIn vs S1 with
    | some (ks, S2) => FnP F ks fun r os => (match arOut vs os S2 with | some S3 => Q r S3 | none => False)
    | none => False) : okP (eCall F as S) Q := by
  rw [eCall_ap, okP_bind]
  refine h.mono fun vs S1 h => ?_
  cases e : arIn vs S1 with
  | none => rw [e] at h; exact h.elim
  | some q =>
    obtain ⟨ks, S2⟩ := q
    rw [e] at h
    obtain ⟨r, os, e2, h⟩ := h
    have h : (match arOut vs os S2 with | some S3 => Q r S3 | none => False) := h
    simp only [e2]
    cases e3 : arOut vs os S2 with
    | none => rw [e3] at h; exact h.elim
    | some S3 => rw [e3] at h; exact h
theorem runF_ret {n : Nat} {pk : List Nat} {body : St} {as : List KD} {r : KD} {S : List Slot} {o : List KD} (hp : pinned pk 0 as = true) (hb : body (as.map some ++ List.replicate (n - as.length) none) = .ok (.rt r) S) (ho : outsOf as S = some o) : runF n pk body as = .ret r o := by
  unfold runF
  rw [if_pos hp, hb]
  show frOf as r S = _
  unfold frOf
  rw [ho]
/-- a while by an invariant and a measure -/
theorem while_inv {c : T} {b : St} (I : Nat → List Slot → Prop) (h : ∀ m S, I m S → c S = .ok false S ∨ (c S = .ok true S ∧ m ≠ 0 ∧ ∃ S', b S = .ok .nx S' ∧ I (m - 1) S')) :
    ∀ n m S, m < n → I m S → ∃ m' S', sWhile n c b S = .ok .nx S' ∧ I m' S' ∧ c S' = .ok false S'
  | 0, _, _, l, _ => absurd l (Nat.not_lt_zero _)
  | n + 1, m, S, l, i => by
    unfold sWhile
    rcases h m S i with e | ⟨e, hm, S', e2, i2⟩
    · exact ⟨m, S, by rw [bind_ap, e]; rfl, i, e⟩
    · obtain ⟨m', S2, e3, i3, e4⟩ := while_inv I h n (m - 1) S' (by omega) i2
      refine ⟨m', S2, ?_, i3, e4⟩
      rw [bind_ap, e, rbind_ok, if_pos rfl, bind_ap, e2, rbind_ok]
      exact e3
def dr (a b : Int) : KD := (.li .fz, .lst [.int a, .int b])
def DI (kd : KD) : Prop := ∃ a b, kd = dr a b ∧ 0 ≤ a ∧ a < 1000000000000000000000000000000000000000000000000000000000000000000000000000000000000000000000000000000000000000000000000 ∧ 0 ≤ b ∧ b < 2147483648
def DrawOk (F : Fn) : Prop := ∀ kd m, DI kd → 1 ≤ m → m < 1000000000000000000000000000000000000000000000000000000000000 → ∃ r kd', F [kd, (.fz, .int m)] = .ret (.fz, .int r) [kd'] ∧ DI kd' ∧ 0 ≤ r ∧ r < m
def bDraw : St := (sSeq (sIf (eBool (eOp fGt (eIxO 0 (eCon (.int 0))) (eCon (.int 0)))) (sSeq (sSet 2 (eOp fMod (eIxO 0 (eCon (.int 0))) (eVar 1))) (sSeq (sSetIx 0 (eCon (.int 0)) (eOp fDiv (eIxO 0 (eCon (.int 0))) (eVar 1))) (sRet (eVar 2)))) sNx) (sSeq (sSet 2 (eCon (.int 0))) (sSeq (sSet 3 (eCon (.int 1))) (sSeq (sWhile 64 (eBool (eOp fLt (eVar 3) (eVar 1))) (sSeq (sSetIx 0 (eCon (.int 1)) (eOp fMod (eOp fMul (eIxO 0 (eCon (.int 1))) (eCon (.int 69621))) (eCon (.int 2147483647)))) (sSeq (sSet 2 (eFr (eOp fAdd (eOp fMul (eVar 2) (eCon (.int 268435456))) (eOp fDiv (eOp fMod (eOp fMul (eIxO 0 (eCon (.int 1))) (eOp fAdd (eOp fDiv (eIxO 0 (eCon (.int 1))) (eCon (.int 128))) (eCon (.int 3)))) (eCon (.int 2147483629))) (eCon (.int 8)))))) (sSet 3 (eFr (eOp fMul (eVar 3) (eCon (.int 268435456)))))))) (sRet (eOp fMod (eVar 2) (eVar 1)))))))
def wBody : St := (sSeq (sSetIx 0 (eCon (.int 1)) (eOp fMod (eOp fMul (eIxO 0 (eCon (.int 1))) (eCon (.int 69621))) (eCon (.int 2147483647)))) (sSeq (sSet 2 (eFr (eOp fAdd (eOp fMul (eVar 2) (eCon (.int 268435456))) (eOp fDiv (eOp fMod (eOp fMul (eIxO 0 (eCon (.int 1))) (eOp fAdd (eOp fDiv (eIxO 0 (eCon (.int 1))) (eCon (.int 128))) (eCon (.int 3)))) (eCon (.int 2147483629))) (eCon (.int 8)))))) (sSet 3 (eFr (eOp fMul (eVar 3) (eCon (.int 268435456)))))))
theorem draw_ok : DrawOk (runF 4 [0] bDraw) := by
  rintro _ m ⟨a, b, rfl, a0, a1, b0, b1⟩ m1 m2
  unfold dr
  by_cases ha : a > 0
  · have hm : small m := by show m.natAbs < _; omega
    refine ⟨a % m, dr (a / m) b, ?_, ⟨a / m, b, rfl, Int.ediv_nonneg a0 (by omega), Int.lt_of_le_of_lt (Int.ediv_le_self _ a0) a1, b0, b1⟩, Int.emod_nonneg _ (by omega), Int.emod_lt_of_pos _ (by omega)⟩
    have hm0 : 0 < m := by omega
    simp [bDraw, runF, pinned, Kd.isF, ownL, normIx, fGt, kz, ha, fMod, hm0, hm, fDiv, frOf, outsOf, dr]
  · obtain ⟨m', S', e1, ⟨f, w, b', rfl, h0, h1, h2, h3, h4⟩, _⟩ := while_inv (c := eBool (eOp fLt (eVar 3) (eVar 1))) (b := wBody)
      (fun j S => ∃ f w b', S = [some (dr a b'), some (.fz, .int m), some (.fz, .int f), some (.fz, .int w)] ∧ 0 ≤ b' ∧ b' < 2147483648 ∧ 0 ≤ f ∧ f < w * 1073741824 ∧ 1 ≤ w ∧ m ≤ w * 268435456 ^ j) (by
        rintro j S ⟨f, w, b', rfl, h0, h1, h2, h3, h4, h5⟩
        by_cases hw : w < m
        · right
          have hj : j ≠ 0 := by
            intro z; subst z
            simp at h5; omega
          refine ⟨by simp [fLt, kz, hw], hj, ?_⟩
          have q1 : 0 ≤ b' * 69621 % 2147483647 := Int.emod_nonneg _ (by decide)
          have q2 : b' * 69621 % 2147483647 < 2147483647 := Int.emod_lt_of_pos _ (by decide)
          generalize hb2 : b' * 69621 % 2147483647 = b2 at q1 q2
          have q3 : 0 ≤ b2 * (b2 / 128 + 3) % 2147483629 := Int.emod_nonneg _ (by decide)
          have q4 : b2 * (b2 / 128 + 3) % 2147483629 < 2147483629 := Int.emod_lt_of_pos _ (by decide)
          have s1 : small b' := by show b'.natAbs < _; omega
          have s2 : small b2 := by show b2.natAbs < _; omega
          have s3 : small (b2 / 128 + 3) := by show (b2 / 128 + 3).natAbs < _; omega
          have s4 : small f := by show f.natAbs < _; omega
          have s5 : small w := by show w.natAbs < _; omega
          refine ⟨_, by simp [wBody, ownL, dr, normIx, fMul, fMod, kz, s1, s2, s3, s4, s5, fAdd, fDiv, hb2], f * 268435456 + b2 * (b2 / 128 + 3) % 2147483629 / 8, w * 268435456, b2, rfl, q1, by omega, by omega, by omega, by omega, ?_⟩
          have : (268435456 : Int) ^ j = 268435456 * 268435456 ^ (j - 1) := by
            conv => lhs; rw [show j = (j - 1) + 1 by omega, Int.pow_succ]
            exact Int.mul_comm _ _
          rw [this, ← Int.mul_assoc] at h5
          exact h5
        · left
          simp [fLt, kz, hw]) 64 8 [some (dr a b), some (.fz, .int m), some (.fz, .int 0), some (.fz, .int 1)] (by omega) ⟨0, 1, b, rfl, b0, b1, by omega, by omega, by omega, by omega⟩
    have hm0 : 0 < m := by omega
    refine ⟨f % m, dr a b', ?_, ⟨a, b', rfl, a0, a1, h0, h1⟩, Int.emod_nonneg _ (by omega), Int.emod_lt_of_pos _ hm0⟩
    have e2 : bDraw [some (dr a b), some (.fz, .int m), none, none] = .ok (.rt (.fz, .int (f % m))) [some (dr a b'), some (.fz, .int m), some (.fz, .int f), some (.fz, .int w)] := by
      unfold dr at e1 ⊢
      unfold wBody at e1
      simp [bDraw, ownL, normIx, fGt, kz, ha, e1, fMod, hm0]
    exact runF_ret (as := [dr a b, (.fz, .int m)]) rfl e2 rfl
/-- a draw -/
theorem draw_wp {F : Fn} (hF : DrawOk F) {S : List Slot} {i : Nat} {kd0 : KD} {e : E} {Q : KD → List Slot → Prop} (h0 : S[i]? = some (some kd0))
    (he : okP (eDat e S) fun d S1 => match d with
      | .int m => 1 ≤ m ∧ m < 1000000000000000000000000000000000000000000000000000000000000 ∧ (match S1[i]? with | some (some kd) => DI kd ∧ ∀ (r : Int) (kd' : KD), DI kd' → 0 ≤ r → r < m → Q (.fz, .int r) (S1.set i (some kd')) | _ => False)
      | _ => False) : okP (eCall F [.b i, .v e] S) Q := by
  refine call_wp ?_
  rw [arEv_b, h0]
  simp only [okP_bind]
  rw [arEv_v, okP_bind]
  refine he.mono fun d S1 h => ?_
  cases d with
  | int m =>
    obtain ⟨m1, m2, h⟩ := h
    rw [arEv_nil]
    cases e1 : S1[i]? with
    | none => rw [e1] at h; exact h.elim
    | some s =>
      cases s with
      | none => rw [e1] at h; exact h.elim
      | some kd =>
        rw [e1] at h
        obtain ⟨hd, h⟩ := h
        obtain ⟨r, kd', e2, d2, r0, r1⟩ := hF kd m hd m1 m2
        obtain ⟨a, b, rfl, _⟩ := hd
        obtain ⟨a', b', rfl, hh⟩ := id d2
        have h := h r (dr a' b') ⟨a', b', rfl, hh⟩ r0 r1
        rw [rbind_ok, okP_ok, okP_ok]
        have e3 : arIn [.b i, .v (.int m)] S1 = some ([dr a b, (.fz, .int m)], S1.set i none) := by
          simp [arIn, e1, dr, Kd.isF]
        rw [e3]
        refine ⟨_, _, e2, ?_⟩
        have e4 : arOut [.b i, .v (.int m)] [dr a' b'] (S1.set i none) = some (S1.set i (some (dr a' b'))) := by
          simp [arOut]
        simp only [e4]
        exact h
  | _ => exact h.elim
end TB
namespace TB
theorem set_self {S : List Slot} {v : Nat} (hv : v < S.length) (h : S[v]? = some s) : S.set v s = S := by
  apply List.ext_getElem?
  intro j
  by_cases q : v = j
  · subst q; rw [List.getElem?_set_self hv, h]
  · rw [List.getElem?_set_ne q]
theorem cLoop_pure {S : List Slot} {v : Nat} {c : T} {e : E} {p : D → Bool} {f : D → D} (hv : v < S.length) : ∀ (ds acc : List D),
    (∀ d ∈ ds, c (S.set v (some (.fz, d))) = .ok (p d) (S.set v (some (.fz, d)))) → (∀ d ∈ ds, p d = true → ∃ k, e (S.set v (some (.fz, d))) = .ok (k, f d) (S.set v (some (.fz, d)))) → acc.length + ds.length ≤ sizeMax →
    cLoop (.nm v) [v] c e ds acc (S.set v none) = .ok (acc ++ (ds.filter p).map f) (S.set v none)
  | [], acc, _, _, _ => by simp [cLoop, M.pure]
  | d :: ds, acc, hc, he, hl => by
    unfold cLoop
    have h1 : Tg.put (.nm v) d (S.set v none) = some (S.set v (some (.fz, d))) := by
      unfold Tg.put
      rw [if_pos (by rw [List.length_set]; exact hv), List.set_set]
    have h2 : ∀ S' : List Slot, wipeS S' [v] = S'.set v none := fun _ => rfl
    have hl2 : acc.length + ds.length + 1 ≤ sizeMax := by simpa [Nat.add_assoc] using hl
    rw [h1]
    show R.bind (c (S.set v (some (.fz, d)))) _ = _
    rw [hc d List.mem_cons_self, rbind_ok]
    cases hp : p d with
    | false =>
      show cLoop (.nm v) [v] c e ds acc (wipeS (S.set v (some (.fz, d))) [v]) = _
      rw [h2, List.set_set, cLoop_pure hv ds acc (fun x hx => hc x (List.mem_cons_of_mem _ hx)) (fun x hx => he x (List.mem_cons_of_mem _ hx)) (by omega)]
      simp [hp]
    | true =>
      obtain ⟨k, hk⟩ := he d List.mem_cons_self hp
      show R.bind (eDat e (S.set v (some (.fz, d)))) _ = _
      rw [eDat_ap, hk]
      show (if acc.length < sizeMax then cLoop (.nm v) [v] c e ds (acc ++ [f d]) (wipeS (S.set v (some (.fz, d))) [v]) else .bad) = _
      rw [if_pos (by omega), h2, List.set_set, cLoop_pure hv ds (acc ++ [f d]) (fun x hx => hc x (List.mem_cons_of_mem _ hx)) (fun x hx => he x (List.mem_cons_of_mem _ hx)) (by rw [List.length_append, List.length_singleton]; omega)]
      simp [hp]
/-- a comprehension that changes nothing -/
theorem lc_pure {S0 S : List Slot} {v : Nat} {it : It} {c : T} {e : E} {ds : List D} (p : D → Bool) (f : D → D) (hit : it S0 = .ok ds S) (hv : v < S.length) (hz : fzAt S v = true)
    (hc : ∀ d ∈ ds, c (S.set v (some (.fz, d))) = .ok (p d) (S.set v (some (.fz, d)))) (he : ∀ d ∈ ds, p d = true → ∃ k, e (S.set v (some (.fz, d))) = .ok (k, f d) (S.set v (some (.fz, d)))) (hl : ds.length ≤ sizeMax) :
    eLc it (.nm v) [v] c e S0 = .ok (.li .fz, .lst ((ds.filter p).map f)) S := by
  unfold eLc
  rw [bind_ap, hit, rbind_ok]
  have h1 : ([v].all (fzAt S) && noDup [v] && (Tg.nm v).sl.all [v].contains) = true := by simp [hz, noDup, Tg.sl]
  rw [if_pos h1]
  have h2 : wipeS S [v] = S.set v none := rfl
  rw [h2, cLoop_pure hv ds [] hc he (by simpa using hl)]
  have h3 : backS S (S.set v none) [v] = S := by
    show (S.set v none).set v (S.getD v none) = S
    rw [List.set_set]
    refine set_self hv ?_
    rw [List.getElem?_eq_getElem hv, List.getD_eq_getElem?_getD, List.getElem?_eq_getElem hv]
    rfl
  simp [h3]
theorem cLoop_inv {v n : Nat} {e : E} (I : List Slot → Prop) (Q : D → Prop) (hI : ∀ S, I S → v < S.length) : ∀ (ds acc : List D) (S : List Slot), I S → acc.length + ds.length ≤ sizeMax →
    (∀ S d, I S → d ∈ ds → ∃ k y S', e (S.set v (some (.fz, d))) = .ok (k, y) S' ∧ I (S'.set v none) ∧ Q y) →
    ∃ ys S', cLoop (.nm v) [v] tTrue e ds acc S = .ok (acc ++ ys) S' ∧ I S' ∧ ys.length = ds.length ∧ ∀ y ∈ ys, Q y
  | [], acc, S, i, _, _ => ⟨[], S, by simp [cLoop, M.pure], i, rfl, fun y hy => by simp at hy⟩
  | d :: ds, acc, S, i, hl, he => by
    have hl2 : acc.length + ds.length + 1 ≤ sizeMax := by simpa [Nat.add_assoc] using hl
    obtain ⟨k, y, S1, e1, i1, q1⟩ := he S d i List.mem_cons_self
    obtain ⟨ys, S2, e2, i2, l2, q2⟩ := cLoop_inv (n := n) I Q hI ds (acc ++ [y]) (S1.set v none) i1 (by rw [List.length_append, List.length_singleton]; omega) fun S d i h => he S d i (List.mem_cons_of_mem _ h)
    refine ⟨y :: ys, S2, ?_, i2, by simp [l2], fun z hz => ?_⟩
    · unfold cLoop
      have h1 : Tg.put (.nm v) d S = some (S.set v (some (.fz, d))) := by
        unfold Tg.put
        rw [if_pos (hI S i)]
      rw [h1]
      show R.bind (eDat e (S.set v (some (.fz, d)))) _ = _
      rw [eDat_ap, e1]
      show (if acc.length < sizeMax then cLoop (.nm v) [v] tTrue e ds (acc ++ [y]) (wipeS S1 [v]) else .bad) = _
      rw [if_pos (by omega)]
      have h2 : wipeS S1 [v] = S1.set v none := rfl
      rw [h2, e2]
      simp
    · rcases List.mem_cons.mp hz with h | h
      · rw [h]; exact q1
      · exact q2 z h
/-- a comprehension whose items keep I -/
theorem lc_inv {S0 S : List Slot} {v : Nat} {it : It} {e : E} {ds : List D} (I : List Slot → Prop) (Q : D → Prop) (hit : it S0 = .ok ds S) (hz : fzAt S v = true) (hl : ds.length ≤ sizeMax) (hI : ∀ S, I S → v < S.length) (i : I (S.set v none))
    (he : ∀ S d, I S → d ∈ ds → ∃ k y S', e (S.set v (some (.fz, d))) = .ok (k, y) S' ∧ I (S'.set v none) ∧ Q y) :
    ∃ ys S', eLc it (.nm v) [v] tTrue e S0 = .ok (.li .fz, .lst ys) (S'.set v (S.getD v none)) ∧ I S' ∧ ys.length = ds.length ∧ ∀ y ∈ ys, Q y := by
  obtain ⟨ys, S', e1, i1, l1, q1⟩ := cLoop_inv (n := 0) I Q hI ds [] (S.set v none) i (by simpa using hl) he
  refine ⟨ys, S', ?_, i1, l1, q1⟩
  unfold eLc
  rw [bind_ap, hit, rbind_ok]
  have h1 : ([v].all (fzAt S) && noDup [v] && (Tg.nm v).sl.all [v].contains) = true := by simp [hz, noDup, Tg.sl]
  rw [if_pos h1]
  have h2 : wipeS S [v] = S.set v none := rfl
  rw [h2, e1]
  rfl
/-- a for by an invariant: J by the items left -/
theorem loop_inv {v : Nat} {b : St} (I : List D → List Slot → Prop) (hI : ∀ ds S, I ds S → v < S.length) (h : ∀ d ds S, I (d :: ds) S → ∃ S', b (S.set v (some (.fz, d))) = .ok .nx S' ∧ I ds S') :
    ∀ ds S, I ds S → ∃ S', loop (.nm v) b ds S = .ok .nx S' ∧ I [] S'
  | [], S, i => ⟨S, rfl, i⟩
  | d :: ds, S, i => by
    obtain ⟨S1, e1, i1⟩ := h d ds S i
    obtain ⟨S2, e2, i2⟩ := loop_inv I hI h ds S1 i1
    refine ⟨S2, ?_, i2⟩
    unfold loop
    have h1 : Tg.put (.nm v) d S = some (S.set v (some (.fz, d))) := by
      unfold Tg.put
      rw [if_pos (hI _ S i)]
    rw [h1]
    show R.bind (b (S.set v (some (.fz, d)))) _ = _
    rw [e1]
    exact e2
/-- the same as promises -/
theorem lc_wp {it : It} {e : E} {v : Nat} {S : List Slot} {Q : KD → List Slot → Prop} (I : List Slot → Prop) (P : D → Prop) (hI : ∀ S, I S → v < S.length)
    (h : okP (it S) fun ds S1 => fzAt S1 v = true ∧ ds.length ≤ sizeMax ∧ I (S1.set v none) ∧ (∀ S d, I S → d ∈ ds → okP (e (S.set v (some (.fz, d)))) fun a S' => I (S'.set v none) ∧ P a.2) ∧
      ∀ ys S', ys.length = ds.length → (∀ y ∈ ys, P y) → I S' → Q (.li .fz, .lst ys) (S'.set v (S1.getD v none))) : okP (eLc it (.nm v) [v] tTrue e S) Q := by
  obtain ⟨ds, S1, e1, hz, hl, i, he, hq⟩ := h.ex
  obtain ⟨ys, S', e2, i2, l2, q2⟩ := lc_inv (e := e) I P e1 hz hl hI i fun S d i hd => by
    obtain ⟨⟨k, y⟩, S', e3, i3, q3⟩ := (he S d i hd).ex
    exact ⟨k, y, S', e3, i3, q3⟩
  exact okP.of e2 (hq ys S' l2 q2 i2)
theorem lcp_wp {it : It} {c : T} {e : E} {v : Nat} {S : List Slot} {Q : KD → List Slot → Prop} (p : D → Bool) (f : D → D)
    (h : okP (it S) fun ds S1 => fzAt S1 v = true ∧ v < S1.length ∧ ds.length ≤ sizeMax ∧ (∀ d ∈ ds, c (S1.set v (some (.fz, d))) = .ok (p d) (S1.set v (some (.fz, d)))) ∧ (∀ d ∈ ds, p d = true → ∃ k, e (S1.set v (some (.fz, d))) = .ok (k, f d) (S1.set v (some (.fz, d)))) ∧
      Q (.li .fz, .lst ((ds.filter p).map f)) S1) : okP (eLc it (.nm v) [v] c e S) Q := by
  obtain ⟨ds, S1, e1, hz, hv, hl, hc, he, hq⟩ := h.ex
  exact okP.of (lc_pure p f e1 hv hz hc he hl) hq
theorem loop_wp {v : Nat} {b : St} {S : List Slot} {ds : List D} {Q : Fl → List Slot → Prop} (I : List D → List Slot → Prop) (hI : ∀ ds S, I ds S → v < S.length) (i : I ds S)
    (h : ∀ d ds S, I (d :: ds) S → okP (b (S.set v (some (.fz, d)))) fun f S' => f = .nx ∧ I ds S') (hq : ∀ S, I [] S → Q .nx S) : okP (loop (.nm v) b ds S) Q := by
  obtain ⟨S', e, i2⟩ := loop_inv (b := b) I hI (fun d ds S i => by
    obtain ⟨f, S', e1, rfl, i1⟩ := (h d ds S i).ex
    exact ⟨S', e1, i1⟩) ds S i
  exact okP.of e (hq S' i2)
end TB
namespace TB
def bDraws : St := (sSeq (sSet 2 (eFr (eOp fMul (eCon (.int 15485863)) (eVar 1)))) (sSeq (sIf (eBool (eOp fLt (eVar 1) (eApp fLen [(eVar 0)]))) (sSet 2 (eOp fMod (eOp fIx (eVar 0) (eVar 1)) (eOp fMul (eOp fPow (eCon (.int 10)) (eCon (.int 60))) (eOp fPow (eCon (.int 10)) (eCon (.int 60)))))) (sIf (eBool (eOp fGt (eApp fLen [(eVar 0)]) (eCon (.int 0)))) (sSet 2 (eFr (eOp fAdd (eOp fMod (eOp fIx (eVar 0) (eOp fMod (eVar 1) (eApp fLen [(eVar 0)]))) (eOp fPow (eCon (.int 10)) (eCon (.int 15)))) (eOp fMul (eCon (.int 15485863)) (eVar 1))))) sNx)) (sRet (eApp fLst [(eOp fMul (eVar 2) (eApp fIntB [(eOp fGe (eVar 2) (eOp fPow (eCon (.int 10)) (eCon (.int 18))))])), (eOp fAdd (eCon (.int 1)) (eOp fMod (eOp fAdd (eOp fMul (eVar 2) (eCon (.int 69621))) (eOp fMul (eCon (.int 86028121)) (eOp fAdd (eVar 1) (eCon (.int 1))))) (eCon (.int 2147483646))))]))))
def DrawsOk (F : Fn) : Prop := ∀ (ns : List Int) (k : Int), 0 ≤ k → k ≤ 1000 → ∃ kd, F [(.fz, .scr ns), (.fz, .int k)] = .ret kd [] ∧ DI kd
theorem normIx_nat {n : Nat} {k : Int} (h0 : 0 ≤ k) (h : k < n) : normIx n k = some k.toNat := by
  unfold normIx
  rw [if_pos h0, if_pos h]
theorem draws_tail {ns : List Int} {k c : Int} (k0 : 0 ≤ k) (k1 : k ≤ 1000) (c0 : 0 ≤ c) (c1 : c < 1000000000000000000000000000000000000000000000000000000000000000000000000000000000000000000000000000000000000000000000000) :
    ∃ kd, (sRet (eApp fLst [(eOp fMul (eVar 2) (eApp fIntB [(eOp fGe (eVar 2) (eOp fPow (eCon (.int 10)) (eCon (.int 18))))])), (eOp fAdd (eCon (.int 1)) (eOp fMod (eOp fAdd (eOp fMul (eVar 2) (eCon (.int 69621))) (eOp fMul (eCon (.int 86028121)) (eOp fAdd (eVar 1) (eCon (.int 1))))) (eCon (.int 2147483646))))])) [some (.fz, .scr ns), some (.fz, .int k), some (.fz, .int c)] =
      .ok (.rt kd) [some (.fz, .scr ns), some (.fz, .int k), some (.fz, .int c)] ∧ DI kd := by
  have s1 : small c := by show c.natAbs < _; omega
  have s2 : small (k + 1) := by show (k + 1).natAbs < _; omega
  by_cases h : 1000000000000000000 ≤ c
  · refine ⟨_, by simp [fPow, fGe, fIntB, fMul, fAdd, fMod, fLst, kz, h, s1, s2, sizeMax]; rfl, c, _, rfl, c0, c1, ?_, ?_⟩
    · have := Int.emod_nonneg (c * 69621 + 86028121 * (k + 1)) (b := 2147483646) (by decide); omega
    · have := Int.emod_lt_of_pos (c * 69621 + 86028121 * (k + 1)) (b := 2147483646) (by decide); omega
  · refine ⟨_, by simp [fPow, fGe, fIntB, fMul, fAdd, fMod, fLst, kz, h, s1, s2, sizeMax]; rfl, 0, _, rfl, by omega, by omega, ?_, ?_⟩
    · have := Int.emod_nonneg (c * 69621 + 86028121 * (k + 1)) (b := 2147483646) (by decide); omega
    · have := Int.emod_lt_of_pos (c * 69621 + 86028121 * (k + 1)) (b := 2147483646) (by decide); omega
theorem draws_ok : DrawsOk (runF 3 [] bDraws) := by
  intro ns k k0 k1
  have sk : small k := by show k.natAbs < _; omega
  have main : ∃ kd c, bDraws [some (.fz, .scr ns), some (.fz, .int k), none] = .ok (.rt kd) [some (.fz, .scr ns), some (.fz, .int k), some (.fz, .int c)] ∧ DI kd := by
    unfold bDraws
    by_cases h : k < (ns.length : Int)
    · have hn : k.toNat < ns.length := by omega
      have e1 := Int.emod_nonneg ns[k.toNat] (b := 1000000000000000000000000000000000000000000000000000000000000000000000000000000000000000000000000000000000000000000000000) (by decide)
      have e2 := Int.emod_lt_of_pos ns[k.toNat] (b := 1000000000000000000000000000000000000000000000000000000000000000000000000000000000000000000000000000000000000000000000000) (by decide)
      obtain ⟨kd, h1, h2⟩ := draws_tail (ns := ns) k0 k1 e1 e2
      refine ⟨kd, ns[k.toNat] % 1000000000000000000000000000000000000000000000000000000000000000000000000000000000000000000000000000000000000000000000000, ?_, h2⟩
      rw [← h1]
      simp [fMul, fLt, fLen, kz, sk, h, fIx, normIx_nat k0 h, hn, fPow, fMod]
    · by_cases hl : 0 < ns.length
      · have hl' : (0 : Int) < ns.length := by omega
        have m0 := Int.emod_nonneg k (b := (ns.length : Int)) (by omega)
        have m1 := Int.emod_lt_of_pos k hl'
        have hn : (k % (ns.length : Int)).toNat < ns.length := by omega
        have e1 := Int.emod_nonneg ns[(k % (ns.length : Int)).toNat] (b := 1000000000000000) (by decide)
        have e2 := Int.emod_lt_of_pos ns[(k % (ns.length : Int)).toNat] (b := 1000000000000000) (by decide)
        obtain ⟨kd, h1, h2⟩ := draws_tail (ns := ns) (c := ns[(k % (ns.length : Int)).toNat] % 1000000000000000 + 15485863 * k) k0 k1 (by omega) (by omega)
        refine ⟨kd, ns[(k % (ns.length : Int)).toNat] % 1000000000000000 + 15485863 * k, ?_, h2⟩
        rw [← h1]
        simp [fMul, fLt, fLen, fGt, kz, sk, h, hl, fIx, normIx_nat m0 m1, hn, fPow, fMod, fAdd]
      · have hl0 : ns.length = 0 := by omega
        obtain ⟨kd, h1, h2⟩ := draws_tail (ns := ns) (c := 15485863 * k) k0 k1 (by omega) (by omega)
        refine ⟨kd, 15485863 * k, ?_, h2⟩
        rw [← h1]
        simp [fMul, fLt, fLen, fGt, kz, sk, h, hl]
  obtain ⟨kd, c, e, h⟩ := main
  exact ⟨kd, runF_ret (as := [(.fz, .scr ns), (.fz, .int k)]) rfl e rfl, h⟩
end TB
namespace TB
def bNames (F : Fn) : St := (sSeq (sSet 2 (eCon (.str [97, 98, 99, 100, 101, 102, 103, 104, 105, 106, 107, 108, 109, 110, 111, 112, 113, 114, 115, 116, 117, 118, 119, 120, 121, 122]))) (sSeq (sSet 3 (eJoin (eCon (.str [])) (eLc (itRange1 (eOp fIx (eApp fLst [(eCon (.int 0)), (eCon (.int 1)), (eCon (.int 2)), (eCon (.int 7))]) (eCall F [.b 0, .v (eCon (.int 4))]))) (.nm 6) [6] tTrue (eOp fIx (eVar 2) (eCall F [.b 0, .v (eCon (.int 26))]))))) (sSeq (sSet 4 (eCall F [.b 0, .v (eCon (.int 26))])) (sSeq (sSet 5 (eOp fIx (eApp fLst [(eCon (.int 1)), (eCon (.int 3)), (eCon (.int 5)), (eCon (.int 7))]) (eCall F [.b 0, .v (eCon (.int 4))]))) (sRet (eFr (eApp fSorted [(eLc (itRange1 (eVar 1)) (.nm 6) [6] tTrue (eOp fAdd (eVar 3) (eOp fIx (eVar 2) (eOp fMod (eOp fAdd (eVar 4) (eOp fMul (eVar 5) (eVar 6))) (eCon (.int 26))))))])))))))
def abc : List Nat := [97, 98, 99, 100, 101, 102, 103, 104, 105, 106, 107, 108, 109, 110, 111, 112, 113, 114, 115, 116, 117, 118, 119, 120, 121, 122]
/-- names: texts of one to eight letters -/
def nameS (s : List Nat) : Bool := decide (1 ≤ s.length) && decide (s.length ≤ 8) && s.all (abc.contains ·)
theorem abc_ix {r : Int} (h0 : 0 ≤ r) (h1 : r < 26) : ∃ c, fIx (.str abc) (.int r) = some (.fz, .str [c]) ∧ c ∈ abc ∧ c = 97 + r.toNat := by
  have hn : r.toNat < 26 := by omega
  have hl : abc.length = 26 := rfl
  refine ⟨abc[r.toNat]'(by rw [hl]; exact hn), ?_, List.getElem_mem _, ?_⟩
  · show (if abc.length ≤ sizeMax then (normIx abc.length r).bind fun n => abc[n]?.bind fun c => kz (.str [c]) else none) = _
    rw [if_pos (by decide), normIx_nat h0 (by rw [hl]; exact h1)]
    simp [hl, hn, kz]
  · generalize r.toNat = n at hn
    have : ∀ n : Fin 26, abc[n.1]? = some (97 + n.1) := by decide
    have := this ⟨n, hn⟩
    rw [List.getElem?_eq_getElem (by rw [hl]; exact hn)] at this
    exact Option.some.inj this
def NamesQ (m : Int) (r : KD) (o : List KD) : Prop := ∃ (ss : List (List Nat)) (kd : KD), r = (.fz, .lst (ss.map D.str)) ∧ o = [kd] ∧ DI kd ∧ ss.length = m.toNat ∧ (∀ s ∈ ss, nameS s = true) ∧ ss.Pairwise (· ≤ ·) ∧ ss.Nodup
def NamesOk (F : Fn) : Prop := ∀ (kd : KD) (m : Int), DI kd → 0 ≤ m → m ≤ 26 → FnP F [kd, (.fz, .int m)] (NamesQ m)
theorem strsOf_map : ∀ ss : List (List Nat), strsOf (ss.map D.str) = some ss
  | [] => rfl
  | s :: ss => by simp [strsOf, strsOf_map ss]
theorem strs_exists : ∀ ys : List D, (∀ y ∈ ys, ∃ c, y = .str [c] ∧ c ∈ abc) → ∃ cs : List Nat, ys = cs.map (fun c => .str [c]) ∧ (∀ c ∈ cs, c ∈ abc)
  | [], _ => ⟨[], rfl, fun _ h => by simp at h⟩
  | y :: ys, h => by
    obtain ⟨c, e, m⟩ := h y List.mem_cons_self
    obtain ⟨cs, e2, m2⟩ := strs_exists ys fun z hz => h z (List.mem_cons_of_mem _ hz)
    exact ⟨c :: cs, by rw [e, e2]; rfl, fun x hx => by rcases List.mem_cons.mp hx with q | q; (rw [q]; exact m); exact m2 x q⟩
theorem join_ones : ∀ cs : List Nat, joinD [] (cs.map fun c => [c]) = cs
  | [] => rfl
  | [c] => rfl
  | c :: d :: cs => by
    show [c] ++ ([] ++ joinD [] ((d :: cs).map fun c => [c])) = _
    rw [join_ones (d :: cs)]; rfl
theorem sortT_perm (xs : List (List Nat)) : (sortT xs).Perm xs := List.mergeSort_perm _ _
theorem sortT_pair (xs : List (List Nat)) : (sortT xs).Pairwise (· ≤ ·) := by
  unfold sortT
  have e : (fun a b : List Nat => !decide (b < a)) = fun a b => decide (a ≤ b) := by
    funext a b
    rw [← decide_not]
    exact decide_eq_decide.mpr List.not_lt
  rw [e]
  have := List.pairwise_mergeSort (le := fun a b : List Nat => decide (a ≤ b)) (fun a b c h1 h2 => by simp at *; exact List.le_trans h1 h2) (fun a b => by simp; exact List.le_total a b) xs
  exact this.imp fun h => by simpa using h
theorem fIx_lst {xs : List D} {r : Int} (h0 : 0 ≤ r) (h1 : r < xs.length) : ∃ x ∈ xs, fIx (.lst xs) (.int r) = some (.fz, x) := by
  have hn : r.toNat < xs.length := by omega
  refine ⟨xs[r.toNat], List.getElem_mem _, ?_⟩
  show ((normIx xs.length r).bind fun n => xs[n]?.bind kz) = _
  rw [normIx_nat h0 h1]
  simp [hn, kz]
theorem pick_int {xs : List D} {r lo hi : Int} (h0 : 0 ≤ r) (h1 : r < xs.length) (h : ∀ x ∈ xs, ∃ j, x = .int j ∧ lo ≤ j ∧ j ≤ hi) : ∃ j, fIx (.lst xs) (.int r) = some (.fz, .int j) ∧ lo ≤ j ∧ j ≤ hi := by
  obtain ⟨x, hx, e⟩ := fIx_lst h0 h1
  obtain ⟨j, rfl, h2⟩ := h x hx
  exact ⟨j, e, h2⟩
theorem small_i {i : Int} (h0 : 0 ≤ i) (h1 : i < 1000000000000000000000000000000000000000000000000000000000000) : small i := by show i.natAbs < _; omega
theorem ones_sum : ∀ cs : List Nat, ((cs.map fun c => [c]).map (·.length)).sum = cs.length
  | [] => rfl
  | c :: cs => by
    show 1 + ((cs.map fun c => [c]).map (·.length)).sum = cs.length + 1
    rw [ones_sum cs]; omega
theorem abc_eq : abc = [97, 98, 99, 100, 101, 102, 103, 104, 105, 106, 107, 108, 109, 110, 111, 112, 113, 114, 115, 116, 117, 118, 119, 120, 121, 122] := rfl
def stepOk (s : Int) : Prop := s = 1 ∨ s = 3 ∨ s = 5 ∨ s = 7
def nth (stem : List Nat) (a s : Int) (d : D) : D := match d with
  | .int k => .str (stem ++ [97 + ((a + s * k) % 26).toNat])
  | _ => .non
def nthS (stem : List Nat) (a s : Int) (k : Nat) : List Nat := stem ++ [97 + ((a + s * (k : Int)) % 26).toNat]
theorem nth_map (stem : List Nat) (a s : Int) (n : Nat) : (rangeL 0 n).map (nth stem a s) = ((List.range n).map (nthS stem a s)).map D.str := by
  unfold rangeL
  rw [List.map_map, List.map_map]
  refine List.map_congr_left fun k _ => ?_
  show nth stem a s (.int (0 + (k : Int))) = D.str (nthS stem a s k)
  rw [Int.zero_add]; rfl
theorem nth_inj {stem : List Nat} {a s : Int} (hs : stepOk s) {i j : Nat} (hi : i < 26) (hj : j < 26) (h : nthS stem a s i = nthS stem a s j) : i = j := by
  unfold nthS at h
  have h := List.append_cancel_left h
  have h : 97 + ((a + s * (i : Int)) % 26).toNat = 97 + ((a + s * (j : Int)) % 26).toNat := by simpa using h
  have m1 := Int.emod_nonneg (a + s * (i : Int)) (b := 26) (by decide)
  have m2 := Int.emod_nonneg (a + s * (j : Int)) (b := 26) (by decide)
  rcases hs with rfl | rfl | rfl | rfl <;> omega
theorem nth_name {stem : List Nat} {a s : Int} (h1 : stem.length ≤ 7) (h2 : ∀ c ∈ stem, c ∈ abc) (k : Nat) : nameS (nthS stem a s k) = true := by
  unfold nameS nthS
  have m1 := Int.emod_nonneg (a + s * (k : Int)) (b := 26) (by decide)
  have m2 := Int.emod_lt_of_pos (a + s * (k : Int)) (b := 26) (by decide)
  generalize hc : ((a + s * (k : Int)) % 26).toNat = c
  have hc2 : c < 26 := by omega
  have h3 : ∀ n : Fin 26, abc.contains (97 + n.1) = true := by decide
  have h3 := h3 ⟨c, hc2⟩
  have h4 : stem.all (abc.contains ·) = true := List.all_eq_true.mpr fun c hc => by simpa using h2 c hc
  simp only [List.length_append, List.length_singleton, List.all_append, h4, List.all_cons, List.all_nil, h3]
  simp
  omega
theorem map_nodup {α β : Type} {f : α → β} : ∀ {l : List α}, l.Nodup → (∀ a ∈ l, ∀ b ∈ l, f a = f b → a = b) → (l.map f).Nodup
  | [], _, _ => .nil
  | x :: l, h, i => by
    rw [List.nodup_cons] at h
    rw [List.map_cons, List.nodup_cons]
    refine ⟨fun m => ?_, map_nodup h.2 fun a ha b hb => i a (List.mem_cons_of_mem _ ha) b (List.mem_cons_of_mem _ hb)⟩
    obtain ⟨y, hy, e⟩ := List.mem_map.mp m
    have := i y (List.mem_cons_of_mem _ hy) x List.mem_cons_self e
    exact h.1 (this ▸ hy)
theorem intsOf_str {s : List Nat} {ds : List D} : intsOf (.str s :: ds) = none := rfl
theorem sorted_strs {ss : List (List Nat)} (h : ss.length < 64) : fSorted [.lst (ss.map D.str)] = some (.li .fz, .lst ((sortT ss).map D.str)) := by
  cases ss with
  | nil => simp [fSorted, intsOf, sortI, sortT]
  | cons s ss =>
    show (match intsOf (.str s :: ss.map D.str) with | some is => some ((.li .fz, .lst ((sortI is).map D.int)) : KD) | none => match strsOf ((s :: ss).map D.str) with | some ss => if ss.length < 64 then some ((.li .fz, .lst ((sortT ss).map D.str)) : KD) else none | none => none) = _
    rw [intsOf_str, strsOf_map]
    exact if_pos h
theorem names_ok {F : Fn} (hF : DrawOk F) : NamesOk (runF 7 [0] (bNames F)) := by
  intro kd m hd m0 m1
  refine runF_wp (by obtain ⟨a, b, rfl, _⟩ := hd; rfl) ?_
  simp [bNames, ← abc_eq, -Prod.exists, -Prod.forall]
  refine lc_wp (fun S => ∃ kd, DI kd ∧ S = [some kd, some (.fz, .int m), some (.fz, .str abc), none, none, none, none]) (fun d => ∃ c, d = .str [c] ∧ c ∈ abc) ?_ ?_
  · rintro S ⟨_, _, rfl⟩; simp
  simp [-Prod.exists, -Prod.forall]
  refine draw_wp hF rfl ?_
  simp [hd, -Prod.exists, -Prod.forall]
  intro r kd2 hd2 r0 r1
  obtain ⟨j, e, j0, j1⟩ := pick_int (xs := [.int 0, .int 1, .int 2, .int 7]) (lo := 0) (hi := 7) r0 (by simpa using r1) (by simp)
  have hj : j.natAbs < limN := by unfold limN; omega
  simp [e, hj, -Prod.exists, -Prod.forall]
  refine ⟨by simp [fzAt], by simp [rangeL, sizeMax]; omega, hd2, ?_, ?_⟩
  · rintro S d kd3 hd3 rfl hm
    simp [-Prod.exists, -Prod.forall]
    refine draw_wp hF rfl ?_
    simp [hd3, -Prod.exists, -Prod.forall]
    intro r kd4 hd4 r2 r3
    obtain ⟨c, e2, hc, _⟩ := abc_ix r2 r3
    simp [e2, hc, -Prod.exists, -Prod.forall]
    exact hd4
  · rintro ys S' hl hy kd3 hd3 rfl
    obtain ⟨cs, rfl, hcs⟩ := strs_exists ys hy
    have hl2 : cs.length ≤ 7 := by
      rw [List.length_map] at hl
      rw [hl]; simp [rangeL]; omega
    have ej : fJoin [] (.lst (cs.map fun c => D.str [c])) = some (.fz, .str cs) := by
      have e1 : (cs.map fun c => D.str [c]) = (cs.map fun c => [c]).map D.str := by rw [List.map_map]; rfl
      show (strsOf _).bind _ = _
      rw [e1, strsOf_map]
      show (if ((cs.map fun c => [c]).map (·.length)).sum + (cs.map fun c => [c]).length * 0 ≤ sizeMax then kz (.str (joinD [] (cs.map fun c => [c]))) else none) = _
      rw [ones_sum, join_ones, if_pos (by simp [sizeMax]; omega)]
      rfl
    simp [ej, -Prod.exists, -Prod.forall]
    refine draw_wp hF rfl ?_
    simp [hd3, -Prod.exists, -Prod.forall]
    intro a kd4 hd4 a0 a1
    refine draw_wp hF rfl ?_
    simp [hd4, -Prod.exists, -Prod.forall]
    intro r kd5 hd5 r4 r5
    obtain ⟨x, hx, e3⟩ := fIx_lst (xs := [.int 1, .int 3, .int 5, .int 7]) r4 (by simpa using r5)
    have hs : ∃ s, x = .int s ∧ stepOk s := by
      unfold stepOk
      simp at hx
      rcases hx with rfl | rfl | rfl | rfl <;> simp
    obtain ⟨s, rfl, hs⟩ := hs
    have s0 : 0 ≤ s := by unfold stepOk at hs; omega
    have s1 : s ≤ 7 := by unfold stepOk at hs; omega
    simp [e3, -Prod.exists, -Prod.forall]
    refine lcp_wp (fun _ => true) (nth cs a s) ?_
    have hm : m.natAbs < limN := by unfold limN; omega
    simp [hm, -Prod.exists, -Prod.forall]
    refine ⟨by simp [fzAt], by simp [rangeL, sizeMax]; omega, ?_, ?_⟩
    · intro d hd
      unfold rangeL at hd
      obtain ⟨k, hk, rfl⟩ := List.mem_map.mp hd
      have hk := List.mem_range.mp hk
      have q1 := Int.emod_nonneg (a + s * (0 + (k : Int))) (b := 26) (by decide)
      have q2 := Int.emod_lt_of_pos (a + s * (0 + (k : Int))) (b := 26) (by decide)
      obtain ⟨c, e4, _, e5⟩ := abc_ix q1 q2
      have z1 : small s := small_i s0 (by omega)
      have z2 : small (0 + (k : Int)) := small_i (by omega) (by omega)
      have z3 : cs.length + 1 ≤ sizeMax := by simp [sizeMax]; omega
      simp only [Int.zero_add] at e4 e5 z2 ⊢
      exact ⟨.fz, by simp [fMul, fAdd, fMod, kz, z1, z2, e4, z3, nth, e5]; omega⟩
    · rw [show ∀ l : List D, l.filter (fun _ => true) = l from fun l => List.filter_eq_self.mpr fun _ _ => rfl, nth_map, sorted_strs (by simp; omega)]
      obtain ⟨ka, kb, rfl, _⟩ := hd
      obtain ⟨kc, kd', rfl, hh⟩ := hd5
      simp [outsOf, dr, Kd.isF, -Prod.exists]
      refine ⟨_, _, rfl, rfl, ⟨kc, kd', rfl, hh⟩, ?_, ?_, sortT_pair _, ?_⟩
      · rw [(sortT_perm _).length_eq]; simp
      · intro x hx
        obtain ⟨k, _, rfl⟩ := List.mem_map.mp ((sortT_perm _).mem_iff.mp hx)
        exact nth_name hl2 hcs k
      · refine (sortT_perm _).nodup_iff.mpr (map_nodup List.nodup_range fun i hi j hj e => ?_)
        have hi := List.mem_range.mp hi
        have hj := List.mem_range.mp hj
        exact nth_inj hs (by omega) (by omega) e
end TB
namespace TB
section
end
theorem intsOf_map : ∀ is : List Int, intsOf (is.map D.int) = some is
  | [] => rfl
  | i :: is => by simp [intsOf, intsOf_map is]
end TB
namespace TB
theorem boolsOf_map {α : Type} (g : α → Bool) : ∀ l : List α, boolsOf (l.map fun x => D.bl (g x)) = some (l.map g)
  | [] => rfl
  | x :: l => by simp [boolsOf, boolsOf_map g l]
theorem filter_true (l : List D) : l.filter (fun _ => true) = l := List.filter_eq_self.mpr fun _ _ => rfl
section
end
section
variable {it : It} {c : T} {e : E} {v : Nat} {S : List Slot} {ds : List D}
theorem all_ex (g : D → Bool) (hit : it S = .ok ds S) (hz : fzAt S v = true) (hv : v < S.length) (hl : ds.length ≤ sizeMax) (he : ∀ d ∈ ds, ∃ k, e (S.set v (some (.fz, d))) = .ok (k, .bl (g d)) (S.set v (some (.fz, d)))) :
    ∃ ys, eLc it (.nm v) [v] tTrue e S = .ok (.li .fz, .lst ys) S ∧ fAllB [.lst ys] = some (.fz, .bl (ds.all g)) := by
  have h := lc_pure (c := tTrue) (e := e) (fun _ => true) (fun d => .bl (g d)) hit hv hz (fun _ _ => rfl) (fun d hd _ => he d hd) hl
  rw [filter_true] at h
  refine ⟨_, h, ?_⟩
  show ((boolsOf _).bind fun bs => kz (.bl (bs.all id))) = _
  rw [boolsOf_map]
  show kz (.bl ((ds.map g).all id)) = _
  rw [List.all_map]; rfl
end
def good (b : Nat) : Nat → D → Prop
  | _, .non => True
  | _, .bl _ => True
  | _, .int _ => True
  | _, .str s => s.length ≤ b ∧ ∀ c ∈ s, c < 1114112
  | n + 1, .lst xs => xs.length ≤ b ∧ ∀ x ∈ xs, good b n x
  | n + 1, .tup xs => xs.length ≤ b ∧ ∀ x ∈ xs, good b n x
  | _, _ => False
theorem good_mono {b b' : Nat} (hb : b ≤ b') : ∀ {n n' : Nat} {d : D}, n ≤ n' → good b n d → good b' n' d := by
  intro n
  induction n with
  | zero =>
    intro n' d hn h
    cases d <;> simp only [good] at h <;> cases n' <;> simp only [good] <;> first | trivial | exact ⟨by omega, h.2⟩ | exact h.elim
  | succ n ih =>
    intro n' d hn h
    cases n' with
    | zero => omega
    | succ n' =>
      cases d <;> simp only [good] at h ⊢ <;> first | trivial | exact ⟨by omega, h.2⟩ | exact ⟨by omega, fun x hx => ih (by omega) (h.2 x hx)⟩
@[elab_as_elim] theorem good_elim {b n : Nat} {d : D} {P : D → Prop} (h : good b n d) (h1 : P .non) (h2 : ∀ x, P (.bl x)) (h3 : ∀ i, P (.int i)) (h4 : ∀ s : List Nat, s.length ≤ b → (∀ c ∈ s, c < 1114112) → P (.str s))
    (h5 : ∀ (xs : List D) (n' : Nat), n = n' + 1 → xs.length ≤ b → (∀ x ∈ xs, good b n' x) → P (.lst xs)) (h6 : ∀ (xs : List D) (n' : Nat), n = n' + 1 → xs.length ≤ b → (∀ x ∈ xs, good b n' x) → P (.tup xs)) : P d := by
  cases d with
  | non => exact h1
  | bl x => exact h2 x
  | int i => exact h3 i
  | str s =>
    have h : s.length ≤ b ∧ ∀ c ∈ s, c < 1114112 := by cases n <;> exact h
    exact h4 s h.1 h.2
  | lst xs => cases n with
    | zero => exact h.elim
    | succ n => exact h5 xs n rfl h.1 h.2
  | tup xs => cases n with
    | zero => exact h.elim
    | succ n => exact h6 xs n rfl h.1 h.2
  | _ => cases n <;> exact h.elim
theorem FnP.eq {F : Fn} {as : List KD} {r : KD} {o : List KD} (h : FnP F as fun r' o' => r' = r ∧ o' = o) : F as = .ret r o := by
  obtain ⟨r', o', e, rfl, rfl⟩ := h
  exact e
end TB
namespace TB
theorem arEv_vs : ∀ (es : List E) (S : List Slot), arEv (es.map Ar.v) S = (eAll es S).bind fun ds S1 => .ok (ds.map AV.v) S1
  | [], S => rfl
  | e :: es, S => by
    rw [List.map_cons, arEv_v, eAll_cons]
    cases eDat e S with
    | ok d S1 =>
      show (arEv (es.map Ar.v) S1).bind _ = ((eAll es S1).bind _).bind _
      rw [arEv_vs es S1]
      cases eAll es S1 <;> rfl
    | exc x S1 => rfl
    | bad => rfl
theorem arIn_vs : ∀ (ds : List D) (S : List Slot), arIn (ds.map AV.v) S = some (ds.map fun d => (.fz, d), S)
  | [], S => rfl
  | d :: ds, S => by rw [List.map_cons]; unfold arIn; rw [arIn_vs ds S]; rfl
theorem arOut_vs : ∀ (ds : List D) (S : List Slot), arOut (ds.map AV.v) [] S = some S
  | [], S => rfl
  | d :: ds, S => by rw [List.map_cons]; unfold arOut; exact arOut_vs ds S
theorem DI.own {kd : KD} (h : DI kd) : kd.1.isF = false := by obtain ⟨a, b, rfl, _⟩ := h; rfl
theorem callB_wp {F : Fn} {i : Nat} {es : List E} {S : List Slot} {kd0 : KD} {Q : KD → List Slot → Prop} (h0 : S[i]? = some (some kd0))
    (h : okP (eAll es S) fun ds S1 => match S1[i]? with
      | some (some kd) => DI kd ∧ FnP F (kd :: ds.map fun d => (.fz, d)) fun r o => ∃ kd', o = [kd'] ∧ DI kd' ∧ Q r (S1.set i (some kd'))
      | _ => False) : okP (eCall F (.b i :: es.map Ar.v) S) Q := by
  refine call_wp ?_
  rw [arEv_b, h0]
  simp only [okP_bind]
  rw [arEv_vs, okP_bind]
  refine h.mono fun ds S1 h => ?_
  cases e1 : S1[i]? with
  | none => rw [e1] at h; exact h.elim
  | some s =>
    cases s with
    | none => rw [e1] at h; exact h.elim
    | some kd =>
      rw [e1] at h
      obtain ⟨hd, r, o, e2, kd', rfl, d2, q⟩ := h
      show (match arIn (.b i :: ds.map AV.v) S1 with | some (ks, S2) => _ | none => False)
      have e3 : arIn (.b i :: ds.map AV.v) S1 = some (kd :: ds.map fun d => (.fz, d), S1.set i none) := by
        unfold arIn
        rw [e1]
        simp only [hd.own, Bool.false_eq_true, if_false]
        rw [arIn_vs]; rfl
      rw [e3]
      refine ⟨r, [kd'], e2, ?_⟩
      have e4 : arOut (.b i :: ds.map AV.v) [kd'] (S1.set i none) = some (S1.set i (some kd')) := by
        unfold arOut
        rw [List.set_set, arOut_vs]
      simp only [e4]
      exact q
theorem call1_wp {F : Fn} {i : Nat} {a : E} {S : List Slot} {kd0 : KD} {Q : KD → List Slot → Prop} (h0 : S[i]? = some (some kd0))
    (h : okP (eAll [a] S) fun ds S1 => match S1[i]? with
      | some (some kd) => DI kd ∧ FnP F (kd :: ds.map fun d => (.fz, d)) fun r o => ∃ kd', o = [kd'] ∧ DI kd' ∧ Q r (S1.set i (some kd'))
      | _ => False) : okP (eCall F [.b i, .v a] S) Q := callB_wp (es := [a]) h0 h
theorem FnP.mono {F : Fn} {as : List KD} {Q Q' : KD → List KD → Prop} (h : FnP F as Q) (i : ∀ r o, Q r o → Q' r o) : FnP F as Q' := by
  obtain ⟨r, o, e, q⟩ := h
  exact ⟨r, o, e, i r o q⟩
end TB
namespace LW
open TB
def nameB (d : D) : Bool := match d with
  | .str s => nameS s
  | _ => false
def withinB (d : D) (lo hi : Int) : Bool := match d with
  | .int i => decide (lo ≤ i) && decide (i ≤ hi)
  | _ => false
def ltB : D → D → Bool
  | .int i, .int j => decide (i < j)
  | .str a, .str b => decide (a < b)
  | _, _ => false
def riseAt (xs : List D) (d : D) : Bool := match d with
  | .int k => ltB (xs.getD (k - 1).toNat .non) (xs.getD k.toNat .non)
  | _ => false
def riseB (xs : List D) : Bool := (rangeL 1 (xs.length - 1)).all (riseAt xs)
/-- all ints or all texts -/
def like (xs : List D) : Prop := (∀ x ∈ xs, ∃ i, x = .int i) ∨ (∀ x ∈ xs, ∃ s, x = .str s)
def namesB (d : D) (few many : Int) : Bool := match d with
  | .tup xs => decide (few ≤ xs.length) && decide ((xs.length : Int) ≤ many) && xs.all nameB && riseB xs
  | _ => false
section
variable {Γ : Nat → Fn} {b n : Nat} {d : D}
theorem within_0 {lo hi : Int} (h : good b n d) : runF 3 [] (mb_0 Γ) [(.fz, d), (.fz, .int lo), (.fz, .int hi)] = .ret (.fz, .bl (withinB d lo hi)) [] := by
  refine FnP.eq (runF_wp (by rfl) ?_)
  refine good_elim h ?_ ?_ ?_ ?_ ?_ ?_ <;> intros <;> simp [mb_0, fIsi, D.isTy, kz, fLe, chain2_ap, outsOf, Kd.isF, withinB]
  rename_i i
  by_cases h1 : lo ≤ i <;> simp [h1, outsOf, Kd.isF]
theorem inA (c : Nat) : fInA (.str [c]) (.str abc) = some (.fz, .bl (decide (c ∈ abc))) := rfl
def signB (d : D) : Bool := match d with
  | .str [c] => decide (c ∈ abc)
  | _ => false
theorem signs (s : List Nat) : (s.map fun c => D.str [c]).all signB = s.all (abc.contains ·) := by
  rw [List.all_map]
  congr 1
  funext c
  show decide (c ∈ abc) = abc.contains c
  rw [Bool.eq_iff_iff]; simp
theorem name_1 (hb : b ≤ 1000) (h : good b n d) : runF 2 [] (mb_1 Γ) [(.fz, d)] = .ret (.fz, .bl (nameB d)) [] := by
  refine FnP.eq (runF_wp (by rfl) ?_)
  refine good_elim h ?_ ?_ ?_ ?_ ?_ ?_ <;> intros <;> simp [mb_1, ← abc_eq, fIsi, D.isTy, kz, fLe, outsOf, Kd.isF, nameB]
  rename_i s hl _
  have hs : s.length ≤ sizeMax := by simp [sizeMax]; omega
  obtain ⟨ys, e1, e2⟩ := all_ex (it := itStr (eVar 0)) (e := eOp fInA (eVar 1) (eCon (.str abc))) (v := 1) (S := [some (.fz, .str s), none]) (ds := s.map fun c => .str [c]) signB rfl rfl (by simp) (by simpa using hs) (fun d hd => by
    obtain ⟨c, _, rfl⟩ := List.mem_map.mp hd
    exact ⟨.fz, by simp [inA, signB]⟩)
  rw [signs] at e2
  by_cases h1 : 1 ≤ s.length
  · by_cases h2 : s.length ≤ 8
    · have h1' : (1 : Int) ≤ s.length := by omega
      have h2' : (s.length : Int) ≤ 8 := by omega
      simp [fLen, hs, kz, fLe, chain2_ap, h1', h2', e1, e2, outsOf, Kd.isF, nameS, h1, h2]
    · have h1' : (1 : Int) ≤ s.length := by omega
      have h2' : ¬ (s.length : Int) ≤ 8 := by omega
      simp [fLen, hs, kz, fLe, chain2_ap, h1', h2', outsOf, Kd.isF, nameS, h1, h2]
  · have h1' : ¬ (1 : Int) ≤ s.length := by omega
    simp [fLen, hs, kz, chain2_ap, h1', outsOf, Kd.isF, nameS, h1]
theorem fIx_tup {xs : List D} {k : Int} (h0 : 0 ≤ k) (h1 : k < xs.length) : fIx (.tup xs) (.int k) = some (.fz, xs.getD k.toNat .non) := by
  have hn : k.toNat < xs.length := by omega
  show ((normIx xs.length k).bind fun n => xs[n]?.bind kz) = _
  rw [normIx_nat h0 h1]
  simp [hn, kz, List.getD_eq_getElem?_getD]
theorem mem_rangeL {lo : Int} {n : Nat} {d : D} (h : d ∈ rangeL lo n) : ∃ i : Nat, i < n ∧ d = .int (lo + i) := by
  unfold rangeL at h
  obtain ⟨i, hi, rfl⟩ := List.mem_map.mp h
  exact ⟨i, List.mem_range.mp hi, rfl⟩
theorem rangeL_length (lo : Int) (n : Nat) : (rangeL lo n).length = n := by simp [rangeL]
end
end LW
namespace LW
open TB
def tLet : List Nat := [108, 101, 116]
def tBar : List Nat := [98, 97, 114]
def wordB (d : D) : Bool := match d with
  | .str w => decide (w = tLet) || decide (w = tBar)
  | _ => false
def daysB (d : D) : Bool := match d with
  | .tup ds => ds.all (fun d => withinB d 0 6) && riseB ds
  | _ => false
def hiB (g f : D) : Bool := match f with
  | .int l => withinB g l 1000000
  | _ => false
def rule6 (a c e f g h : D) : Bool := wordB a && (namesB c 0 2 && (namesB e 0 2 && (daysB f && (withinB g 1 1000000 && hiB h g))))
def ruleB (d : D) : Bool := match d with
  | .tup [a, c, e, f, g, h] => rule6 a c e f g h
  | _ => false
def bookB (d : D) : Bool := match d with
  | .tup xs => decide (xs.length ≤ 6) && xs.all ruleB
  | _ => false
theorem fNe_int (i j : Int) : fNe (.int i) (.int j) = some (.fz, .bl (!decide (i = j))) := by
  have : D.eqv (.int i) (.int j) = decide (i = j) := by show (i == j) = _; rw [Bool.eq_iff_iff]; simp
  unfold fNe
  rw [if_pos (by rfl), this]; rfl
theorem fEq_int (i j : Int) : fEq (.int i) (.int j) = some (.fz, .bl (decide (i = j))) := by
  have : D.eqv (.int i) (.int j) = decide (i = j) := by show (i == j) = _; rw [Bool.eq_iff_iff]; simp
  unfold fEq
  rw [if_pos (by rfl), this]; rfl
section
end
end LW
namespace LW
open TB
section
end
end LW
namespace LW
open TB
theorem neg_1 : fNeg (.int 1) = some (.fz, .int (-1)) := rfl
theorem isF_fz : Kd.isF .fz = true := rfl
end LW
namespace LW
open TB
theorem name_good {s : List Nat} (h : nameS s = true) (n : Nat) : good 9 n (.str s) := by
  unfold nameS at h
  have h1 : s.length ≤ 8 := by simp at h; exact h.1.2
  have h2 : ∀ c ∈ s, c ∈ abc := by simp at h; exact h.2
  have h3 : ∀ c ∈ abc, c < 1114112 := by decide
  have : s.length ≤ 9 ∧ ∀ c ∈ s, c < 1114112 := ⟨by omega, fun c hc => h3 c (h2 c hc)⟩
  cases n <;> exact this
section
end
end LW
namespace LW
open TB
section
end
end LW
namespace LW
open TB
@[simp] theorem eAndV_ap (a b : E) (S : List Slot) : eAndV a b S = (eDat a S).bind fun x S1 => (match truD x with | some true => b | some false => (M.pure (.fz, x) : E) | none => eBad) S1 := rfl
@[simp] theorem truD_bl (b : Bool) : truD (.bl b) = some b := rfl
open TB
section
end
end LW
namespace LW
open TB
section
end
end LW
namespace LW
open TB
section
end
end LW
namespace LW
open TB
@[simp] theorem sSetSl_ap (i : Nat) (a b e : E) (S : List Slot) : sSetSl i a b e S = (eDat e S).bind fun y S1 => (hasL i S1).bind fun _ S2 => (eDat a S2).bind fun p S3 => (match p with
  | .int l => M.bind (eDat b) fun q => (match q with
    | .int h => (match y with
      | .lst ys => fun S => (match ownL S i with
        | some xs => if 0 ≤ l ∧ l ≤ h ∧ l ≤ xs.length ∧ xs.length + ys.length ≤ sizeMax then R.ok Fl.nx (S.set i (some (.li .fz, .lst (xs.take l.toNat ++ ys ++ xs.drop h.toNat)))) else .bad
        | none => .bad)
      | _ => fun _ => .bad)
    | _ => fun _ => .bad)
  | _ => fun _ => .bad) S3 := rfl
section
end
end LW
namespace LW
open TB
section
end
end LW
namespace TB
/-- a for by an invariant; it may end early -/
theorem loopG_wp {g : Tg} {b : St} {Q : Fl → List Slot → Prop} (I : List D → List Slot → Prop)
    (h : ∀ d ds S, I (d :: ds) S → ∃ S1, g.put d S = some S1 ∧ okP (b S1) fun f S' => match f with
      | .nx => I ds S'
      | .rt r => Q (.rt r) S'
      | _ => False) (hq : ∀ S, I [] S → Q .nx S) : ∀ (ds : List D) (S : List Slot), I ds S → okP (loop g b ds S) Q
  | [], S, i => hq S i
  | d :: ds, S, i => by
    obtain ⟨S1, p1, h1⟩ := h d ds S i
    obtain ⟨f, S2, e1, h2⟩ := h1.ex
    unfold loop
    rw [p1]
    show okP (R.bind (b S1) _) Q
    rw [e1, rbind_ok]
    cases f with
    | nx => exact loopG_wp I h hq ds S2 h2
    | rt r => exact h2
    | bk => exact h2.elim
    | ct => exact h2.elim
theorem put_nm {i : Nat} {d : D} {S : List Slot} (h : i < S.length) : Tg.put (.nm i) d S = some (S.set i (some (.fz, d))) := by unfold Tg.put; rw [if_pos h]
section
variable {κ β : Type} [DecidableEq κ]
def aget : List (κ × β) → κ → Option β
  | [], _ => none
  | p :: m, k => if p.1 = k then some p.2 else aget m k
def aset : List (κ × β) → κ → β → List (κ × β)
  | [], k, v => [(k, v)]
  | p :: m, k, v => if p.1 = k then (p.1, v) :: m else p :: aset m k v
theorem aget_cons (p : κ × β) (m : List (κ × β)) (k : κ) : aget (p :: m) k = if p.1 = k then some p.2 else aget m k := rfl
theorem aset_cons (p : κ × β) (m : List (κ × β)) (k : κ) (v : β) : aset (p :: m) k v = if p.1 = k then (p.1, v) :: m else p :: aset m k v := rfl
def aks (m : List (κ × β)) : List κ := m.map (·.1)
def encA (K : κ → D) (V : β → D) (m : List (κ × β)) : List (D × D) := m.map fun p => (K p.1, V p.2)
theorem encA_len (K : κ → D) (V : β → D) (m : List (κ × β)) : (encA K V m).length = m.length := List.length_map _
theorem aset_len (m : List (κ × β)) (k : κ) (v : β) : (aset m k v).length ≤ m.length + 1 := by
  induction m with
  | nil => simp [aset]
  | cons p m ih => unfold aset; split <;> simp <;> omega
theorem aset_keys (m : List (κ × β)) (k : κ) (v : β) : aks (aset m k v) = if k ∈ aks m then aks m else aks m ++ [k] := by
  induction m with
  | nil => simp [aset, aks]
  | cons p m ih =>
    unfold aset
    by_cases h : p.1 = k
    · rw [if_pos h]; simp [aks, h]
    · rw [if_neg h]
      have h2 : ¬ k = p.1 := fun q => h q.symm
      show p.1 :: aks (aset m k v) = if k ∈ p.1 :: aks m then p.1 :: aks m else p.1 :: aks m ++ [k]
      rw [ih]
      by_cases q : k ∈ aks m
      · rw [if_pos q, if_pos (List.mem_cons_of_mem _ q)]
      · rw [if_neg q, if_neg (by simp [h2, q])]; rfl
theorem aset_nd {m : List (κ × β)} {k : κ} {v : β} (h : (aks m).Nodup) : (aks (aset m k v)).Nodup := by
  rw [aset_keys]
  split
  · exact h
  · rename_i q
    exact List.nodup_append.mpr ⟨h, by simp, fun a ha b hb => by simp at hb; subst hb; intro e; subst e; exact q ha⟩
theorem aget_none {m : List (κ × β)} {k : κ} : aget m k = none ↔ k ∉ aks m := by
  induction m with
  | nil => simp [aget, aks]
  | cons p m ih =>
    unfold aget
    simp only [aks, List.map_cons, List.mem_cons, not_or] at *
    by_cases h : p.1 = k
    · rw [if_pos h]; simp; intro q; exact absurd h.symm q
    · rw [if_neg h, ih]; simp; intro _ q; exact h q.symm
theorem aget_mem {m : List (κ × β)} {k : κ} {v : β} (h : aget m k = some v) : (k, v) ∈ m := by
  induction m with
  | nil => simp [aget] at h
  | cons p m ih =>
    unfold aget at h
    by_cases q : p.1 = k
    · rw [if_pos q] at h; cases h; subst q; exact List.mem_cons_self
    · rw [if_neg q] at h; exact List.mem_cons_of_mem _ (ih h)
theorem aget_set (m : List (κ × β)) (k : κ) (v : β) (k' : κ) : aget (aset m k v) k' = if k = k' then some v else aget m k' := by
  induction m with
  | nil => simp [aset, aget]
  | cons p m ih =>
    unfold aset
    by_cases h : p.1 = k
    · rw [if_pos h]; unfold aget
      by_cases h2 : k = k'
      · simp [h, h2]
      · simp [h, h2]
    · rw [if_neg h]; unfold aget; rw [ih]
      by_cases h2 : k = k'
      · subst h2; simp [h]
      · simp [h2]
theorem aset_mem {m : List (κ × β)} {k : κ} {v : β} {p : κ × β} (h : p ∈ aset m k v) : p = (k, v) ∨ p ∈ m := by
  induction m with
  | nil => simp [aset] at h; exact .inl h
  | cons q m ih =>
    unfold aset at h
    by_cases e : q.1 = k
    · rw [if_pos e] at h
      rcases List.mem_cons.mp h with h | h
      · subst e; exact .inl h
      · exact .inr (List.mem_cons_of_mem _ h)
    · rw [if_neg e] at h
      rcases List.mem_cons.mp h with h | h
      · exact .inr (h ▸ List.mem_cons_self)
      · rcases ih h with h | h
        · exact .inl h
        · exact .inr (List.mem_cons_of_mem _ h)
variable {K : κ → D} {V : β → D} (he : ∀ a b, D.eqv (K a) (K b) = decide (a = b))
include he
theorem val_enc (m : List (κ × β)) (k : κ) : valD (encA K V m) (K k) = (aget m k).map V := by
  induction m with
  | nil => rfl
  | cons p m ih =>
    unfold valD encA at *
    rw [aget_cons, List.map_cons, List.find?_cons, he]
    by_cases h : p.1 = k
    · simp [h]
    · simp only [h, decide_false, if_false]; exact ih
theorem any_enc (m : List (κ × β)) (k : κ) : ((encA K V m).any fun p => D.eqv p.1 (K k)) = decide (k ∈ aks m) := by
  unfold encA aks
  rw [List.any_map]
  induction m with
  | nil => simp
  | cons p m ih =>
    rw [List.any_cons, ih]
    show (D.eqv (K p.1) (K k) || _) = _
    rw [he]
    by_cases h : p.1 = k <;> simp [h, eq_comm]
    · intro q; exact absurd q.symm h
theorem put_enc {m : List (κ × β)} (nd : (aks m).Nodup) (k : κ) (v : β) : putD (encA K V m) (K k) (V v) = encA K V (aset m k v) := by
  unfold putD
  rw [any_enc he]
  by_cases h : k ∈ aks m
  · rw [if_pos (decide_eq_true h)]
    induction m with
    | nil => simp [aks] at h
    | cons p m ih =>
      unfold encA at *
      rw [aset_cons, List.map_cons, List.map_cons]
      have nd' : (p.1 :: aks m).Nodup := nd
      show (if D.eqv (K p.1) (K k) = true then (K p.1, V v) else (K p.1, V p.2)) :: _ = _
      rw [he]
      by_cases q : p.1 = k
      · subst q
        simp only [decide_true, if_true, List.map_cons]
        congr 1
        rw [List.map_map]
        refine List.map_congr_left fun s hs => ?_
        show (if D.eqv (K s.1) (K p.1) = true then (K s.1, V v) else (K s.1, V s.2)) = _
        rw [he]
        have : ¬ s.1 = p.1 := fun e => (List.nodup_cons.mp nd').1 (List.mem_map.mpr ⟨s, hs, e⟩)
        simp [this]
      · simp only [q, decide_false, Bool.false_eq_true, if_false, List.map_cons]
        congr 1
        refine ih (List.nodup_cons.mp nd').2 ?_
        rcases List.mem_cons.mp (show k ∈ p.1 :: aks m from h) with e | e
        · exact absurd e.symm q
        · exact e
  · rw [if_neg (by simp [h])]
    induction m with
    | nil => rfl
    | cons p m ih =>
      have h' : k ∉ p.1 :: aks m := h
      unfold encA at *
      rw [aset_cons, if_neg (fun e : p.1 = k => h' (e ▸ List.mem_cons_self)), List.map_cons, List.cons_append, List.map_cons]
      congr 1
      exact ih (List.nodup_cons.mp (show (p.1 :: aks m).Nodup from nd)).2 (fun q => h' (List.mem_cons_of_mem _ q))
/-- dict(pairs) -/
theorem merge_enc (hk : ∀ a, isKey (K a) = true) (ps : List (κ × β)) : ∀ m : List (κ × β), (aks m).Nodup → mergeD (encA K V m) (ps.map fun p => (K p.1, V p.2)) = encA K V (ps.foldl (fun m p => aset m p.1 p.2) m) := by
  induction ps with
  | nil => intro m _; rfl
  | cons p ps ih =>
    intro m nd
    rw [List.map_cons, List.foldl_cons]
    show mergeD (putD (encA K V m) (K p.1) (V p.2)) _ = _
    rw [put_enc he nd]
    exact ih _ (aset_nd nd)
end
end TB
namespace LW
open TB
abbrev tWrong : List Nat := [119, 114, 111, 110, 103]
abbrev tPaid : List Nat := [112, 97, 105, 100]
abbrev tBack : List Nat := [98, 97, 99, 107]
abbrev tLent : List Nat := [108, 101, 110, 116]
abbrev tBought : List Nat := [98, 111, 117, 103, 104, 116]
inductive Row where
  | wrong (day no : Int) (p q : List Nat)
  | paid (day : Int) (p : List Nat) (pence : Int)
  | back (day : Int) (p q : List Nat) (pence : Int)
  | lent (day : Int) (p q : List Nat) (pence : Int)
  | bought (day no : Int) (ps : List (List Nat)) (kind : List Nat) (pence : Int)
  deriving DecidableEq
def Row.enc : Row → D
  | .wrong d n p q => .tup [.str tWrong, .int d, .int n, .str p, .str q]
  | .paid d p c => .tup [.str tPaid, .int d, .str p, .int c]
  | .back d p q c => .tup [.str tBack, .int d, .str p, .str q, .int c]
  | .lent d p q c => .tup [.str tLent, .int d, .str p, .str q, .int c]
  | .bought d n ps k c => .tup [.str tBought, .int d, .int n, .tup (ps.map D.str), .str k, .int c]
def inB (i lo hi : Int) : Prop := lo ≤ i ∧ i ≤ hi
def Row.ok : Row → Prop
  | .wrong d n p q => inB d 0 1000000 ∧ inB n 0 1000000 ∧ nameS p = true ∧ nameS q = true ∧ p ≠ q
  | .paid d p c => inB d 0 1000000 ∧ nameS p = true ∧ inB c 1 1000000
  | .back d p q c => inB d 0 1000000 ∧ nameS p = true ∧ nameS q = true ∧ p ≠ q ∧ inB c 1 1000000
  | .lent d p q c => inB d 0 1000000 ∧ nameS p = true ∧ nameS q = true ∧ p ≠ q ∧ inB c 1 1000000
  | .bought d n ps k c => inB d 0 1000000 ∧ inB n 0 1000000 ∧ (∀ p ∈ ps, nameS p = true) ∧ namesB (.tup (ps.map D.str)) 1 4 = true ∧ nameS k = true ∧ inB c ps.length 1000000
section
variable {Γ : Nat → Fn}
def W0 (F : Fn) : Prop := ∀ i lo hi : Int, F [(.fz, .int i), (.fz, .int lo), (.fz, .int hi)] = .ret (.fz, .bl (withinB (.int i) lo hi)) []
def N1 (F : Fn) : Prop := ∀ s : List Nat, nameS s = true → F [(.fz, .str s)] = .ret (.fz, .bl true) []
def T54 (F : Fn) : Prop := ∀ p q : List Nat, nameS p = true → nameS q = true → p ≠ q → F [(.fz, .str p), (.fz, .str q)] = .ret (.fz, .bl true) []
theorem fNe_str {p q : List Nat} (h : p ≠ q) : fNe (.str p) (.str q) = some (.fz, .bl true) := by
  have : D.eqv (.str p) (.str q) = false := by show (p == q) = false; simp [h]
  unfold fNe
  rw [if_pos (by rfl), this]; rfl
theorem two_54 (h1 : N1 (Γ 1)) : T54 (runF 2 [] (mb_54 Γ)) := fun p q hp hq hn => by
  refine FnP.eq (runF_wp (by rfl) ?_)
  simp [mb_54, eCall_ap, arEv_v, arEv_nil, arIn, arOut, h1 p hp, h1 q hq, fNe_str hn, outsOf, Kd.isF]
/-- x[i] of a tuple, a number -/
theorem ix0 {a : D} {xs : List D} : fIx (.tup (a :: xs)) (.int 0) = some (.fz, a) := by rw [fIx_tup (by omega) (by simp)]; rfl
theorem ix1 {a b : D} {xs : List D} : fIx (.tup (a :: b :: xs)) (.int 1) = some (.fz, b) := by rw [fIx_tup (by omega) (by simp; omega)]; rfl
theorem fEq_str (p q : List Nat) : fEq (.str p) (.str q) = some (.fz, .bl (decide (p = q))) := by
  have : D.eqv (.str p) (.str q) = decide (p = q) := by show (p == q) = _; rw [Bool.eq_iff_iff]; simp
  unfold fEq
  rw [if_pos (by rfl), this]; rfl
end
end LW
namespace LW
open TB
def Row.no? : Row → Option Int
  | .bought _ n _ _ _ => some n
  | _ => none
def nums (rows : List Row) : List Int := rows.filterMap Row.no?
section
end
end LW
namespace LW
open TB
def Row.w : Row → List Nat
  | .wrong .. => tWrong
  | .paid .. => tPaid
  | .back .. => tBack
  | .lent .. => tLent
  | .bought .. => tBought
def Row.ix : Row → Int
  | .wrong .. => 0
  | .paid .. => 1
  | .back .. => 2
  | .lent .. => 3
  | .bought .. => 4
def Row.flag : Row → Int
  | .wrong .. => 0
  | _ => 1
def Row.day : Row → Int
  | .wrong d .. => d
  | .paid d .. => d
  | .back d .. => d
  | .lent d .. => d
  | .bought d .. => d
def Row.key (r : Row) : D := .tup [.int r.flag, .int r.day, .int r.ix, r.enc]
theorem eqv_int (i j : Int) : D.eqv (.int i) (.int j) = decide (i = j) := by show (i == j) = _; rw [Bool.eq_iff_iff]; simp
theorem abc_small : ∀ c ∈ abc, c < 1114112 := by decide
theorem name_lay {s : List Nat} (h : nameS s = true) (n : Nat) : (D.str s).lay n = true := by
  unfold nameS at h
  simp only [Bool.and_eq_true] at h
  have : s.all (fun c => decide (c < 1114112)) = true := List.all_eq_true.mpr fun c hc => by
    have := List.all_eq_true.mp h.2 c hc
    exact decide_eq_true (abc_small c (by simpa using this))
  unfold D.lay
  exact this
theorem lays_all {n : Nat} {ds : List D} (h : ∀ d ∈ ds, d.lay n = true) : D.lays n ds = true := by
  induction ds with
  | nil => simp [D.lays]
  | cons d ds ih => simp only [D.lays, Bool.and_eq_true]; exact ⟨h d List.mem_cons_self, ih fun e he => h e (List.mem_cons_of_mem _ he)⟩
section
variable {Γ : Nat → Fn}
theorem fTup_ok (ds : List D) (h : ds.length ≤ sizeMax) : fTup ds = some (.fz, .tup ds) := by unfold fTup; rw [if_pos h]
end
end LW
namespace LW
open TB
section
end
end LW
namespace LW
open TB
@[simp] theorem hasN_ap (i : Nat) (S : List Slot) : hasN i S = match ownN S i with | some _ => .ok () S | none => .bad := rfl
@[simp] theorem sNput_ap (i : Nat) (k e : E) (S : List Slot) : sNput i k e S = (eDat e S).bind fun y S1 => (hasN i S1).bind fun _ S2 => (eDat k S2).bind fun x S3 => match ownN S3 i with
  | some kvs => if isNK x = true ∧ kvs.length < sizeMax then .ok .nx (S3.set i (some (.dN, .dit (putD kvs x y)))) else .bad
  | none => .bad := rfl
@[simp] theorem eNnew_ap (S : List Slot) : eNnew S = .ok (.dN, .dit []) S := rfl
@[simp] theorem ePeekLI_ap (e : E) (S : List Slot) : ePeekLI e S = match e (S.map frz) with | .ok (.li .fz, .lst ds) _ => (if D.imms ds = true then .ok (.li .fz, .lst ds) S else .bad) | _ => .bad := rfl
@[simp] theorem eOrV_ap (a b : E) (S : List Slot) : eOrV a b S = (eDat a S).bind fun x S1 => (match truD x with | some true => (M.pure (.fz, x) : E) | some false => b | none => eBad) S1 := rfl
/-- what is kept while rows are drawn -/
structure Good (j : Nat) (rows : List Row) : Prop where
  ok : ∀ r ∈ rows, r.ok
  nd : rows.Nodup
  nn : (nums rows).Nodup
  lt : ∀ n ∈ nums rows, n < j
  le : rows.length ≤ j
theorem nums_app (rows : List Row) (r : Row) : nums (rows ++ [r]) = nums rows ++ (match r.no? with | some n => [n] | none => []) := by
  unfold nums
  rw [List.filterMap_append]
  cases h : r.no? <;> simp [h]
theorem Good.put {j : Nat} {rows : List Row} (g : Good j rows) {r : Row} (h : r.ok) (hn : ∀ n, r.no? = some n → n = j) : Good (j + 1) (if r ∈ rows then rows else rows ++ [r]) := by
  split
  · exact ⟨g.ok, g.nd, g.nn, fun n m => by have := g.lt n m; omega, by have := g.le; omega⟩
  · rename_i m
    refine ⟨fun s hs => ?_, ?_, ?_, fun n hm => ?_, by have := g.le; simp; omega⟩
    · rcases List.mem_append.mp hs with hs | hs
      · exact g.ok s hs
      · simp at hs; rw [hs]; exact h
    · exact List.nodup_append.mpr ⟨g.nd, by simp, fun a ha b hb => by simp at hb; rw [hb]; rintro rfl; exact m ha⟩
    · rw [nums_app]
      cases e : r.no? with
      | none => simpa using g.nn
      | some n =>
        refine List.nodup_append.mpr ⟨g.nn, by simp, fun a ha b hb => ?_⟩
        simp at hb
        have := g.lt a ha
        rw [hb, hn n e]; omega
    · rw [nums_app] at hm
      rcases List.mem_append.mp hm with hm | hm
      · have := g.lt n hm; omega
      · cases e : r.no? with
        | none => rw [e] at hm; cases hm
        | some n' =>
          rw [e] at hm
          simp at hm
          rw [hm, hn n' e]; omega
end LW
namespace LW
open TB
abbrev Nm := List Nat
structure Rule where
  lt : Bool
  ks : List Nm
  ps : List Nm
  ds : List Int
  lo : Int
  hi : Int
def Rule.enc (r : Rule) : D := .tup [.str (if r.lt then tLet else tBar), .tup (r.ks.map D.str), .tup (r.ps.map D.str), .tup (r.ds.map D.int), .int r.lo, .int r.hi]
structure Shop where
  book : List Rule
  lims : List (Nm × Int)
  terms : List (Int × Nm)
def bookE (b : List Rule) : D := .tup (b.map Rule.enc)
def limE (p : Nm × Int) : D := .tup [.str p.1, .int p.2]
def trmE (p : Int × Nm) : D := .tup [.int p.1, .str p.2]
def Shop.enc (sh : Shop) : D := .tup [bookE sh.book, .tup (sh.lims.map limE), .tup (sh.terms.map trmE)]
def Rule.meets (day : Int) (p k : Nm) (c : Int) (r : Rule) : Bool := decide (r.ks = [] ∨ k ∈ r.ks) && (decide (r.ps = [] ∨ p ∈ r.ps) && (decide (r.ds = [] ∨ day % 7 ∈ r.ds) && (decide (r.lo ≤ c) && decide (c ≤ r.hi))))
def letsB (b : List Rule) (day : Int) (p k : Nm) (c : Int) : Bool := match b.find? (Rule.meets day p k c) with
  | none => true
  | some r => r.lt
structure M where
  cnt : List (Nm × List Int)
  deb : List ((Nm × Nm) × Int)
  buy : List (Int × List Nm)
  sp : List ((Int × Nm × Nm) × Int)
  spl : List ((Int × Nm) × List (Int × Nm × Nm × Int))
  sold : List (Int × Int × Int)
  ended : Nat
  day : Int
def z7 : List Int := [0, 0, 0, 0, 0, 0, 0]
def M.acc (m : M) (p : Nm) : List Int := (aget m.cnt p).getD z7
def hasL (g : List Int) : Int := (g.take 3).sum - (g.drop 3).sum
def M.has (m : M) (p : Nm) : Int := hasL (m.acc p)
def addAt (g : List Int) (w : Nat) (x : Int) : List Int := g.set w (g.getD w 0 + x)
def M.bump (m : M) (p : Nm) (w : Nat) (x : Int) : M := { m with cnt := aset m.cnt p (addAt (m.acc p) w x) }
def M.give (m : M) : M := (aks m.cnt).foldl (fun m p => m.bump p 6 (m.has p)) m
abbrev tGiven : List Nat := [103, 105, 118, 101, 110]
abbrev tCarried : List Nat := [99, 97, 114, 114, 105, 101, 100]
abbrev tDone : List Nat := [100, 111, 110, 101]
abbrev tNone : List Nat := [110, 111, 110, 101]
abbrev tLacks : List Nat := [108, 97, 99, 107, 115]
abbrev tBarred : List Nat := [98, 97, 114, 114, 101, 100]
abbrev tLimit : List Nat := [108, 105, 109, 105, 116]
def comeT (day : Int) : List (Int × Nm) → M → M
  | [], m => m
  | t :: ts, m => if t.1 ≤ day then comeT day ts { (if t.2 = tGiven then m.give else m) with ended := m.ended + 1 } else m
def M.come (m : M) (sh : Shop) (day : Int) : M := { comeT day (sh.terms.drop m.ended) m with day := if day > m.day then day else m.day }
def M.owes (m : M) (p q : Nm) : Int := (aget m.deb (p, q)).getD 0
def partsF (wh rest : Int) : Nat → List Nm → List (Nm × Int)
  | _, [] => []
  | k, p :: ps => (p, wh + (if (k : Int) < rest then 1 else 0)) :: partsF wh rest (k + 1) ps
def parts (c : Int) (ps : List Nm) : List (Nm × Int) := partsF (c / ps.length) (c % ps.length) 0 ps
def M.spent (m : M) (day : Int) (p k : Nm) : Int := (aget m.sp (day, p, k)).getD 0
def M.over (m : M) (sh : Shop) (day : Int) (kind : Nm) (pp : Nm × Int) : Bool := sh.lims.any fun l => decide (l.1 = [] ∨ l.1 = kind) && decide (l.2 - m.spent day pp.1 l.1 < pp.2)
def M.bar (m : M) (sh : Shop) (day : Int) (kind : Nm) (pt : List (Nm × Int)) : Nm :=
  if (pt.all fun pp => letsB sh.book day pp.1 kind pp.2) = false then tBarred else if (pt.any fun pp => m.over sh day kind pp) = true then tLimit else if (pt.all fun pp => decide (pp.2 ≤ m.has pp.1)) = false then tLacks else []
def addS (s : List ((Int × Nm × Nm) × Int)) (k : Int × Nm × Nm) (x : Int) : List ((Int × Nm × Nm) × Int) := aset s k ((aget s k).getD 0 + x)
def M.buy1 (day : Int) (kind : Nm) (m : M) (pp : Nm × Int) : M := { m.bump pp.1 5 pp.2 with
  sp := addS (addS m.sp (day, pp.1, []) pp.2) (day, pp.1, kind) pp.2
  spl := aset m.spl (day, pp.1) ((aget m.spl (day, pp.1)).getD [] ++ [(day, pp.1, kind, pp.2)]) }
def M.who (m : M) (no : Int) : List Nm := (aget m.buy no).getD []
def M.buys (m : M) (sh : Shop) (day no : Int) (kind : Nm) (c : Int) : M × Nm :=
  if m.bar sh day kind (parts c (m.who no)) = [] then ({ (parts c (m.who no)).foldl (M.buy1 day kind) m with sold := m.sold ++ [(day, no, c)] }, tDone) else (m, m.bar sh day kind (parts c (m.who no)))
def M.wrong (m : M) (no : Int) (p q : Nm) : M × Nm := if p ∉ m.who no ∨ q ∈ m.who no then (m, tNone) else ({ m with buy := aset m.buy no (sortT ((m.who no).filter (fun x => decide (x ≠ p)) ++ [q])) }, tDone)
def M.paid (m : M) (p : Nm) (c : Int) : M × Nm := (m.bump p 0 c, tDone)
def M.back (m : M) (p q : Nm) (c : Int) : M × Nm := if m.owes p q < c then (m, tNone) else if m.has p < c then (m, tLacks) else
  ((({ m with deb := aset m.deb (p, q) (m.owes p q - c) } : M).bump p 4 c).bump q 2 c, tDone)
def M.lends (m : M) (p q : Nm) (c : Int) : M × Nm := if m.has p < c then (m, tLacks) else
  ((({ m with deb := aset m.deb (q, p) (m.owes q p + c) } : M).bump p 3 c).bump q 1 c, tDone)
def M.go (m : M) (sh : Shop) : Row → M × Nm
  | .wrong _ n p q => m.wrong n p q
  | .paid d p c => (m.come sh d).paid p c
  | .back d p q c => (m.come sh d).back p q c
  | .lent d p q c => (m.come sh d).lends p q c
  | .bought d n _ k c => (m.come sh d).buys sh d n k c
def k2 (p : Nm × Nm) : D := .tup [.str p.1, .str p.2]
def k3 (p : Int × Nm × Nm) : D := .tup [.int p.1, .str p.2.1, .str p.2.2]
def kd2 (p : Int × Nm) : D := .tup [.int p.1, .str p.2]
def accV (g : List Int) : D := .lst (g.map D.int)
def psV (ps : List Nm) : D := .tup (ps.map D.str)
def soldE (p : Int × Int × Int) : D := .tup [.int p.1, .int p.2.1, .int p.2.2]
def splE (p : Int × Nm × Nm × Int) : D := .tup [.int p.1, .str p.2.1, .str p.2.2.1, .int p.2.2.2]
def splV (l : List (Int × Nm × Nm × Int)) : D := .lst (l.map splE)
def cK : Kd := .ob [.fz, .fz, .fz, .dK (.li .fz), .dN, .dN, .li .fz, .fz, .dK .fz]
def cD (sh : Shop) (m : M) : D := .ob 0 [bookE sh.book, .tup (sh.lims.map limE), .tup (sh.terms.map trmE), .dic (encA D.str accV m.cnt), .dit (encA k2 D.int m.deb), .dit (encA k3 D.int m.sp), .lst (m.sold.map soldE), .int m.ended, .dic (encA D.int psV m.buy)]
abbrev tSums : List Nat := [115, 117, 109, 115]
abbrev tDebts : List Nat := [100, 101, 98, 116, 115]
abbrev tSpent : List Nat := [115, 112, 101, 110, 116]
abbrev tSold : List Nat := [115, 111, 108, 100]
abbrev tBuyers : List Nat := [98, 117, 121, 101, 114, 115]
abbrev tDay : List Nat := [100, 97, 121]
def lK : Kd := .dR [.dK (.li .fz), .dN, .dN, .li .fz, .dK .fz, .fz]
def lD (m : M) : D := .dic [(.str tSums, .dic (encA D.str accV m.cnt)), (.str tDebts, .dit (encA k2 D.int m.deb)), (.str tSpent, .dit (encA kd2 splV m.spl)), (.str tSold, .lst (m.sold.map soldE)), (.str tBuyers, .dic (encA D.int psV m.buy)), (.str tDay, .int m.day)]
theorem eqv_str (a b : Nm) : D.eqv (.str a) (.str b) = decide (a = b) := by show (a == b) = _; rw [Bool.eq_iff_iff]; simp
theorem eqv_k2 (a b : Nm × Nm) : D.eqv (k2 a) (k2 b) = decide (a = b) := by
  obtain ⟨a, a'⟩ := a; obtain ⟨b, b'⟩ := b
  show (D.eqv (.str a) (.str b) && (D.eqv (.str a') (.str b') && true)) = _
  rw [eqv_str, eqv_str, Bool.eq_iff_iff]; simp
theorem eqv_k3 (a b : Int × Nm × Nm) : D.eqv (k3 a) (k3 b) = decide (a = b) := by
  obtain ⟨a, a', a''⟩ := a; obtain ⟨b, b', b''⟩ := b
  show (D.eqv (.int a) (.int b) && (D.eqv (.str a') (.str b') && (D.eqv (.str a'') (.str b'') && true))) = _
  rw [eqv_int, eqv_str, eqv_str, Bool.eq_iff_iff]; simp
theorem eqv_kd2 (a b : Int × Nm) : D.eqv (kd2 a) (kd2 b) = decide (a = b) := by
  obtain ⟨a, a'⟩ := a; obtain ⟨b, b'⟩ := b
  show (D.eqv (.int a) (.int b) && (D.eqv (.str a') (.str b') && true)) = _
  rw [eqv_int, eqv_str, Bool.eq_iff_iff]; simp
theorem nk_k2 (a : Nm × Nm) : isNK (k2 a) = true := by simp [isNK, k2, D.isTup, D.nk, D.nks]
theorem nk_k3 (a : Int × Nm × Nm) : isNK (k3 a) = true := by simp [isNK, k3, D.isTup, D.nk, D.nks]
theorem nk_kd2 (a : Int × Nm) : isNK (kd2 a) = true := by simp [isNK, kd2, D.isTup, D.nk, D.nks]
structure Iv (B : Nat) (m : M) : Prop where
  n1 : (aks m.cnt).Nodup
  n2 : (aks m.deb).Nodup
  n3 : (aks m.buy).Nodup
  n4 : (aks m.sp).Nodup
  n5 : (aks m.spl).Nodup
  sv : ∀ p ∈ m.cnt, p.2.length = 7
  l1 : m.cnt.length ≤ B
  l2 : m.deb.length ≤ B
  l3 : m.buy.length ≤ B
  l4 : m.sp.length ≤ 2 * B
  l5 : m.spl.length ≤ B
  l6 : m.sold.length ≤ B
  l7 : ∀ p ∈ m.spl, p.2.length ≤ B
  bs : ∀ p ∈ m.buy, p.2.Nodup ∧ 1 ≤ p.2.length ∧ p.2.length ≤ 4 ∧ ∀ x ∈ p.2, nameS x = true
theorem Iv.mono {B C : Nat} {m : M} (h : Iv B m) (l : B ≤ C) : Iv C m := ⟨h.n1, h.n2, h.n3, h.n4, h.n5, h.sv, by have := h.l1; omega, by have := h.l2; omega, by have := h.l3; omega, by have := h.l4; omega, by have := h.l5; omega, by have := h.l6; omega, fun p hp => by have := h.l7 p hp; omega, h.bs⟩
theorem Iv.acc7 {B : Nat} {m : M} (h : Iv B m) (p : Nm) : (m.acc p).length = 7 := by
  unfold M.acc
  cases e : aget m.cnt p with
  | none => rfl
  | some g => exact h.sv _ (aget_mem e)
theorem addAt_len (g : List Int) (w : Nat) (x : Int) : (addAt g w x).length = g.length := by unfold addAt; simp
theorem Iv.bump {B : Nat} {m : M} (h : Iv B m) (p : Nm) (w : Nat) (x : Int) : Iv (B + 1) (m.bump p w x) := by
  have h1 := h.mono (Nat.le_succ B)
  refine { h1 with n1 := aset_nd h.n1, sv := fun q hq => ?_, l1 := ?_ }
  · rcases aset_mem hq with rfl | hq
    · show (addAt _ _ _).length = 7
      rw [addAt_len]; exact h.acc7 p
    · exact h.sv q hq
  · have := aset_len m.cnt p (addAt (m.acc p) w x)
    have := h.l1
    show (aset _ _ _).length ≤ _
    omega
theorem Iv.bumpK {B : Nat} {m : M} (h : Iv B m) {p : Nm} (hp : p ∈ aks m.cnt) (w : Nat) (x : Int) : Iv B (m.bump p w x) ∧ aks (m.bump p w x).cnt = aks m.cnt := by
  have e : aks (m.bump p w x).cnt = aks m.cnt := by
    show aks (aset _ _ _) = _
    rw [aset_keys, if_pos hp]
  refine ⟨{ h with n1 := aset_nd h.n1, sv := fun q hq => ?_, l1 := ?_ }, e⟩
  · rcases aset_mem hq with rfl | hq
    · show (addAt _ _ _).length = 7
      rw [addAt_len]; exact h.acc7 p
    · exact h.sv q hq
  · have e2 := congrArg List.length e
    simp only [aks, List.length_map] at e2
    have := h.l1
    omega
theorem Iv.giveL {B : Nat} : ∀ (ks : List Nm) {m : M}, Iv B m → (∀ k ∈ ks, k ∈ aks m.cnt) → Iv B (ks.foldl (fun m p => m.bump p 6 (m.has p)) m) ∧ aks (ks.foldl (fun m p => m.bump p 6 (m.has p)) m).cnt = aks m.cnt
  | [], m, h, _ => ⟨h, rfl⟩
  | k :: ks, m, h, hk => by
    obtain ⟨h1, e1⟩ := h.bumpK (hk k List.mem_cons_self) 6 (m.has k)
    obtain ⟨h2, e2⟩ := Iv.giveL ks h1 (fun q hq => by rw [e1]; exact hk q (List.mem_cons_of_mem _ hq))
    exact ⟨h2, e2.trans e1⟩
theorem Iv.give {B : Nat} {m : M} (h : Iv B m) : Iv B m.give := (h.giveL _ (fun _ h => h)).1
theorem Iv.of {B : Nat} {m m' : M} (h : Iv B m) (e1 : m'.cnt = m.cnt) (e2 : m'.deb = m.deb) (e3 : m'.buy = m.buy) (e4 : m'.sp = m.sp) (e5 : m'.spl = m.spl) (e6 : m'.sold = m.sold) : Iv B m' := by
  obtain ⟨a, b, c, d, e, f, g, i⟩ := m'
  subst e1; subst e2; subst e3; subst e4; subst e5; subst e6
  exact ⟨h.n1, h.n2, h.n3, h.n4, h.n5, h.sv, h.l1, h.l2, h.l3, h.l4, h.l5, h.l6, h.l7, h.bs⟩
theorem Iv.comeT {B : Nat} (day : Int) : ∀ (ts : List (Int × Nm)) {m : M}, Iv B m → Iv B (comeT day ts m)
  | [], m, h => h
  | t :: ts, m, h => by
    unfold LW.comeT
    split
    · refine Iv.comeT day ts ?_
      by_cases q : t.2 = tGiven
      · simp only [q, if_true]; exact h.give.of rfl rfl rfl rfl rfl rfl
      · simp only [q, if_false]; exact h.of rfl rfl rfl rfl rfl rfl
    · exact h
theorem Iv.come {B : Nat} {m : M} (h : Iv B m) (sh : Shop) (day : Int) : Iv B (m.come sh day) := (h.comeT day (sh.terms.drop m.ended)).of rfl rfl rfl rfl rfl rfl
theorem Iv.deb {B : Nat} {m : M} (h : Iv B m) (k : Nm × Nm) (x : Int) : Iv (B + 1) { m with deb := aset m.deb k x } := by
  have h1 := h.mono (Nat.le_succ B)
  refine { h1 with n2 := aset_nd h.n2, l2 := ?_ }
  have := aset_len m.deb k x
  have := h.l2
  show (aset _ _ _).length ≤ _
  omega
theorem Iv.back {B : Nat} {m : M} (h : Iv B m) (p q : Nm) (c : Int) : Iv (B + 3) (m.back p q c).1 := by
  unfold M.back
  split
  · exact h.mono (by omega)
  · split
    · exact h.mono (by omega)
    · exact ((h.deb _ _).bump p 4 c).bump q 2 c
theorem Iv.lends {B : Nat} {m : M} (h : Iv B m) (p q : Nm) (c : Int) : Iv (B + 3) (m.lends p q c).1 := by
  unfold M.lends
  split
  · exact h.mono (by omega)
  · exact ((h.deb _ _).bump p 3 c).bump q 1 c
theorem Iv.buy1 {B : Nat} {m : M} (h : Iv B m) (day : Int) (kind : Nm) (pp : Nm × Int) : Iv (B + 1) (M.buy1 day kind m pp) := by
  have h1 := h.bump pp.1 5 pp.2
  refine { h1 with n4 := aset_nd (aset_nd h.n4), n5 := aset_nd h.n5, l4 := ?_, l5 := ?_, l7 := fun q hq => ?_ }
  · have a := aset_len (addS m.sp (day, pp.1, []) pp.2) (day, pp.1, kind) ((aget (addS m.sp (day, pp.1, []) pp.2) (day, pp.1, kind)).getD 0 + pp.2)
    have b := aset_len m.sp (day, pp.1, []) ((aget m.sp (day, pp.1, [])).getD 0 + pp.2)
    have := h.l4
    show (aset _ _ _).length ≤ _
    unfold addS at *
    omega
  · have := aset_len m.spl (day, pp.1) ((aget m.spl (day, pp.1)).getD [] ++ [(day, pp.1, kind, pp.2)])
    have := h.l5
    show (aset _ _ _).length ≤ _
    omega
  · rcases aset_mem hq with rfl | hq
    · show (_ ++ [_]).length ≤ _
      rw [List.length_append, List.length_singleton]
      cases e : aget m.spl (day, pp.1) with
      | none => simp
      | some g => have := h.l7 _ (aget_mem e); simp at this ⊢; omega
    · have := h.l7 q hq; omega
theorem Iv.buyL {day : Int} {kind : Nm} : ∀ (pt : List (Nm × Int)) {B : Nat} {m : M}, Iv B m → Iv (B + pt.length) (pt.foldl (M.buy1 day kind) m)
  | [], B, m, h => h
  | p :: pt, B, m, h => by
    have := Iv.buyL (day := day) (kind := kind) pt (h.buy1 day kind p)
    rw [List.length_cons, show B + (pt.length + 1) = B + 1 + pt.length by omega]
    exact this
theorem partsF_len (wh rest : Int) : ∀ (k : Nat) (ps : List Nm), (partsF wh rest k ps).length = ps.length
  | _, [] => rfl
  | k, p :: ps => by unfold partsF; rw [List.length_cons, partsF_len wh rest (k + 1) ps]; rfl
theorem parts_len (c : Int) (ps : List Nm) : (parts c ps).length = ps.length := partsF_len _ _ _ _
theorem Iv.who4 {B : Nat} {m : M} (h : Iv B m) (no : Int) : (m.who no).length ≤ 4 ∧ (m.who no).Nodup ∧ ∀ x ∈ m.who no, nameS x = true := by
  unfold M.who
  cases e : aget m.buy no with
  | none => simp
  | some g => have := h.bs _ (aget_mem e); exact ⟨this.2.2.1, this.1, this.2.2.2⟩
theorem Iv.buys {B : Nat} {m : M} (h : Iv B m) (sh : Shop) (day no : Int) (kind : Nm) (c : Int) : Iv (B + 5) (m.buys sh day no kind c).1 := by
  unfold M.buys
  split
  · have h1 := (Iv.buyL (day := day) (kind := kind) (parts c (m.who no)) h)
    have hl := (h.who4 no).1
    rw [parts_len] at h1
    have h2 := h1.mono (C := B + 5) (by omega)
    refine { h2 with l6 := ?_ }
    show (m.sold ++ [_]).length ≤ _
    rw [List.length_append, List.length_singleton]
    have := h.l6
    omega
  · exact h.mono (by omega)
theorem Iv.wrong {B : Nat} {m : M} (h : Iv B m) (no : Int) (p q : Nm) (hq : nameS q = true) : Iv (B + 1) (m.wrong no p q).1 := by
  unfold M.wrong
  split
  · exact h.mono (by omega)
  · rename_i c
    simp only [not_or, Decidable.not_not] at c
    obtain ⟨c1, c2⟩ := c
    obtain ⟨w1, w2, w3⟩ := h.who4 no
    have h1 := h.mono (Nat.le_succ B)
    refine { h1 with n3 := aset_nd h.n3, l3 := ?_, bs := fun s hs => ?_ }
    · have := aset_len m.buy no (sortT ((m.who no).filter (fun x => decide (x ≠ p)) ++ [q]))
      have := h.l3
      show (aset _ _ _).length ≤ _
      omega
    · rcases aset_mem hs with rfl | hs
      · have pm := sortT_perm ((m.who no).filter (fun x => decide (x ≠ p)) ++ [q])
        have nd : ((m.who no).filter (fun x => decide (x ≠ p)) ++ [q]).Nodup := List.nodup_append.mpr ⟨w2.filter _, by simp, fun a ha b hb => by
          simp at hb; subst hb; intro e; subst e; exact c2 (List.mem_filter.mp ha).1⟩
        have lf : ((m.who no).filter (fun x => decide (x ≠ p))).length < (m.who no).length := by
          have : ((m.who no).filter (fun x => decide (x ≠ p))).length ≤ (m.who no).length := List.length_filter_le _ _
          rcases Nat.lt_or_ge ((m.who no).filter (fun x => decide (x ≠ p))).length (m.who no).length with q | q
          · exact q
          · have e := (List.length_filter_eq_length_iff).mp (Nat.le_antisymm this q)
            have := e p c1
            simp at this
        refine ⟨pm.nodup_iff.mpr nd, ?_, ?_, fun x hx => ?_⟩
        · show 1 ≤ (sortT _).length
          rw [pm.length_eq]; simp
        · show (sortT _).length ≤ 4
          rw [pm.length_eq, List.length_append, List.length_singleton]; omega
        · rcases List.mem_append.mp (pm.mem_iff.mp hx) with hx | hx
          · exact w3 x (List.mem_filter.mp hx).1
          · rw [List.mem_singleton.mp hx]; exact hq
      · exact h.bs s hs
theorem Iv.go {B : Nat} {m : M} (h : Iv B m) (sh : Shop) {r : Row} (hr : r.ok) : Iv (B + 5) (m.go sh r).1 := by
  cases r with
  | wrong d n p q => exact (h.wrong n p q hr.2.2.2.1).mono (by omega)
  | paid d p c => exact ((h.come sh d).bump p 0 c).mono (by omega)
  | back d p q c => exact ((h.come sh d).back p q c).mono (by omega)
  | lent d p q c => exact ((h.come sh d).lends p q c).mono (by omega)
  | bought d n ps k c => exact (h.come sh d).buys sh d n k c
end LW
namespace LW
open TB
section
variable {Γ : Nat → Fn}
theorem tup_f (ds : List D) (h : ds.length ≤ 100) : fTup ds = some (.fz, .tup ds) := fTup_ok ds (by simp [sizeMax]; omega)
end
end LW
namespace LW
open TB
def DcOk (K V : D → Prop) (kvs : List (D × D)) : Prop := ∀ p ∈ kvs, K p.1 ∧ V p.2
theorem DcOk.put {K V : D → Prop} {kvs : List (D × D)} {k v : D} (h : DcOk K V kvs) (hk : K k) (hv : V v) : DcOk K V (putD kvs k v) := by
  unfold putD
  intro p hp
  split at hp
  · obtain ⟨q, hq, rfl⟩ := List.mem_map.mp hp
    have := h q hq
    split
    · exact ⟨this.1, hv⟩
    · exact this
  · rcases List.mem_append.mp hp with hp | hp
    · exact h p hp
    · rw [List.mem_singleton] at hp; subst hp; exact ⟨hk, hv⟩
theorem imms_all {ds : List D} (h : ∀ d ∈ ds, D.imm d = true) : D.imms ds = true := by
  induction ds with
  | nil => simp [D.imms]
  | cons d ds ih => simp only [D.imms, Bool.and_eq_true]; exact ⟨h d (by simp), ih fun x hx => h x (by simp [hx])⟩
section
end
end LW
namespace LW
open TB
inductive Pl : D → Prop
  | int (i : Int) : Pl (.int i)
  | str (s : List Nat) : Pl (.str s)
  | tup (xs : List D) : (∀ x ∈ xs, Pl x) → Pl (.tup xs)
theorem eqvs_of {xs : List D} (h : ∀ x ∈ xs, ∀ y, Pl y → (D.eqv x y = true ↔ x = y)) : ∀ ys : List D, (∀ y ∈ ys, Pl y) → (D.eqvs xs ys = true ↔ xs = ys) := by
  induction xs with
  | nil => intro ys hy; cases ys <;> simp [D.eqvs]
  | cons x xs ih =>
    intro ys hy
    cases ys with
    | nil => simp [D.eqvs]
    | cons y ys =>
      have a := h x (by simp) y (hy y (by simp))
      have b := ih (fun x hx => h x (by simp [hx])) ys fun y h => hy y (by simp [h])
      simp only [D.eqvs, Bool.and_eq_true, a, b, List.cons.injEq]
theorem eqv_pl {x : D} (hx : Pl x) : ∀ y, Pl y → (D.eqv x y = true ↔ x = y) := by
  induction hx with
  | int i => intro y hy; cases hy <;> simp [D.eqv]
  | str s => intro y hy; cases hy <;> simp [D.eqv]
  | tup xs h ih =>
    intro y hy
    cases hy with
    | int j => simp [D.eqv]
    | str j => simp [D.eqv]
    | tup ys hy => simp only [D.eqv, D.tup.injEq]; exact eqvs_of ih ys hy
theorem lts_cons {x y : D} {xs ys : List D} (hx : Pl x) (hy : Pl y) : (D.lts (x :: xs) (y :: ys) = true ↔ (x = y ∧ D.lts xs ys = true) ∨ (x ≠ y ∧ D.lt x y = true)) := by
  have := eqv_pl hx y hy
  by_cases c : x = y
  · subst c; simp [D.lts, this.mpr rfl]
  · have : ¬ D.eqv x y = true := fun e => c (this.mp e)
    simp [D.lts, this, c]
theorem str_lt_tri (a b : List Nat) : a < b ∨ a = b ∨ b < a := by
  rcases List.le_total a b with h | h
  · by_cases c : a < b
    · exact .inl c
    · exact .inr (.inl (List.le_antisymm h (List.not_lt.mp c)))
  · by_cases c : b < a
    · exact .inr (.inr c)
    · exact .inr (.inl (List.le_antisymm (List.not_lt.mp c) h))
theorem lt_irr {x : D} (hx : Pl x) : D.lt x x = false := by
  induction hx with
  | int i => simp [D.lt]
  | str s => simp [D.lt, List.lt_irrefl]
  | tup xs h ih =>
    simp only [D.lt]
    induction xs with
    | nil => simp [D.lts]
    | cons x xs i2 =>
      have e := (eqv_pl (h x (by simp)) x (h x (by simp))).mpr rfl
      simp only [D.lts, e, if_true]
      exact i2 (fun x hx => h x (by simp [hx])) fun x hx => ih x (by simp [hx])
theorem lts_trans {xs : List D} (hx : ∀ x ∈ xs, Pl x) (h : ∀ x ∈ xs, ∀ y z, Pl y → Pl z → D.lt x y = true → D.lt y z = true → D.lt x z = true) : ∀ ys zs : List D, (∀ y ∈ ys, Pl y) → (∀ z ∈ zs, Pl z) → D.lts xs ys = true → D.lts ys zs = true → D.lts xs zs = true := by
  induction xs with
  | nil => intro ys zs _ _ a b; cases ys <;> cases zs <;> simp [D.lts] at a b ⊢
  | cons x xs ih =>
    intro ys zs hy hz a b
    cases ys with
    | nil => simp [D.lts] at a
    | cons y ys =>
      cases zs with
      | nil => simp [D.lts] at b
      | cons z zs =>
        have px := hx x (by simp)
        have py := hy y (by simp)
        have pz := hz z (by simp)
        rw [lts_cons px py] at a
        rw [lts_cons py pz] at b
        rw [lts_cons px pz]
        have T := h x (by simp) y z py pz
        have I := ih (fun x hx' => hx x (by simp [hx'])) (fun x hx => h x (by simp [hx])) ys zs (fun y h => hy y (by simp [h])) (fun y h => hz y (by simp [h]))
        rcases a with ⟨rfl, a⟩ | ⟨n1, a⟩ <;> rcases b with ⟨rfl, b⟩ | ⟨n2, b⟩
        · exact .inl ⟨rfl, I a b⟩
        · exact .inr ⟨n2, b⟩
        · exact .inr ⟨n1, a⟩
        · have t := T a b
          refine .inr ⟨fun e => ?_, t⟩
          subst e
          rw [lt_irr px] at t
          cases t
theorem lt_trans' {x : D} (hx : Pl x) : ∀ y z, Pl y → Pl z → D.lt x y = true → D.lt y z = true → D.lt x z = true := by
  induction hx with
  | int i =>
    intro y z hy hz a b
    cases hy <;> cases hz <;> simp [D.lt] at a b ⊢
    omega
  | str s =>
    intro y z hy hz a b
    cases hy <;> cases hz <;> simp [D.lt] at a b ⊢
    exact List.lt_trans a b
  | tup xs h ih =>
    intro y z hy hz a b
    cases hy <;> cases hz <;> simp only [D.lt, Bool.false_eq_true] at a b ⊢
    exact lts_trans h ih _ _ ‹_› ‹_› a b
theorem tri_of {xs : List D} (hx : ∀ x ∈ xs, Pl x) (h : ∀ x ∈ xs, ∀ y, Pl y → D.alk x y = true → D.lt x y = true ∨ x = y ∨ D.lt y x = true) : ∀ ys : List D, (∀ y ∈ ys, Pl y) → wkDs xs ys = true → D.lts xs ys = true ∨ xs = ys ∨ D.lts ys xs = true := by
  induction xs with
  | nil => intro ys _ _; cases ys <;> simp [D.lts]
  | cons x xs ih =>
    intro ys hy w
    cases ys with
    | nil => simp [D.lts]
    | cons y ys =>
      have px := hx x (by simp)
      have py := hy y (by simp)
      rw [lts_cons px py, lts_cons py px]
      by_cases c : x = y
      · subst c
        rw [wkDs, if_pos ((eqv_pl px x px).mpr rfl)] at w
        rcases ih (fun x hx' => hx x (by simp [hx'])) (fun x hx => h x (by simp [hx])) ys (fun y h => hy y (by simp [h])) w with i | i | i
        · exact .inl (.inl ⟨rfl, i⟩)
        · exact .inr (.inl (by rw [i]))
        · exact .inr (.inr (.inl ⟨rfl, i⟩))
      · rw [wkDs, if_neg (fun e => c ((eqv_pl px y py).mp e))] at w
        rcases h x (by simp) y py w with i | i | i
        · exact .inl (.inr ⟨c, i⟩)
        · exact absurd i c
        · exact .inr (.inr (.inr ⟨fun e => c e.symm, i⟩))
theorem alks_wks : ∀ xs ys : List D, D.alks xs ys = true → wkDs xs ys = true
  | [], _, _ => by simp [wkDs]
  | _ :: _, [], _ => by simp [wkDs]
  | x :: xs, y :: ys, h => by
    simp only [D.alks, Bool.and_eq_true] at h
    rw [wkDs]
    split
    · exact alks_wks xs ys h.2
    · exact h.1
theorem tri {x : D} (hx : Pl x) : ∀ y, Pl y → D.alk x y = true → D.lt x y = true ∨ x = y ∨ D.lt y x = true := by
  induction hx with
  | int i => intro y hy a; cases hy <;> simp [D.alk, D.lt] at a ⊢; omega
  | str s => intro y hy a; cases hy <;> simp [D.alk, D.lt] at a ⊢; exact str_lt_tri _ _
  | tup xs h ih =>
    intro y hy a
    cases hy <;> simp only [D.alk, Bool.false_eq_true, D.lt, D.tup.injEq] at a ⊢
    exact tri_of h ih _ ‹_› (alks_wks _ _ a)
theorem tri_wk {x y : D} (hx : Pl x) (hy : Pl y) (w : wkD x y = true) : D.lt x y = true ∨ x = y ∨ D.lt y x = true := by
  cases hx with
  | int i => simp [wkD] at w
  | str i => simp [wkD] at w
  | tup xs h =>
    cases hy with
    | int i => cases xs <;> simp [wkD] at w
    | str i => cases xs <;> simp [wkD] at w
    | tup ys h2 =>
      cases xs with
      | nil => simp [wkD] at w
      | cons x xs =>
        cases ys with
        | nil => simp [wkD] at w
        | cons y ys =>
          simp only [wkD, Bool.and_eq_true] at w
          simp only [D.lt, D.tup.injEq]
          exact tri_of h (fun x hx => tri (h x hx)) _ h2 w.2
section
variable {α : Type} {f : α → D} (hp : ∀ a, Pl (f a)) (hw : ∀ a b, wkD (f a) (f b) = true) (hi : ∀ a b, f a = f b → a = b)
include hp in
theorem le_not {a b : α} (h : D.lt (f a) (f b) = true) : D.lt (f b) (f a) = false := by
  rw [Bool.eq_false_iff]
  intro c
  have := lt_trans' (hp a) _ _ (hp b) (hp a) h c
  rw [lt_irr (hp a)] at this
  cases this
include hp hw hi in
theorem le_iff (a b : α) : leD (f a) (f b) = true ↔ D.lt (f a) (f b) = true ∨ a = b := by
  unfold leD
  rw [Bool.not_eq_true']
  constructor
  · intro h
    rcases tri_wk (hp a) (hp b) (hw a b) with i | i | i
    · exact .inl i
    · exact .inr (hi a b i)
    · rw [h] at i; cases i
  · rintro (h | rfl)
    · exact le_not hp h
    · exact lt_irr (hp a)
include hp hw hi in
theorem le_tot (a b : α) : (leD (f a) (f b) || leD (f b) (f a)) = true := by
  rw [Bool.or_eq_true, le_iff hp hw hi, le_iff hp hw hi]
  rcases tri_wk (hp a) (hp b) (hw a b) with i | i | i
  · exact .inl (.inl i)
  · exact .inl (.inr (hi a b i))
  · exact .inr (.inl i)
include hp hw hi in
theorem le_trans' (a b c : α) (h1 : leD (f a) (f b) = true) (h2 : leD (f b) (f c) = true) : leD (f a) (f c) = true := by
  rw [le_iff hp hw hi] at *
  rcases h1 with h1 | rfl
  · rcases h2 with h2 | rfl
    · exact .inl (lt_trans' (hp a) _ _ (hp b) (hp c) h1 h2)
    · exact .inl h1
  · exact h2
include hp hw hi in
theorem sort_pair (as : List α) : (as.mergeSort fun a b => leD (f a) (f b)).Pairwise fun a b => leD (f a) (f b) = true :=
  List.pairwise_mergeSort (le_trans' hp hw hi) (le_tot hp hw hi) as
end
end LW
namespace LW
open TB
section
end
end LW
namespace LW
open TB
end LW
namespace LW
open TB
section
variable {κ β : Type} [DecidableEq κ] {K : κ → D} {V : β → D}
def entE (K : κ → D) (V : β → D) (p : κ × β) : D := .tup [K p.1, V p.2]
structure KVok (K : κ → D) (V : β → D) : Prop where
  pk : ∀ a, Pl (K a)
  pv : ∀ a, Pl (V a)
  ak : ∀ a b, D.alk (K a) (K b) = true
  av : ∀ a b, D.alk (V a) (V b) = true
  ik : ∀ a b, K a = K b → a = b
  iv : ∀ a b, V a = V b → a = b
  mK : ∀ a, D.imm (K a) = true
  mV : ∀ a, D.imm (V a) = true
def slist (K : κ → D) (V : β → D) (l : List (κ × β)) : List (κ × β) := l.mergeSort fun a b => leD (entE K V a) (entE K V b)
variable (h : KVok K V)
include h
theorem ent_pl (p : κ × β) : Pl (entE K V p) := by
  refine .tup _ fun x hx => ?_
  simp only [List.mem_cons, List.not_mem_nil, or_false] at hx
  rcases hx with rfl | rfl
  · exact h.pk _
  · exact h.pv _
theorem ent_wk (p q : κ × β) : wkD (entE K V p) (entE K V q) = true := by
  unfold entE
  simp only [wkD, wkDs, h.ak, h.av, Bool.true_and]
  split
  · split <;> rfl
  · rfl
theorem ent_inj (p q : κ × β) (e : entE K V p = entE K V q) : p = q := by
  unfold entE at e
  simp only [D.tup.injEq, List.cons.injEq, and_true] at e
  exact Prod.ext (h.ik _ _ e.1) (h.iv _ _ e.2)
theorem slist_perm (l : List (κ × β)) : (slist K V l).Perm l := List.mergeSort_perm _ _
theorem slist_lt {l : List (κ × β)} (nd : (aks l).Nodup) : (slist K V l).Pairwise fun a b => D.lt (K a.1) (K b.1) = true := by
  have s := sort_pair (ent_pl h) (ent_wk h) (ent_inj h) l
  have n2 : ((slist K V l).map (·.1)).Nodup := ((slist_perm h l).map _).nodup_iff.mpr nd
  have n3 : (slist K V l).Pairwise fun a b => a.1 ≠ b.1 := List.pairwise_map.mp n2
  refine (List.Pairwise.and s n3).imp fun {a b} ⟨x, y⟩ => ?_
  have x : (!D.lt (entE K V b) (entE K V a)) = true := x
  have x : ¬ D.lts (K b.1 :: [V b.2]) (K a.1 :: [V a.2]) = true := by
    intro c
    have : D.lt (entE K V b) (entE K V a) = true := c
    rw [this] at x; cases x
  rw [lts_cons (h.pk _) (h.pk _)] at x
  rcases tri (h.pk a.1) _ (h.pk b.1) (h.ak _ _) with t | t | t
  · exact t
  · exact absurd (h.ik _ _ t) y
  · exact absurd (.inr ⟨fun e => y (h.ik _ _ e).symm, t⟩) x
end
theorem str_alk (a b : Nm) : D.alk (.str a) (.str b) = true := by simp [D.alk]
theorem kvL : KVok D.str D.int := ⟨.str, .int, str_alk, fun a b => by simp [D.alk], fun a b e => by injection e, fun a b e => by injection e, fun a => by simp [D.imm], fun a => by simp [D.imm]⟩
def limOk (p : Nm × Int) : Prop := (p.1 = [] ∨ nameS p.1 = true) ∧ 0 ≤ p.2 ∧ p.2 ≤ 1000000
def trmOk (p : Int × Nm) : Prop := 1 ≤ p.1 ∧ p.1 ≤ 1000000 ∧ (p.2 = tCarried ∨ p.2 = tGiven)
end LW
namespace LW
open TB
section
variable {Γ : Nat → Fn}
theorem str_lt {a b : Nm} (h : D.lt (.str a) (.str b) = true) : a < b := by
  have : decide (a < b) = true := h
  simpa using this
end
end LW
namespace LW
open TB
section
end
section
end
end LW
namespace TB
def retV : FR → List Slot → R KD
  | .ret r [], S => .ok r S
  | .exc x [], S => .exc x S
  | _, _ => .bad
def retB (i : Nat) : FR → List Slot → R KD
  | .ret r [o], S => .ok r (S.set i (some o))
  | .exc x [o], S => .exc x (S.set i (some o))
  | _, _ => .bad
@[simp] theorem retV_ret (r : KD) (S : List Slot) : retV (.ret r []) S = .ok r S := rfl
@[simp] theorem retB_ret (i : Nat) (r o : KD) (S : List Slot) : retB i (.ret r [o]) S = .ok r (S.set i (some o)) := rfl
def callsV (F : Fn) (ds : List D) (S : List Slot) : R KD := retV (F (ds.map fun d => (.fz, d))) S
def callsB (F : Fn) (i : Nat) (ds : List D) (S : List Slot) : R KD := match S[i]? with
  | some (some kd) => if kd.1.isF = true then .bad else retB i (F (kd :: ds.map fun d => (.fz, d))) S
  | _ => .bad
theorem arOut_v2 : ∀ (ds : List D) (os : List KD) (S : List Slot), arOut (ds.map AV.v) os S = if os = [] then some S else none
  | [], [], S => rfl
  | [], o :: os, S => by simp [arOut]
  | d :: ds, os, S => by rw [List.map_cons]; unfold arOut; exact arOut_v2 ds os S
theorem callAV_v (F : Fn) (ds : List D) (S : List Slot) : callAV F (ds.map AV.v) S = callsV F ds S := by
  unfold callAV callsV
  rw [arIn_vs]
  show (match F (ds.map fun d => (.fz, d)) with
    | .ret r os => (match arOut (ds.map AV.v) os S with | some S2 => R.ok r S2 | none => .bad)
    | .exc x os => (match arOut (ds.map AV.v) os S with | some S2 => R.exc x S2 | none => .bad)
    | .bad => R.bad) = _
  cases F (ds.map fun d => (.fz, d)) with
  | bad => rfl
  | ret r os => 
    show (match arOut (ds.map AV.v) os S with | some S2 => R.ok r S2 | none => .bad) = _
    rw [arOut_v2]; cases os <;> rfl
  | exc x os =>
    show (match arOut (ds.map AV.v) os S with | some S2 => R.exc x S2 | none => .bad) = _
    rw [arOut_v2]; cases os <;> rfl
theorem callAV_b (F : Fn) (i : Nat) (ds : List D) (S : List Slot) : callAV F (.b i :: ds.map AV.v) S = callsB F i ds S := by
  unfold callAV callsB arIn
  cases e1 : S[i]? with
  | none => rfl
  | some s =>
    cases s with
    | none => rfl
    | some kd =>
      by_cases h : kd.1.isF = true
      · simp [h]
      · simp only [h, Bool.false_eq_true, if_false]
        rw [arIn_vs]
        show (match F (kd :: ds.map fun d => (.fz, d)) with
          | .ret r os => (match arOut (.b i :: ds.map AV.v) os (S.set i none) with | some S2 => R.ok r S2 | none => .bad)
          | .exc x os => (match arOut (.b i :: ds.map AV.v) os (S.set i none) with | some S2 => R.exc x S2 | none => .bad)
          | .bad => R.bad) = _
        cases F (kd :: ds.map fun d => (.fz, d)) with
        | bad => rfl
        | ret r os =>
          show (match arOut (.b i :: ds.map AV.v) os (S.set i none) with | some S2 => R.ok r S2 | none => .bad) = _
          cases os with
          | nil => rfl
          | cons o os =>
            unfold arOut
            rw [arOut_v2, List.set_set]; cases os <;> rfl
        | exc x os =>
          show (match arOut (.b i :: ds.map AV.v) os (S.set i none) with | some S2 => R.exc x S2 | none => .bad) = _
          cases os with
          | nil => rfl
          | cons o os =>
            unfold arOut
            rw [arOut_v2, List.set_set]; cases os <;> rfl
theorem callV_ap (F : Fn) (es : List E) (S : List Slot) : eCall F (es.map Ar.v) S = (eAll es S).bind fun ds S1 => callsV F ds S1 := by
  show (arEv (es.map Ar.v) S).bind (fun vs S => callAV F vs S) = _
  rw [arEv_vs]
  cases eAll es S with
  | ok ds S1 => exact callAV_v F ds S1
  | exc x S1 => rfl
  | bad => rfl
theorem callB_ap (F : Fn) (i : Nat) (es : List E) (S : List Slot) : eCall F (.b i :: es.map Ar.v) S = match S[i]? with | some (some _) => (eAll es S).bind fun ds S1 => callsB F i ds S1 | _ => .bad := by
  show (arEv (.b i :: es.map Ar.v) S).bind (fun vs S => callAV F vs S) = _
  rw [arEv_b]
  cases e1 : S[i]? with
  | none => rfl
  | some s =>
    cases s with
    | none => rfl
    | some kd =>
      show ((arEv (es.map Ar.v) S).bind _).bind _ = (eAll es S).bind _
      rw [arEv_vs]
      cases eAll es S with
      | ok ds S1 => exact callAV_b F i ds S1
      | exc x S1 => rfl
      | bad => rfl
def isOb (c : Nat) : D → Bool
  | .ob c' _ => c' == c
  | _ => false
theorem methV_ap (c : Nat) (F : Fn) (r : E) (es : List E) (S : List Slot) : eMeth c F (.v r) (es.map Ar.v) [] S = (eDat r S).bind fun x S1 => if isOb c x = true then (eAll es S1).bind fun ds S2 => callsV F (x :: ds) S2 else .bad := by
  show (arEv [.v r] S).bind _ = _
  rw [arEv_v]
  cases eDat r S with
  | exc x S1 => rfl
  | bad => rfl
  | ok x S1 =>
    show (if isObj c (.v x) S1 = true then (M.bind (arEv (es.map Ar.v)) fun vs S => callAV F (.v x :: (vs ++ [])) S) S1 else .bad) = (if isOb c x = true then _ else _)
    have e1 : isObj c (.v x) S1 = isOb c x := by cases x <;> rfl
    rw [e1]
    split
    · rw [bind_ap, arEv_vs]
      cases eAll es S1 with
      | ok ds S2 =>
        show callAV F (.v x :: (ds.map AV.v ++ [])) S2 = callsV F (x :: ds) S2
        rw [List.append_nil]; exact callAV_v F (x :: ds) S2
      | exc x S2 => rfl
      | bad => rfl
    · rfl
def obK (c : Nat) : KD → Bool
  | (.ob _, .ob c' _) => c' == c
  | _ => false
theorem methB_ap (c : Nat) (F : Fn) (i : Nat) (es : List E) (S : List Slot) : eMeth c F (.b i) (es.map Ar.v) [] S = match S[i]? with
    | some (some kd) => if obK c kd = true then (eAll es S).bind fun ds S2 => callsB F i ds S2 else .bad
    | _ => .bad := by
  show (arEv [.b i] S).bind _ = _
  rw [arEv_b]
  cases e1 : S[i]? with
  | none => rfl
  | some s =>
    cases s with
    | none => rfl
    | some kd =>
      show (if isObj c (.b i) S = true then (M.bind (arEv (es.map Ar.v)) fun vs S => callAV F (.b i :: (vs ++ [])) S) S else .bad) = _
      have e2 : isObj c (.b i) S = obK c kd := by
        have : isObj c (.b i) S = (match (some (some kd) : Option Slot) with
          | some (some (.ob _, .ob c' _)) => c' == c
          | _ => false) := by rw [← e1]; rfl
        rw [this]
        obtain ⟨k, d⟩ := kd
        cases k <;> try rfl
        cases d <;> rfl
      rw [e2]
      show _ = (if obK c kd = true then _ else _)
      split
      · rw [bind_ap, arEv_vs]
        cases eAll es S with
        | ok ds S2 =>
          show callAV F (.b i :: (ds.map AV.v ++ [])) S2 = _
          rw [List.append_nil]; exact callAV_b F i ds S2
        | exc x S2 => rfl
        | bad => rfl
      · rfl
section
variable (F : Fn) (a b c d e : E) (i n : Nat) (r : E) (S : List Slot)
@[simp] theorem cv1 : eCall F [.v a] S = (eAll [a] S).bind fun ds S1 => callsV F ds S1 := callV_ap F [a] S
@[simp] theorem cv2 : eCall F [.v a, .v b] S = (eAll [a, b] S).bind fun ds S1 => callsV F ds S1 := callV_ap F [a, b] S
@[simp] theorem cv3 : eCall F [.v a, .v b, .v c] S = (eAll [a, b, c] S).bind fun ds S1 => callsV F ds S1 := callV_ap F [a, b, c] S
@[simp] theorem cv5 : eCall F [.v a, .v b, .v c, .v d, .v e] S = (eAll [a, b, c, d, e] S).bind fun ds S1 => callsV F ds S1 := callV_ap F [a, b, c, d, e] S
@[simp] theorem cb1 : eCall F [.b i, .v a] S = match S[i]? with | some (some _) => (eAll [a] S).bind fun ds S1 => callsB F i ds S1 | _ => .bad := callB_ap F i [a] S
@[simp] theorem cb2 : eCall F [.b i, .v a, .v b] S = match S[i]? with | some (some _) => (eAll [a, b] S).bind fun ds S1 => callsB F i ds S1 | _ => .bad := callB_ap F i [a, b] S
@[simp] theorem cb3 : eCall F [.b i, .v a, .v b, .v c] S = match S[i]? with | some (some _) => (eAll [a, b, c] S).bind fun ds S1 => callsB F i ds S1 | _ => .bad := callB_ap F i [a, b, c] S
@[simp] theorem mv1 : eMeth n F (.v r) [.v a] [] S = (eDat r S).bind fun x S1 => if isOb n x = true then (eAll [a] S1).bind fun ds S2 => callsV F (x :: ds) S2 else .bad := methV_ap n F r [a] S
@[simp] theorem mv2 : eMeth n F (.v r) [.v a, .v b] [] S = (eDat r S).bind fun x S1 => if isOb n x = true then (eAll [a, b] S1).bind fun ds S2 => callsV F (x :: ds) S2 else .bad := methV_ap n F r [a, b] S
@[simp] theorem mv3 : eMeth n F (.v r) [.v a, .v b, .v c] [] S = (eDat r S).bind fun x S1 => if isOb n x = true then (eAll [a, b, c] S1).bind fun ds S2 => callsV F (x :: ds) S2 else .bad := methV_ap n F r [a, b, c] S
@[simp] theorem mb1 : eMeth n F (.b i) [.v a] [] S = match S[i]? with | some (some kd) => (if obK n kd = true then (eAll [a] S).bind fun ds S2 => callsB F i ds S2 else .bad) | _ => .bad := methB_ap n F i [a] S
@[simp] theorem mb2 : eMeth n F (.b i) [.v a, .v b] [] S = match S[i]? with | some (some kd) => (if obK n kd = true then (eAll [a, b] S).bind fun ds S2 => callsB F i ds S2 else .bad) | _ => .bad := methB_ap n F i [a, b] S
@[simp] theorem mb3 : eMeth n F (.b i) [.v a, .v b, .v c] [] S = match S[i]? with | some (some kd) => (if obK n kd = true then (eAll [a, b, c] S).bind fun ds S2 => callsB F i ds S2 else .bad) | _ => .bad := methB_ap n F i [a, b, c] S
@[simp] theorem mb4 : eMeth n F (.b i) [.v a, .v b, .v c, .v d] [] S = match S[i]? with | some (some kd) => (if obK n kd = true then (eAll [a, b, c, d] S).bind fun ds S2 => callsB F i ds S2 else .bad) | _ => .bad := methB_ap n F i [a, b, c, d] S
end
theorem callsV_of {F : Fn} {ds : List D} {r : KD} (h : F (ds.map fun d => (.fz, d)) = .ret r []) (S : List Slot) : callsV F ds S = .ok r S := by unfold callsV; rw [h]; rfl
end TB
namespace TB
@[simp] theorem ePeekI_ap2 (e : E) (S : List Slot) : ePeekI e S = match e (S.map frz) with | .ok (_, d) _ => (if d.imm = true then .ok (.fz, d) S else .bad) | _ => .bad := rfl
@[simp] theorem eGet3_ap2 (a b c : E) (S : List Slot) : eGet3 a b c S = (eDat a S).bind fun x => if x.isDic = true then M.bind (eDat b) fun y => M.bind (eDat c) fun z => ofO (fGet3 x y z) else eBad := rfl
@[simp] theorem eLockLI_ap (i : Nat) (e : E) (S : List Slot) : eLockLI i e S = match S[i]? with
  | some (some (.dK .fz, .dic kvs)) => (match e ((S.map frz).set i (some (.fz, .ldc kvs))) with
    | .ok (.li .fz, .lst ds) _ => if D.imms ds = true then .ok (.li .fz, .lst ds) S else .bad
    | _ => .bad)
  | _ => .bad := rfl
@[simp] theorem itLdc_ap (i : Nat) (S : List Slot) : itLdc i S = match S[i]? with
  | some (some (.fz, .ldc kvs)) => .ok (kvs.map (·.1)) S
  | _ => .bad := rfl
end TB
namespace LW
open TB
abbrev Debt := Nm × Nm × Int
def debtE (d : Debt) : D := .tup [.str d.1, .str d.2.1, .int d.2.2]
def debtOk (d : Debt) : Prop := nameS d.1 = true ∧ nameS d.2.1 = true ∧ d.1 ≠ d.2.1 ∧ 1 ≤ d.2.2 ∧ d.2.2 ≤ 1000000000
/-- a going: of any pence -/
def goOk (d : Debt) : Prop := nameS d.1 = true ∧ nameS d.2.1 = true ∧ d.1 ≠ d.2.1 ∧ 1 ≤ d.2.2
theorem debtOk.go {d : Debt} (h : debtOk d) : goOk d := ⟨h.1, h.2.1, h.2.2.1, h.2.2.2.1⟩
def gv (m : List (Nm × Int)) (k : Nm) : Int := (aget m k).getD 0
def add1 (m : List (Nm × Int)) (k : Nm) (c : Int) : List (Nm × Int) := aset m k (gv m k + c)
def balM (m : List (Nm × Int)) (d : Debt) : List (Nm × Int) := add1 (add1 m d.1 d.2.2) d.2.1 (-d.2.2)
def balF (m : List (Nm × Int)) (ds : List Debt) : List (Nm × Int) := ds.foldl balM m
def nzB (m : List (Nm × Int)) (k : Nm) : Bool := decide (gv m k ≠ 0)
def balR (m : List (Nm × Int)) : List (Nm × Int) := ((sortT (aks m)).filter (nzB m)).map fun k => (k, gv m k)
def balE (p : Nm × Int) : D := .tup [.str p.1, .int p.2]
/-- a dict of sums, in order -/
structure SumOk (n : Nat) (m : List (Nm × Int)) : Prop where
  nd : (aks m).Nodup
  nm : ∀ k ∈ aks m, nameS k = true
  ln : m.length ≤ n
theorem SumOk.add {n : Nat} {m : List (Nm × Int)} (h : SumOk n m) {k : Nm} (hk : nameS k = true) (c : Int) : SumOk (n + 1) (add1 m k c) :=
  ⟨aset_nd h.nd, fun x hx => by
    unfold add1 at hx
    rw [aset_keys] at hx
    split at hx
    · exact h.nm x hx
    · rcases List.mem_append.mp hx with hx | hx
      · exact h.nm x hx
      · simp at hx; subst hx; exact hk, Nat.le_trans (aset_len _ _ _) (by have := h.ln; omega)⟩
theorem SumOk.bal {n : Nat} {m : List (Nm × Int)} (h : SumOk n m) {d : Debt} (hd : goOk d) : SumOk (n + 2) (balM m d) := (h.add hd.1 _).add hd.2.1 _
/-- the sum of all -/
def tot (m : List (Nm × Int)) : Int := (m.map (·.2)).sum
theorem tot_add (m : List (Nm × Int)) (k : Nm) (c : Int) : tot (add1 m k c) = tot m + c := by
  unfold add1 gv tot
  induction m with
  | nil => simp [aset, aget]
  | cons p m ih =>
    rw [aset_cons, aget_cons]
    by_cases e : p.1 = k
    · simp [e]; omega
    · simp [e, ih]; omega
theorem tot_bal (m : List (Nm × Int)) (d : Debt) : tot (balM m d) = tot m := by
  unfold balM
  rw [tot_add, tot_add]
  omega
theorem tot_balF (ds : List Debt) : ∀ m, tot (balF m ds) = tot m := by
  induction ds with
  | nil => intro m; rfl
  | cons d ds ih => intro m; show tot (balF (balM m d) ds) = _; rw [ih, tot_bal]
theorem get3_enc (m : List (Nm × Int)) (k : Nm) : fGet3 (.dic (encA D.str D.int m)) (.str k) (.int 0) = some (.fz, .int (gv m k)) := by
  have e := val_enc (V := D.int) eqv_str m k
  show (if isKey (.str k) = true then kz ((valD (encA D.str D.int m) (.str k)).getD (.int 0)) else none) = _
  rw [if_pos (show isKey (.str k) = true from rfl), e]
  unfold gv
  cases aget m k <;> rfl
theorem put_add {m : List (Nm × Int)} (nd : (aks m).Nodup) (k : Nm) (c : Int) : putD (encA D.str D.int m) (.str k) (.int (gv m k + c)) = encA D.str D.int (add1 m k c) := put_enc (K := D.str) (V := D.int) eqv_str nd k _
theorem get_enc (m : List (Nm × Int)) {k : Nm} (h : k ∈ aks m) : fGet (.dic (encA D.str D.int m)) (.str k) = some (.fz, .int (gv m k)) := by
  have e := val_enc (V := D.int) eqv_str m k
  show (if isKey (.str k) = true then (valD (encA D.str D.int m) (.str k)).bind kz else none) = _
  rw [if_pos (show isKey (.str k) = true from rfl), e]
  unfold gv
  cases q : aget m k with
  | none => exact absurd h (aget_none.mp q)
  | some v => rfl
theorem getL_enc (m : List (Nm × Int)) {k : Nm} (h : k ∈ aks m) : fGetL (.ldc (encA D.str D.int m)) (.str k) = some (.fz, .int (gv m k)) := get_enc m h
theorem keys_enc (m : List (Nm × Int)) : (encA D.str D.int m).map (·.1) = (aks m).map D.str := by unfold encA aks; rw [List.map_map, List.map_map]; rfl
theorem strs_none {s : Nm} {ss : List Nm} : intsOf ((s :: ss).map D.str) = none := rfl
theorem sortB_strs (ss : List Nm) (h : ss.length ≤ sizeMax) : fSortedB [.lst (ss.map D.str)] = some (.li .fz, .lst ((sortT ss).map D.str)) := by
  have e : fSortedA [.lst (ss.map D.str)] = some (.li .fz, .lst ((sortT ss).map D.str)) := by
    unfold fSortedA fOr1
    cases ss with
    | nil => simp [fSorted, intsOf, sortI, sortT]
    | cons s ss =>
      by_cases l : (s :: ss).length < 64
      · have : fSorted [.lst ((s :: ss).map D.str)] = some (.li .fz, .lst ((sortT (s :: ss)).map D.str)) := by
          show (match intsOf ((s :: ss).map D.str) with | some is => some ((.li .fz, .lst ((sortI is).map D.int)) : KD) | none => match strsOf ((s :: ss).map D.str) with | some ss => if ss.length < 64 then some ((.li .fz, .lst ((sortT ss).map D.str)) : KD) else none | none => none) = _
          rw [strs_none, strsOf_map]
          exact if_pos l
        rw [this]
      · have : fSorted [.lst ((s :: ss).map D.str)] = none := by
          show (match intsOf ((s :: ss).map D.str) with | some is => some ((.li .fz, .lst ((sortI is).map D.int)) : KD) | none => match strsOf ((s :: ss).map D.str) with | some ss => if ss.length < 64 then some ((.li .fz, .lst ((sortT ss).map D.str)) : KD) else none | none => none) = _
          rw [strs_none, strsOf_map]
          exact if_neg l
        rw [this]
        show (match fSortedT [.lst ((s :: ss).map D.str)] with | some a => some a | none => _) = _
        have : fSortedT [.lst ((s :: ss).map D.str)] = some (.li .fz, .lst ((sortT (s :: ss)).map D.str)) := by
          show (match strsOf ((s :: ss).map D.str) with | some ss => if ss.length ≤ sizeMax then some ((.li .fz, .lst ((sortT ss).map D.str)) : KD) else none | none => none) = _
          rw [strsOf_map]
          exact if_pos h
        rw [this]
  unfold fSortedB fOr1
  rw [e]
section
variable {Γ : Nat → Fn}
theorem neI (i : Int) : fNe (.int i) (.int 0) = some (.fz, .bl (decide (i ≠ 0))) := by
  rw [fNe_int]
  congr 2
  simp
theorem balE_imm (p : Nm × Int) : D.imm (balE p) = true := by simp [balE, D.imm, D.imms]
def B194 (F : Fn) : Prop := ∀ ds : List Debt, (∀ d ∈ ds, goOk d) → ds.length ≤ 1000 → F [(.fz, .lst (ds.map debtE))] = .ret (.li .fz, .lst ((balR (balF [] ds)).map balE)) []
def okS (x : Slot) : Prop := x = none ∨ ∃ d, x = some (.fz, d)
theorem okS_some (d : D) : okS (some (.fz, d)) := .inr ⟨d, rfl⟩
def BI (ds : List Debt) (xs : List D) (S : List Slot) : Prop := ∃ (rest : List Debt) (m : List (Nm × Int)) (x2 x3 x4 : Slot) (n : Nat), xs = rest.map debtE ∧ (∀ d ∈ rest, goOk d) ∧ balF m rest = balF [] ds ∧ SumOk n m ∧ n + 2 * rest.length ≤ 2000 ∧ okS x2 ∧ S = [some (.fz, .lst (ds.map debtE)), some (.dK .fz, .dic (encA D.str D.int m)), x2, x3, x4]
theorem eAI (i j : Int) : fAdd (.int i) (.int j) = some (.fz, .int (i + j)) := rfl
theorem eSI (i j : Int) : fSub (.int i) (.int j) = some (.fz, .int (i + -j)) := rfl
theorem nil_sum : SumOk 0 [] := ⟨by simp [aks], fun k hk => by simp [aks] at hk, by simp⟩
theorem bal_194 : B194 (runF 5 [] (mb_194 Γ)) := fun ds hd hl => by
  refine FnP.eq (runF_wp (by rfl) ?_)
  simp [mb_194, itemsOf, -Prod.exists, -Prod.forall]
  refine loopG_wp (BI ds) ?_ ?_ _ _ ⟨ds, [], none, none, none, 0, rfl, hd, rfl, nil_sum, by omega, .inl rfl, rfl⟩
  · rintro d xs S ⟨rest, m, x2, x3, x4, n, e1, h1, h2, h3, h4, hx, rfl⟩
    cases rest with
    | nil => cases e1
    | cons b rest =>
      cases e1
      obtain ⟨p, q, c⟩ := b
      have ok := h1 (p, q, c) List.mem_cons_self
      refine ⟨[some (.fz, .lst (ds.map debtE)), some (.dK .fz, .dic (encA D.str D.int m)), some (.fz, .str p), some (.fz, .str q), some (.fz, .int c)], by simp [debtE, Tg.put, Tg.puts], ?_⟩
      simp at h4
      have l0 : (encA D.str D.int m).length < sizeMax := by rw [encA_len]; have := h3.ln; unfold sizeMax; omega
      have o1 : SumOk (n + 1) (add1 m p c) := h3.add ok.1 c
      have l1 : (encA D.str D.int (add1 m p c)).length < sizeMax := by rw [encA_len]; have := o1.ln; unfold sizeMax; omega
      simp [frz, D.isDic, get3_enc, eAI, eSI, D.imm, ownK, isKey, l0, l1, put_add h3.nd, put_add o1.nd, -Prod.exists, -Prod.forall]
      exact ⟨rest, balM m (p, q, c), _, _, _, n + 2, rfl, fun d hd => h1 d (List.mem_cons_of_mem _ hd), h2, h3.bal ok, by omega, okS_some _, rfl⟩
  · rintro S ⟨rest, m, x2, x3, x4, n, e1, h1, h2, h3, h4, hx, rfl⟩
    cases rest with
    | cons r rs => cases e1
    | nil =>
      have h2 : m = balF [] ds := h2
      subst h2
      generalize balF [] ds = m at h3
      have kl : (aks m).length ≤ 2000 := by have := h3.ln; simp [aks]; simp at h4; omega
      have es := sortB_strs (aks m) (by unfold sizeMax; omega)
      have sl : (sortT (aks m)).length = (aks m).length := (sortT_perm _).length_eq
      let S1 : List Slot := [some (.fz, .lst (ds.map debtE)), some (.fz, .dic (encA D.str D.int m)), frz x2, frz x3, frz x4]
      have z := lc_pure (v := 2) (S := S1) (S0 := S1) (it := itSeq (eApp fSortedB [(eApp fList [(eVar 1)])])) (c := eBool (eOp fNe (eOp fGet (eVar 1) (eVar 2)) (eCon (.int 0)))) (e := eApp fTup [(eVar 2), (eOp fGet (eVar 1) (eVar 2))]) (ds := (sortT (aks m)).map D.str)
        (fun d => match d with | .str k => nzB m k | _ => false) (fun d => match d with | .str k => balE (k, gv m k) | _ => .non) (by simp [S1, fList, keys_enc, es, itemsOf]) (by simp [S1]) (by rcases hx with rfl | ⟨d, rfl⟩ <;> rfl)
        (fun d hd => by
          obtain ⟨k, hk, rfl⟩ := List.mem_map.mp hd
          simp [S1, get_enc m ((sortT_perm _).mem_iff.mp hk), neI, nzB])
        (fun d hd _ => by
          obtain ⟨k, hk, rfl⟩ := List.mem_map.mp hd
          exact ⟨.fz, by simp [S1, get_enc m ((sortT_perm _).mem_iff.mp hk), tup_f, balE]⟩) (by rw [List.length_map, sl]; unfold sizeMax; omega)
      have er : (((sortT (aks m)).map D.str).filter (fun d => match d with | .str k => nzB m k | _ => false)).map (fun d => match d with | .str k => balE (k, gv m k) | _ => .non) = (balR m).map balE := by
        unfold balR
        rw [List.filter_map, List.map_map, List.map_map]
        rfl
      rw [er] at z
      have im : D.imms ((balR m).map balE) = true := imms_all fun x hx => by obtain ⟨p, _, rfl⟩ := List.mem_map.mp hx; exact balE_imm p
      simp only [sRet_ap, ePeekLI_ap]
      rw [show List.map frz [some (Kd.fz, D.lst (ds.map debtE)), some (Kd.dK .fz, D.dic (encA D.str D.int m)), x2, x3, x4] = S1 from rfl, z]
      simp [im, outsOf, Kd.isF]
end
end LW
namespace LW
open TB
theorem slist_emap (l : List (Nm × Int)) : sortD (l.map balE) = (slist D.str D.int l).map balE := by
  unfold sortD slist
  exact (List.map_mergeSort (r := fun a b => leD (entE D.str D.int a) (entE D.str D.int b)) (s := leD) (f := entE D.str D.int) (l := l) fun a _ b _ => rfl).symm
theorem sortB_bal (l : List (Nm × Int)) (hk : ∀ p ∈ l, nameS p.1 = true) (hl : l.length ≤ sizeMax) : fSortedB [.lst (l.map balE)] = some (.li .fz, .lst ((slist D.str D.int l).map balE)) := by
  have e : fSortedA [.lst (l.map balE)] = some (.li .fz, .lst ((slist D.str D.int l).map balE)) := by
    rw [← slist_emap]
    cases l with
    | nil => simp [fSortedA, fOr1, fSorted, intsOf, sortI, sortD]
    | cons p l =>
      have so : sortOk ((p :: l).map balE) = true := by
        unfold sortOk
        rw [Bool.and_eq_true, Bool.and_eq_true]
        refine ⟨⟨?_, ?_⟩, ?_⟩
        · rw [List.all_eq_true]
          intro x hx
          obtain ⟨q, _, rfl⟩ := List.mem_map.mp hx
          rfl
        · unfold alkAll
          rw [List.all_eq_true]
          intro x hx
          rw [List.all_eq_true]
          intro y hy
          obtain ⟨q, _, rfl⟩ := List.mem_map.mp hx
          obtain ⟨r, _, rfl⟩ := List.mem_map.mp hy
          simp [balE, D.alk, D.alks]
        · refine lays_all fun x hx => ?_
          obtain ⟨q, hq, rfl⟩ := List.mem_map.mp hx
          have := name_lay (hk q hq) 59
          show D.lays 59 [.str q.1, .int q.2] = true
          simp only [D.lays, this, Bool.true_and, Bool.and_true]
          simp [D.lay]
      show (match (none : Option KD) with | some a => some a | none => (match (none : Option KD) with | some a => some a | none => fSortD [.lst ((p :: l).map balE)])) = _
      show (if sortOk ((p :: l).map balE) = true ∧ ((p :: l).map balE).length ≤ sizeMax then some ((.li .fz, .lst (sortD ((p :: l).map balE))) : KD) else none) = _
      rw [if_pos ⟨so, by rw [List.length_map]; exact hl⟩]
  unfold fSortedB fOr1
  rw [e]
def balU (m : List (Nm × Int)) : List (Nm × Int) := ((aks m).filter (nzB m)).map fun k => (k, gv m k)
theorem balU_keys (m : List (Nm × Int)) : aks (balU m) = (aks m).filter (nzB m) := by
  unfold balU
  rw [show aks (((aks m).filter (nzB m)).map fun k => (k, gv m k)) = (((aks m).filter (nzB m)).map fun k => (k, gv m k)).map (·.1) from rfl, List.map_map]
  exact List.map_id' _
theorem balR_perm (m : List (Nm × Int)) : (balR m).Perm (balU m) := ((sortT_perm (aks m)).filter _).map _
theorem slist_bal {n : Nat} {m : List (Nm × Int)} (h : SumOk n m) : slist D.str D.int (balU m) = balR m := by
  have nd : (aks (balU m)).Nodup := by rw [balU_keys]; exact h.nd.filter _
  have vals : ∀ p ∈ balU m, p.2 = gv m p.1 := fun p hp => by
    unfold balU at hp
    obtain ⟨k, _, rfl⟩ := List.mem_map.mp hp
    rfl
  have p1 : (slist D.str D.int (balU m)).Perm (balU m) := slist_perm kvL _
  refine List.Perm.eq_of_pairwise (le := fun a b => a.1 ≤ b.1) (fun a b ha hb x y => ?_) ?_ ?_ (p1.trans (balR_perm m).symm)
  · have e : a.1 = b.1 := List.le_antisymm x y
    exact Prod.ext e (by rw [vals a (p1.mem_iff.mp ha), vals b ((balR_perm m).mem_iff.mp hb), e])
  · exact (slist_lt kvL nd).imp fun {a b} hlt => List.le_of_lt (str_lt hlt)
  · unfold balR
    exact List.pairwise_map.mpr ((sortT_pair (aks m)).sublist List.filter_sublist)
section
variable {Γ : Nat → Fn}
def L205 (F : Fn) : Prop := ∀ ds : List Debt, (∀ d ∈ ds, goOk d) → ds.length ≤ 1000 → F [(.fz, .lst (ds.map debtE))] = .ret (.fz, .lst ((balR (balF [] ds)).map balE)) []
def LI (ds : List Debt) (xs : List D) (S : List Slot) : Prop := ∃ (rest : List Debt) (m : List (Nm × Int)) (x2 x3 x4 x5 x6 : Slot) (n : Nat), xs = rest.map debtE ∧ (∀ d ∈ rest, goOk d) ∧ balF m rest = balF [] ds ∧ SumOk n m ∧ n + 2 * rest.length ≤ 2000 ∧ okS x5 ∧ S = [some (.fz, .lst (ds.map debtE)), some (.dK .fz, .dic (encA D.str D.int m)), x2, x3, x4, x5, x6]
theorem two_L (a b : D) : fLst [a, b] = some (.li .fz, .lst [a, b]) := rfl
theorem sub0 (c : Int) : fSub (.int 0) (.int c) = some (.fz, .int (-c)) := by
  show some ((.fz, .int (0 - c)) : KD) = _
  rw [Int.zero_sub]
theorem law_205 : L205 (runF 7 [] (mb_205 Γ)) := fun ds hd hl => by
  refine FnP.eq (runF_wp (by rfl) ?_)
  simp [mb_205, itemsOf, -Prod.exists, -Prod.forall]
  refine loopG_wp (LI ds) ?_ ?_ _ _ ⟨ds, [], none, none, none, none, none, 0, rfl, hd, rfl, nil_sum, by omega, .inl rfl, rfl⟩
  · rintro d xs S ⟨rest, m, x2, x3, x4, x5, x6, n, e1, h1, h2, h3, h4, hx, rfl⟩
    cases rest with
    | nil => cases e1
    | cons b rest =>
      cases e1
      obtain ⟨p, q, c⟩ := b
      have ok := h1 (p, q, c) List.mem_cons_self
      refine ⟨[some (.fz, .lst (ds.map debtE)), some (.dK .fz, .dic (encA D.str D.int m)), some (.fz, .str p), some (.fz, .str q), some (.fz, .int c), x5, x6], by simp [debtE, Tg.put, Tg.puts], ?_⟩
      simp at h4
      have l0 : (encA D.str D.int m).length < sizeMax := by rw [encA_len]; have := h3.ln; unfold sizeMax; omega
      have o1 : SumOk (n + 1) (add1 m p c) := h3.add ok.1 c
      have l1 : (encA D.str D.int (add1 m p c)).length < sizeMax := by rw [encA_len]; have := o1.ln; unfold sizeMax; omega
      simp [tup_f, two_L, sub0, itemsOf, loop, Tg.put, Tg.puts, frz, D.isDic, get3_enc, eAI, D.imm, ownK, isKey, l0, l1, put_add h3.nd, put_add o1.nd, -Prod.exists, -Prod.forall]
      exact ⟨rest, balM m (p, q, c), _, _, _, _, _, n + 2, rfl, fun d hd => h1 d (List.mem_cons_of_mem _ hd), h2, h3.bal ok, by omega, okS_some _, rfl⟩
  · rintro S ⟨rest, m, x2, x3, x4, x5, x6, n, e1, h1, h2, h3, h4, hx, rfl⟩
    cases rest with
    | cons r rs => cases e1
    | nil =>
      have h2 : m = balF [] ds := h2
      subst h2
      generalize balF [] ds = m at h3
      have kl : (aks m).length ≤ 2000 := by have := h3.ln; simp [aks]; simp at h4; omega
      let S1 : List Slot := [some (.fz, .lst (ds.map debtE)), some (.fz, .ldc (encA D.str D.int m)), frz x2, frz x3, frz x4, frz x5, frz x6]
      have z := lc_pure (v := 5) (S := S1) (S0 := S1) (it := itLdc 1) (c := eBool (eOp fNe (eOp fGetL (eVar 1) (eVar 5)) (eCon (.int 0)))) (e := eApp fTup [(eVar 5), (eOp fGetL (eVar 1) (eVar 5))]) (ds := (aks m).map D.str)
        (fun d => match d with | .str k => nzB m k | _ => false) (fun d => match d with | .str k => balE (k, gv m k) | _ => .non) (by simp [S1, keys_enc]) (by simp [S1]) (by rcases hx with rfl | ⟨d, rfl⟩ <;> rfl)
        (fun d hd => by
          obtain ⟨k, hk, rfl⟩ := List.mem_map.mp hd
          simp [S1, getL_enc m hk, neI, nzB])
        (fun d hd _ => by
          obtain ⟨k, hk, rfl⟩ := List.mem_map.mp hd
          exact ⟨.fz, by simp [S1, getL_enc m hk, tup_f, balE]⟩) (by rw [List.length_map]; unfold sizeMax; omega)
      have er : (((aks m).map D.str).filter (fun d => match d with | .str k => nzB m k | _ => false)).map (fun d => match d with | .str k => balE (k, gv m k) | _ => .non) = (balU m).map balE := by
        unfold balU
        rw [List.filter_map, List.map_map, List.map_map]
        rfl
      rw [er] at z
      have im : D.imms ((balU m).map balE) = true := imms_all fun x hx => by obtain ⟨p, _, rfl⟩ := List.mem_map.mp hx; exact balE_imm p
      have ul : (balU m).length ≤ sizeMax := by
        unfold balU
        rw [List.length_map]
        exact Nat.le_trans (List.length_filter_le _ _) (by unfold sizeMax; omega)
      have so := sortB_bal (balU m) (fun p hp => h3.nm _ (by
        unfold balU at hp
        obtain ⟨k, hk, rfl⟩ := List.mem_map.mp hp
        exact (List.mem_filter.mp hk).1)) ul
      rw [slist_bal h3] at so
      simp only [sRet_ap, eFr_ap, eApp_ap, eAll_cons, eAll_nil, eDat_ap, eLockLI_ap]
      rw [show [some (Kd.fz, D.lst (ds.map debtE)), some (Kd.dK .fz, D.dic (encA D.str D.int m)), x2, x3, x4, x5, x6][1]? = some (some (Kd.dK .fz, D.dic (encA D.str D.int m))) from rfl]
      simp only []
      rw [show (List.map frz [some (Kd.fz, D.lst (ds.map debtE)), some (Kd.dK .fz, D.dic (encA D.str D.int m)), x2, x3, x4, x5, x6]).set 1 (some (.fz, .ldc (encA D.str D.int m))) = S1 from rfl, z]
      simp [im, so, outsOf, Kd.isF]
end
end LW
namespace LW
open TB
section
variable (sh : Shop) (m : M)
@[simp] theorem ff0 : fFld 0 0 (cD sh m) = some (.fz, bookE sh.book) := rfl
@[simp] theorem ff1 : fFld 0 1 (cD sh m) = some (.fz, .tup (sh.lims.map limE)) := rfl
@[simp] theorem ff2 : fFld 0 2 (cD sh m) = some (.fz, .tup (sh.terms.map trmE)) := rfl
@[simp] theorem ff3 : fFld 0 3 (cD sh m) = some (.fz, .dic (encA D.str accV m.cnt)) := rfl
@[simp] theorem ff4 : fFld 0 4 (cD sh m) = some (.fz, .dit (encA k2 D.int m.deb)) := rfl
@[simp] theorem ff5 : fFld 0 5 (cD sh m) = some (.fz, .dit (encA k3 D.int m.sp)) := rfl
@[simp] theorem ff7 : fFld 0 7 (cD sh m) = some (.fz, .int m.ended) := rfl
@[simp] theorem ff8 : fFld 0 8 (cD sh m) = some (.fz, .dic (encA D.int psV m.buy)) := rfl
@[simp] theorem isOb_c : isOb 0 (cD sh m) = true := rfl
@[simp] theorem obK_c : obK 0 (cK, cD sh m) = true := rfl
@[simp] theorem cK_isF : Kd.isF cK = false := rfl
@[simp] theorem frz_s (kd : KD) : frz (some kd) = some (.fz, kd.2) := rfl
@[simp] theorem frz_n : frz none = none := rfl
end
@[simp] theorem peekI_ap (e : E) (S : List Slot) : ePeekI e S = match e (S.map frz) with | .ok (_, d) _ => (if d.imm = true then .ok (.fz, d) S else .bad) | _ => .bad := rfl
@[simp] theorem get3_ap (a b c : E) (S : List Slot) : eGet3 a b c S = (eDat a S).bind fun x S1 => if x.isDic = true then (eDat b S1).bind fun y S2 => (eDat c S2).bind fun z S3 => ofO (fGet3 x y z) S3 else .bad := by
  unfold eGet3; simp only [bind_ap]; congr 1; funext x S1
  split <;> rfl
@[simp] theorem nget3_ap (a b c : E) (S : List Slot) : eNget3 a b c S = (eDat a S).bind fun x S1 => if x.isDit = true then (eDat b S1).bind fun y S2 => (eDat c S2).bind fun z S3 => ofO (fNget3 x y z) S3 else .bad := by
  unfold eNget3; simp only [bind_ap]; congr 1; funext x S1
  split <;> rfl
@[simp] theorem isDic_dic (k) : D.isDic (.dic k) = true := rfl
@[simp] theorem isDit_dit (k) : D.isDit (.dit k) = true := rfl
@[simp] theorem imm_int (i : Int) : D.imm (.int i) = true := by simp [D.imm]
@[simp] theorem imm_str (i : Nm) : D.imm (.str i) = true := by simp [D.imm]
@[simp] theorem imm_tup (xs : List D) : D.imm (.tup xs) = D.imms xs := by rw [D.imm]
@[simp] theorem add_i (i j : Int) : fAdd (.int i) (.int j) = some (.fz, .int (i + j)) := rfl
@[simp] theorem sub_i (i j : Int) : fSub (.int i) (.int j) = some (.fz, .int (i - j)) := rfl
@[simp] theorem lt_i (i j : Int) : fLt (.int i) (.int j) = some (.fz, .bl (decide (i < j))) := rfl
@[simp] theorem le_i (i j : Int) : fLe (.int i) (.int j) = some (.fz, .bl (decide (i ≤ j))) := rfl
@[simp] theorem gt_i (i j : Int) : fGt (.int i) (.int j) = some (.fz, .bl (decide (j < i))) := rfl
@[simp] theorem eqi (i j : Int) : fEq (.int i) (.int j) = some (.fz, .bl (decide (i = j))) := fEq_int i j
@[simp] theorem eqs (i j : Nm) : fEq (.str i) (.str j) = some (.fz, .bl (decide (i = j))) := fEq_str i j
@[simp] theorem lst1 (a : D) : fLst [a] = some (.li .fz, .lst [a]) := rfl
@[simp] theorem lst0 : fLst [] = some (.li .fz, .lst []) := rfl
@[simp] theorem zer7 : fMul (.lst [.int 0]) (.int 7) = some (.li .fz, accV z7) := rfl
@[simp] theorem get3_s (m : List (Nm × List Int)) (p : Nm) (g : List Int) : fGet3 (.dic (encA D.str accV m)) (.str p) (accV g) = some (.fz, accV ((aget m p).getD g)) := by
  show (if isKey (.str p) = true then kz ((valD (encA D.str accV m) (.str p)).getD (accV g)) else none) = _
  rw [if_pos (by rfl), val_enc eqv_str]
  cases aget m p <;> rfl
@[simp] theorem get3_b (m : List (Int × List Nm)) (p : Int) : fGet3 (.dic (encA D.int psV m)) (.int p) (.tup []) = some (.fz, psV ((aget m p).getD [])) := by
  show (if isKey (.int p) = true then kz ((valD (encA D.int psV m) (.int p)).getD (.tup [])) else none) = _
  rw [if_pos (by rfl), val_enc eqv_int]
  cases aget m p <;> rfl
theorem fNget3_gen {κ β : Type} [DecidableEq κ] {K : κ → D} {V : β → D} (he : ∀ a b, D.eqv (K a) (K b) = decide (a = b)) (hn : ∀ a, isNK (K a) = true) (m : List (κ × β)) (k : κ) (z : β) : fNget3 (.dit (encA K V m)) (K k) (V z) = some (.fz, V ((aget m k).getD z)) := by
  show (if isNK (K k) = true then kz ((valD (encA K V m) (K k)).getD (V z)) else none) = _
  rw [if_pos (hn k), val_enc he]
  cases aget m k <;> rfl
@[simp] theorem nget_deb (m : List ((Nm × Nm) × Int)) (p q : Nm) (z : Int) : fNget3 (.dit (encA k2 D.int m)) (.tup [.str p, .str q]) (.int z) = some (.fz, .int ((aget m (p, q)).getD z)) := fNget3_gen (K := k2) (V := D.int) eqv_k2 nk_k2 m (p, q) z
@[simp] theorem nget_sp (m : List ((Int × Nm × Nm) × Int)) (d : Int) (p q : Nm) (z : Int) : fNget3 (.dit (encA k3 D.int m)) (.tup [.int d, .str p, .str q]) (.int z) = some (.fz, .int ((aget m (d, p, q)).getD z)) := fNget3_gen (K := k3) (V := D.int) eqv_k3 nk_k3 m (d, p, q) z
@[simp] theorem nget_spl (m : List ((Int × Nm) × List (Int × Nm × Nm × Int))) (d : Int) (p : Nm) : fNget3 (.dit (encA kd2 splV m)) (.tup [.int d, .str p]) (.lst []) = some (.fz, splV ((aget m (d, p)).getD [])) := fNget3_gen (K := kd2) (V := splV) eqv_kd2 nk_kd2 m (d, p) []
@[simp] theorem tup_2 (a b : D) : fTup [a, b] = some (.fz, .tup [a, b]) := rfl
@[simp] theorem tup_3 (a b c : D) : fTup [a, b, c] = some (.fz, .tup [a, b, c]) := rfl
@[simp] theorem tup_4 (a b c d : D) : fTup [a, b, c, d] = some (.fz, .tup [a, b, c, d]) := rfl
@[simp] theorem tup_00 : fTup [] = some (.fz, .tup []) := rfl
@[simp] theorem not_ind (m : List (Nm × List Int)) (p : Nm) : fNotInD (.str p) (.dic (encA D.str accV m)) = some (.fz, .bl (!(aget m p).isSome)) := by
  show (if isKey (.str p) = true then kz (.bl (!(valD (encA D.str accV m) (.str p)).isSome)) else none) = _
  rw [if_pos (by rfl), val_enc eqv_str]
  cases aget m p <;> rfl
@[simp] theorem isF_z : Kd.isF .fz = true := rfl
@[simp] theorem isF_l (k : Kd) : Kd.isF (.li k) = false := rfl
@[simp] theorem tuple_l (g : List Int) : fTuple [accV g] = some (.fz, .tup (g.map D.int)) := rfl
@[simp] theorem sl_3 (g : List Int) : fSl (.tup (g.map D.int)) none (some 3) = some (.fz, .tup ((g.take 3).map D.int)) := by
  have e : cutL (g.map D.int) none (some 3) = (g.take 3).map D.int := by
    unfold cutL ixS
    simp [List.map_take]
  show kz (.tup (cutL (g.map D.int) none (some 3))) = _
  rw [e]; rfl
@[simp] theorem sl_3' (g : List Int) : fSl (.tup (g.map D.int)) (some 3) none = some (.fz, .tup ((g.drop 3).map D.int)) := by
  have e : cutL (g.map D.int) (some 3) none = (g.drop 3).map D.int := by
    unfold cutL ixS
    simp [List.map_drop]
    rcases Nat.le_total 3 g.length with q | q
    · rw [Nat.min_eq_left q, List.take_of_length_le (by simp)]
    · rw [Nat.min_eq_right q, List.drop_of_length_le (by simp), List.drop_of_length_le (by simpa using q)]; simp
  show kz (.tup (cutL (g.map D.int) (some 3) none)) = _
  rw [e]; rfl
@[simp] theorem sum_t (g : List Int) : fSum [.tup (g.map D.int)] = some (.fz, .int g.sum) := by
  show (intsOf (g.map D.int)).bind _ = _
  rw [intsOf_map]; rfl
@[simp] theorem sum_l (g : List Int) : fSum [.lst (g.map D.int)] = some (.fz, .int g.sum) := by
  show (intsOf (g.map D.int)).bind _ = _
  rw [intsOf_map]; rfl
section
variable {Γ : Nat → Fn} {B : Nat} {sh : Shop} {m : M}
def S63 (sh : Shop) (F : Fn) : Prop := ∀ (m : M) (p : Nm), F [(.fz, cD sh m), (.fz, .str p)] = .ret (.fz, .tup ((m.acc p).map D.int)) []
theorem S63.cv {F : Fn} (h : S63 sh F) (m : M) (p : Nm) (S : List Slot) : callsV F [cD sh m, .str p] S = .ok (.fz, .tup ((m.acc p).map D.int)) S := callsV_of (ds := [cD sh m, .str p]) (h m p) S
def S64 (sh : Shop) (F : Fn) : Prop := ∀ (m : M) (p : Nm), F [(.fz, cD sh m), (.fz, .str p)] = .ret (.fz, .int (m.has p)) []
theorem S64.cv {F : Fn} (h : S64 sh F) (m : M) (p : Nm) (S : List Slot) : callsV F [cD sh m, .str p] S = .ok (.fz, .int (m.has p)) S := callsV_of (ds := [cD sh m, .str p]) (h m p) S
def S68 (sh : Shop) (F : Fn) : Prop := ∀ (m : M) (p q : Nm), F [(.fz, cD sh m), (.fz, .str p), (.fz, .str q)] = .ret (.fz, .int (m.owes p q)) []
theorem S68.cv {F : Fn} (h : S68 sh F) (m : M) (p q : Nm) (S : List Slot) : callsV F [cD sh m, .str p, .str q] S = .ok (.fz, .int (m.owes p q)) S := callsV_of (ds := [cD sh m, .str p, .str q]) (h m p q) S
end
end LW
namespace TB
theorem whileT {n : Nat} {c : T} {b : St} {S : List Slot} {Q : Fl → List Slot → Prop} (h : okP (c S) fun x S1 => if x = true then okP (b S1) fun f S2 => f = .nx ∧ okP (sWhile n c b S2) Q else Q .nx S1) : okP (sWhile (n + 1) c b S) Q := by
  obtain ⟨x, S1, e1, h1⟩ := h.ex
  unfold sWhile
  rw [bind_ap, e1, rbind_ok]
  cases x with
  | false => exact h1
  | true =>
    have h1 : okP (b S1) fun f S2 => f = .nx ∧ okP (sWhile n c b S2) Q := h1
    obtain ⟨f, S2, e2, rfl, h2⟩ := h1.ex
    show okP (R.bind (b S1) _) Q
    rw [e2, rbind_ok]
    exact h2
end TB
namespace LW
open TB
theorem imms_str : ∀ ps : List Nm, D.imms (ps.map D.str) = true
  | [] => by simp [D.imms]
  | p :: ps => by rw [List.map_cons]; simp [D.imms, imms_str ps]
theorem enc_keys {β : Type} (V : β → D) (m : List (Nm × β)) : (encA D.str V m).map (·.1) = (aks m).map D.str := by unfold encA aks; rw [List.map_map, List.map_map]; rfl
@[simp] theorem imm_ps (ps : List Nm) : D.imm (psV ps) = true := by unfold psV; rw [imm_tup]; exact imms_str ps
@[simp] theorem items_ps (ps : List Nm) : itemsOf (psV ps) = some (ps.map D.str) := rfl
section
variable {Γ : Nat → Fn} {B : Nat} {sh : Shop} {m : M}
@[simp] theorem trm_0 (t : Int × Nm) : fIx (trmE t) (.int 0) = some (.fz, .int t.1) := ix0
@[simp] theorem trm_1 (t : Int × Nm) : fIx (trmE t) (.int 1) = some (.fz, .str t.2) := ix1
@[simp] theorem len_t (xs : List D) : fLen [.tup xs] = some (.fz, .int xs.length) := rfl
@[simp] theorem list_cnt (m : M) : fList [.dic (encA D.str accV m.cnt)] = some (.li .fz, .lst ((aks m.cnt).map D.str)) := by
  show some ((Kd.li .fz, D.lst ((encA D.str accV m.cnt).map (·.1))) : KD) = _
  rw [enc_keys]
end
end LW
namespace LW
open TB
def partE (p : Nm × Int) : D := .tup [.str p.1, .int p.2]
@[simp] theorem enum_ap (e : E) (S : List Slot) : itEnum e S = (eDat e S).bind fun d S1 => (match itemsOf d with | some xs => (TB.M.pure (enumL 0 xs) : It) | none => fun _ => .bad) S1 := rfl
def Rule.ok (r : Rule) : Prop := (∀ x ∈ r.ks, nameS x = true) ∧ ∀ x ∈ r.ps, nameS x = true
section
variable {Γ : Nat → Fn} {B : Nat} {sh : Shop} {m : M}
@[simp] theorem int_b (b : Bool) : fIntB [.bl b] = some (.fz, .int (if b = true then 1 else 0)) := by cases b <;> rfl
end
end LW
namespace LW
open TB
def optN : Option Nat → D
  | none => .non
  | some n => .int n
def optI : Option Int → D
  | none => .non
  | some n => .int n
section
variable {Γ : Nat → Fn} {B : Nat} {sh : Shop} {m : M}
def S24 (F : Fn) : Prop := ∀ (r : Rule), r.ok → ∀ (day : Int) (p k : Nm) (c : Int), F [(.fz, r.enc), (.fz, .int day), (.fz, .str p), (.fz, .str k), (.fz, .int c)] = .ret (.fz, .bl (r.meets day p k c)) []
theorem S24.cv {F : Fn} (h : S24 F) {r : Rule} (hr : r.ok) (day : Int) (p k : Nm) (c : Int) (S : List Slot) : callsV F [r.enc, .int day, .str p, .str k, .int c] S = .ok (.fz, .bl (r.meets day p k c)) S := callsV_of (ds := [r.enc, .int day, .str p, .str k, .int c]) (h r hr day p k c) S
def firstR (b : List Rule) (day : Int) (p k : Nm) (c : Int) : Option Nat := b.findIdx? (Rule.meets day p k c)
def S25 (F : Fn) : Prop := ∀ (b : List Rule), (∀ r ∈ b, r.ok) → ∀ (day : Int) (p k : Nm) (c : Int), F [(.fz, bookE b), (.fz, .int day), (.fz, .str p), (.fz, .str k), (.fz, .int c)] = .ret (.fz, optN (firstR b day p k c)) []
theorem S25.cv {F : Fn} (h : S25 F) {b : List Rule} (hb : ∀ r ∈ b, r.ok) (day : Int) (p k : Nm) (c : Int) (S : List Slot) : callsV F [bookE b, .int day, .str p, .str k, .int c] S = .ok (.fz, optN (firstR b day p k c)) S := callsV_of (ds := [bookE b, .int day, .str p, .str k, .int c]) (h b hb day p k c) S
theorem isN (d : D) : fIsA d .non = some (.fz, .bl (match d with | .non => true | _ => false)) := rfl
def S26 (F : Fn) : Prop := ∀ (b : List Rule), (∀ r ∈ b, r.ok) → ∀ (day : Int) (p k : Nm) (c : Int), F [(.fz, bookE b), (.fz, .int day), (.fz, .str p), (.fz, .str k), (.fz, .int c)] = .ret (.fz, .bl (letsB b day p k c)) []
theorem S26.cv {F : Fn} (h : S26 F) {b : List Rule} (hb : ∀ r ∈ b, r.ok) (day : Int) (p k : Nm) (c : Int) (S : List Slot) : callsV F [bookE b, .int day, .str p, .str k, .int c] S = .ok (.fz, .bl (letsB b day p k c)) S := callsV_of (ds := [bookE b, .int day, .str p, .str k, .int c]) (h b hb day p k c) S
def leftL (m : M) (day : Int) (p k : Nm) : List (Nm × Int) → Option Int → Option Int
  | [], o => o
  | l :: ls, o => if l.1 = [] ∨ l.1 = k then leftL m day p k ls (match o with
      | none => some (l.2 - m.spent day p l.1)
      | some f => if l.2 - m.spent day p l.1 < f then some (l.2 - m.spent day p l.1) else some f) else leftL m day p k ls o
def S71 (sh : Shop) (F : Fn) : Prop := ∀ (m : M) (day : Int) (p k : Nm), F [(.fz, cD sh m), (.fz, .int day), (.fz, .str p), (.fz, .str k)] = .ret (.fz, optI (leftL m day p k sh.lims none)) []
theorem S71.cv {F : Fn} (h : S71 sh F) (m : M) (day : Int) (p k : Nm) (S : List Slot) : callsV F [cD sh m, .int day, .str p, .str k] S = .ok (.fz, optI (leftL m day p k sh.lims none)) S := callsV_of (ds := [cD sh m, .int day, .str p, .str k]) (h m day p k) S
def ptD (pt : List (Nm × Int)) : D := .lst (pt.map partE)
@[simp] theorem items_pt (pt : List (Nm × Int)) : itemsOf (ptD pt) = some (pt.map partE) := rfl
end
end LW
namespace LW
open TB
theorem nei (i j : Int) : fNe (.int i) (.int j) = some (.fz, .bl (!decide (i = j))) := fNe_int i j
theorem isi_t' (xs : List D) : fIsi .tuple (.tup xs) = some (.fz, .bl true) := rfl
section
variable {Γ : Nat → Fn} {sh : Shop}
theorem W0.cv {F : Fn} (h : W0 F) (i lo hi : Int) (S : List Slot) : callsV F [.int i, .int lo, .int hi] S = .ok (.fz, .bl (withinB (.int i) lo hi)) S := callsV_of (ds := [.int i, .int lo, .int hi]) (h i lo hi) S
theorem N1.cv {F : Fn} (h : N1 F) {s : Nm} (hs : nameS s = true) (S : List Slot) : callsV F [.str s] S = .ok (.fz, .bl true) S := callsV_of (ds := [.str s]) (h s hs) S
def S50 (F : Fn) : Prop := ∀ p : Nm × Int, limOk p → F [(.fz, limE p)] = .ret (.fz, .bl true) []
theorem S50.cv {F : Fn} (h : S50 F) {p : Nm × Int} (hp : limOk p) (S : List Slot) : callsV F [limE p] S = .ok (.fz, .bl true) S := callsV_of (ds := [limE p]) (h p hp) S
def S51 (F : Fn) : Prop := ∀ p : Int × Nm, trmOk p → F [(.fz, trmE p)] = .ret (.fz, .bl true) []
theorem S51.cv {F : Fn} (h : S51 F) {p : Int × Nm} (hp : trmOk p) (S : List Slot) : callsV F [trmE p] S = .ok (.fz, .bl true) S := callsV_of (ds := [trmE p]) (h p hp) S
def S2L (F : Fn) : Prop := ∀ xs : List D, like xs → xs.length ≤ 1000 → F [(.fz, .lst xs)] = .ret (.fz, .bl (riseB xs)) []
theorem S2L.cv {F : Fn} (h : S2L F) {xs : List D} (hx : like xs) (hl : xs.length ≤ 1000) (S : List Slot) : callsV F [.lst xs] S = .ok (.fz, .bl (riseB xs)) S := callsV_of (ds := [.lst xs]) (h xs hx hl) S
def S5 (F : Fn) : Prop := ∀ b : List Rule, good 9 3 (bookE b) → bookB (bookE b) = true → F [(.fz, bookE b)] = .ret (.fz, .bl true) []
theorem S5.cv {F : Fn} (h : S5 F) {b : List Rule} (h1 : good 9 3 (bookE b)) (h2 : bookB (bookE b) = true) (S : List Slot) : callsV F [bookE b] S = .ok (.fz, .bl true) S := callsV_of (ds := [bookE b]) (h b h1 h2) S
end
end LW
namespace LW
open TB
/-- is it a going -/
def goB : D → Bool
  | .tup [.str a, .str b, .int c] => nameS a && (nameS b && (!(a == b) && decide (0 < c)))
  | _ => false
/-- within what may be owed -/
def owB : D → Bool
  | .tup [_, _, .int c] => decide (1 ≤ c ∧ c ≤ 1000000000)
  | _ => false
def bads : List D := [.tup [.str [97], .str [97], .int 5], .tup [.str [97], .str [98], .int 0], .tup [.str [97], .str [], .int 5], .tup [.str [97], .str [98], .int 1000000001], .lst [.str [97], .str [98], .int 5], .tup [.str [97], .str [98], .bl true],
  .tup [.str [97], .str [98]], .tup [.str [65], .str [98], .int 5], .tup [.str [97], .str [98], .int 5, .int 6]]
/-- what is looked at -/
def Seen (d : D) : Prop := (∃ x : Debt, debtOk x ∧ d = debtE x) ∨ d ∈ bads
theorem go_ok {x : Debt} (h : debtOk x) : goB (debtE x) = true := by
  obtain ⟨a, b, c⟩ := x
  obtain ⟨h1, h2, h3, h4, h5⟩ := h
  simp only at h1 h2 h3 h4 h5
  show (nameS a && (nameS b && (!(a == b) && decide (0 < c)))) = true
  rw [h1, h2]
  simp [h3]
  omega
theorem ow_ok {x : Debt} (h : debtOk x) : owB (debtE x) = true := by
  show decide (1 ≤ x.2.2 ∧ x.2.2 ≤ 1000000000) = true
  exact decide_eq_true ⟨h.2.2.2.1, h.2.2.2.2⟩
def isBl (b : Bool) : FR → Bool
  | .ret (.fz, .bl c) [] => c == b
  | _ => false
theorem isBl_eq {b : Bool} {r : FR} (h : isBl b r = true) : r = .ret (.fz, .bl b) [] := by
  unfold isBl at h
  split at h
  · rw [eq_of_beq h]
  · cases h
section
variable {Γ : Nat → Fn}
def G191 (F : Fn) : Prop := ∀ d, Seen d → F [(.fz, d)] = .ret (.fz, .bl (goB d)) []
def T54b (F : Fn) : Prop := ∀ a b : Nm, nameS a = true → nameS b = true → a ≠ b → F [(.fz, .str a), (.fz, .str b)] = .ret (.fz, .bl true) []
theorem go_191 (h54 : T54b (Γ 54)) (hb : bads.all (fun d => isBl (goB d) (runF 1 [] (mb_191 Γ) [(.fz, d)])) = true) : G191 (runF 1 [] (mb_191 Γ)) := fun d hd => by
  rcases hd with ⟨⟨a, b, c⟩, ok, rfl⟩ | hd
  · rw [go_ok ok]
    obtain ⟨h1, h2, h3, h4, h5⟩ := ok
    simp only at h1 h2 h3 h4 h5
    have it : fIsi .tuple (debtE (a, b, c)) = some (.fz, .bl true) := rfl
    have ln : fLen [debtE (a, b, c)] = some (.fz, .int 3) := rfl
    have i0 : fIx (debtE (a, b, c)) (.int 0) = some (.fz, .str a) := rfl
    have i1 : fIx (debtE (a, b, c)) (.int 1) = some (.fz, .str b) := rfl
    have i2 : fIx (debtE (a, b, c)) (.int 2) = some (.fz, .int c) := rfl
    have ii : fIsi .int (.int c) = some (.fz, .bl true) := rfl
    have ib : fIsi .bool (.int c) = some (.fz, .bl false) := rfl
    have gt : fGt (.int c) (.int 0) = some (.fz, .bl true) := by
      show some ((.fz, .bl (decide (0 < c))) : KD) = _
      rw [decide_eq_true (by omega)]
    have cv : ∀ S, callsV (Γ 54) [.str a, .str b] S = .ok (.fz, .bl true) S := fun S => callsV_of (ds := [.str a, .str b]) (h54 a b h1 h2 h3) S
    refine FnP.eq (runF_wp (by rfl) ?_)
    simp [mb_191, it, ln, i0, i1, i2, ii, ib, gt, cv, nei, outsOf, Kd.isF, -Prod.exists, -Prod.forall]
  · exact isBl_eq (List.all_eq_true.mp hb d hd)
def G192 (F : Fn) : Prop := (∀ ds : List D, (∀ d ∈ ds, Seen d) → ds.length ≤ 1000 → F [(.fz, .lst ds)] = .ret (.fz, .bl (decide (ds.length ≤ 200) && ds.all goB)) []) ∧ ∀ d, fIsi .list d = some (.fz, .bl false) → F [(.fz, d)] = .ret (.fz, .bl false) []
theorem go_192 (h : G191 (Γ 191)) : G192 (runF 2 [] (mb_192 Γ)) := by
  refine ⟨fun ds hd hl => ?_, fun d hd => ?_⟩
  · refine FnP.eq (runF_wp (by rfl) ?_)
    have it : fIsi .list (.lst ds) = some (.fz, .bl true) := rfl
    have ln : fLen [.lst ds] = some (.fz, .int ds.length) := rfl
    obtain ⟨ys, y1, y2⟩ := all_ex (it := itSeq (eVar 0)) (e := eCall (Γ 191) [.v (eVar 1)]) (v := 1) (S := [some (.fz, .lst ds), none]) (ds := ds) goB rfl rfl (by simp) (by unfold sizeMax; omega) (fun d hx => ⟨.fz, by
      have cv : ∀ S, callsV (Γ 191) [d] S = .ok (.fz, .bl (goB d)) S := fun S => callsV_of (ds := [d]) (h d (hd d hx)) S
      simp [cv]⟩)
    by_cases q : ds.length ≤ 200
    · have q' : (ds.length : Int) ≤ 200 := by omega
      have le : fLe (.int ds.length) (.int 200) = some (.fz, .bl true) := by
        show some ((.fz, .bl (decide ((ds.length : Int) ≤ 200))) : KD) = _
        rw [decide_eq_true q']
      simp [mb_192, it, ln, le, y1, y2, q, outsOf, Kd.isF, -Prod.exists, -Prod.forall]
    · have q' : ¬ (ds.length : Int) ≤ 200 := by omega
      have le : fLe (.int ds.length) (.int 200) = some (.fz, .bl false) := by
        show some ((.fz, .bl (decide ((ds.length : Int) ≤ 200))) : KD) = _
        rw [decide_eq_false q']
      simp [mb_192, it, ln, le, q, outsOf, Kd.isF, -Prod.exists, -Prod.forall]
  · refine FnP.eq (runF_wp (by rfl) ?_)
    simp [mb_192, hd, outsOf, Kd.isF, -Prod.exists, -Prod.forall]
/-- things that are refused -/
def Odd (d : D) : Prop := (∃ ds : List D, d = .lst ds ∧ (∀ x ∈ ds, Seen x) ∧ ds.length ≤ 1000 ∧ (200 < ds.length ∨ ds.all goB = false ∨ ds.all owB = false)) ∨ fIsi .list d = some (.fz, .bl false)
def G193 (F : Fn) : Prop := (∀ ds : List Debt, (∀ d ∈ ds, debtOk d) → ds.length ≤ 200 → F [(.fz, .lst (ds.map debtE))] = .ret (.fz, .non) []) ∧ ∀ d, Odd d → F [(.fz, d)] = .exc ⟨17, .non⟩ []
theorem exc_wp {n : Nat} {body : St} {as : List KD} {x : Xc} {S : List Slot} (hp : pinned [] 0 as = true) (h : body (as.map some ++ List.replicate (n - as.length) none) = .exc x S) (ho : outsOf as S = some []) : runF n [] body as = .exc x [] := by
  rw [runF_eq, if_pos hp, h]
  simp only [ho]
theorem seen_ow {d : D} (h : Seen d) (g : goB d = true) : ∃ a b c, d = .tup [.str a, .str b, .int c] := by
  unfold goB at g
  split at g
  · exact ⟨_, _, _, rfl⟩
  · cases g
theorem need_193 (h0 : W0 (Γ 0)) (h : G192 (Γ 192)) : G193 (runF 2 [] (mb_193 Γ)) := by
  have within : ∀ ds : List D, (∀ x ∈ ds, Seen x) → ds.length ≤ 1000 → ds.all goB = true → ∃ ys, eLc (itSeq (eVar 0)) (.nm 1) [1] tTrue (eCall (Γ 0) [.v (eOp fIx (eVar 1) (eCon (.int 2))), .v (eCon (.int 1)), .v (eCon (.int 1000000000))]) [some (.fz, .lst ds), none] = .ok (.li .fz, .lst ys) [some (.fz, .lst ds), none] ∧ fAllB [.lst ys] = some (.fz, .bl (ds.all owB)) := fun ds hd hl hg =>
    all_ex (it := itSeq (eVar 0)) (v := 1) (S := [some (.fz, .lst ds), none]) (ds := ds) owB rfl rfl (by simp) (by unfold sizeMax; omega) (fun d hx => ⟨.fz, by
      obtain ⟨a, b, c, rfl⟩ := seen_ow (hd d hx) (List.all_eq_true.mp hg d hx)
      have i2 : fIx (.tup [.str a, .str b, .int c]) (.int 2) = some (.fz, .int c) := rfl
      have e : withinB (.int c) 1 1000000000 = owB (.tup [.str a, .str b, .int c]) := by
        show (decide (1 ≤ c) && decide (c ≤ 1000000000)) = decide (1 ≤ c ∧ c ≤ 1000000000)
        rw [Bool.decide_and]
      simp [i2, h0.cv, e]⟩)
  refine ⟨fun ds hd hl => ?_, fun d hd => ?_⟩
  · have sn : ∀ x ∈ ds.map debtE, Seen x := fun x hx => by
      obtain ⟨q, hq, rfl⟩ := List.mem_map.mp hx
      exact .inl ⟨q, hd q hq, rfl⟩
    have ag : (ds.map debtE).all goB = true := by
      rw [List.all_eq_true]
      intro x hx
      obtain ⟨q, hq, rfl⟩ := List.mem_map.mp hx
      exact go_ok (hd q hq)
    have ao : (ds.map debtE).all owB = true := by
      rw [List.all_eq_true]
      intro x hx
      obtain ⟨q, hq, rfl⟩ := List.mem_map.mp hx
      exact ow_ok (hd q hq)
    have e1 := h.1 (ds.map debtE) sn (by simp; omega)
    rw [ag, decide_eq_true (by simp; omega : (ds.map debtE).length ≤ 200)] at e1
    have cv : ∀ S, callsV (Γ 192) [.lst (ds.map debtE)] S = .ok (.fz, .bl true) S := fun S => callsV_of (ds := [.lst (ds.map debtE)]) e1 S
    obtain ⟨ys, y1, y2⟩ := within (ds.map debtE) sn (by simp; omega) ag
    rw [ao] at y2
    refine FnP.eq (runF_wp (by rfl) ?_)
    simp [mb_193, cv, y1, y2, outsOf, Kd.isF, -Prod.exists, -Prod.forall]
  · rcases hd with ⟨ds, rfl, sn, hl, hw⟩ | hd
    · have e1 := h.1 ds sn hl
      have cv : ∀ S, callsV (Γ 192) [.lst ds] S = .ok (.fz, .bl (decide (ds.length ≤ 200) && ds.all goB)) S := fun S => callsV_of (ds := [.lst ds]) e1 S
      by_cases q : (decide (ds.length ≤ 200) && ds.all goB) = true
      · rw [q] at cv
        simp only [Bool.and_eq_true, decide_eq_true_eq] at q
        have ow : ds.all owB = false := by
          rcases hw with z | z | z
          · omega
          · rw [q.2] at z; cases z
          · exact z
        obtain ⟨ys, y1, y2⟩ := within ds sn hl q.2
        rw [ow] at y2
        refine exc_wp rfl (S := [some (.fz, .lst ds), none]) ?_ rfl
        simp [mb_193, cv, y1, y2, sRaise, -Prod.exists, -Prod.forall]
      · rw [eq_false_of_ne_true q] at cv
        refine exc_wp rfl (S := [some (.fz, .lst ds), none]) ?_ rfl
        simp [mb_193, cv, sRaise, -Prod.exists, -Prod.forall]
    · have cv : ∀ S, callsV (Γ 192) [d] S = .ok (.fz, .bl false) S := fun S => callsV_of (ds := [d]) (h.2 d hd) S
      refine exc_wp rfl (S := [some (.fz, d), none]) ?_ rfl
      simp [mb_193, cv, sRaise, -Prod.exists, -Prod.forall]
theorem callsV_exc {F : Fn} {ds : List D} {x : Xc} (h : F (ds.map fun d => (.fz, d)) = .exc x []) (S : List Slot) : callsV F ds S = .exc x S := by unfold callsV; rw [h]; rfl
def X1 (F : Fn) : Prop := ∀ d, Odd d → F [(.fz, d)] = .exc ⟨17, .non⟩ []
def X2 (F : Fn) : Prop := ∀ d e, Odd d → F [(.fz, d), (.fz, e)] = .exc ⟨17, .non⟩ []
theorem X1.cv {F : Fn} (h : X1 F) {d : D} (hd : Odd d) (S : List Slot) : callsV F [d] S = .exc ⟨17, .non⟩ S := callsV_exc (ds := [d]) (h d hd) S
theorem X2.cv {F : Fn} (h : X2 F) {d : D} (e : D) (hd : Odd d) (S : List Slot) : callsV F [d, e] S = .exc ⟨17, .non⟩ S := callsV_exc (ds := [d, e]) (h d e hd) S
end
end LW
namespace LW
open TB
def kindB (d : D) : Bool := match d with
  | .str s => decide (s = []) || nameS s
  | _ => false
def twoB (d : D) : Bool := match d with
  | .str s => decide (s = tCarried ∨ s = tGiven)
  | _ => false
def lim2 (a c : D) : Bool := kindB a && withinB c 0 1000000
def ter2 (a c : D) : Bool := withinB a 1 1000000 && twoB c
def limB (d : D) : Bool := match d with
  | .tup [a, c] => lim2 a c
  | _ => false
def terB (d : D) : Bool := match d with
  | .tup [a, c] => ter2 a c
  | _ => false
def hdD (d : D) : D := match d with
  | .tup (x :: _) => x
  | _ => .non
def limsB (d : D) : Bool := match d with
  | .tup ls => decide (ls.length ≤ 4) && ls.all limB
  | _ => false
def tersB (d : D) : Bool := match d with
  | .tup ls => decide (ls.length ≤ 6) && ls.all terB
  | _ => false
def riseH (d : D) : Bool := match d with
  | .tup ls => riseB (ls.map hdD)
  | _ => false
def shop3 (k l t : D) : Bool := bookB k && (limsB l && (tersB t && (riseH l && riseH t)))
def shopB (d : D) : Bool := match d with
  | .tup [k, l, t] => shop3 k l t
  | _ => false
theorem not_three {xs : List D} (h : ∀ a c e, xs ≠ [a, c, e]) : xs.length ≠ 3 ∧ shopB (.tup xs) = false := by
  refine ⟨fun e => ?_, ?_⟩
  · match xs, e with
    | [a, c, d], _ => exact h a c d rfl
  · unfold shopB; split
    · rename_i a c d e; cases e; exact absurd rfl (h a c d)
    · rfl
theorem eqS (s t : Nm) : fEq (.str s) (.str t) = some (.fz, .bl (decide (s = t))) := by
  show (if eqOk (.str s) (.str t) = true then kz (.bl (D.eqv (.str s) (.str t))) else none) = _
  rw [if_pos (by simp [eqOk, D.flat]), eqv_str]
  rfl
/-- what is looked at by the small ones, of anything good -/
def W0g (b : Nat) (F : Fn) : Prop := ∀ (d : D) (n : Nat) (lo hi : Int), good b n d → F [(.fz, d), (.fz, .int lo), (.fz, .int hi)] = .ret (.fz, .bl (withinB d lo hi)) []
def P1g (b : Nat) (F : Fn) (p : D → Bool) : Prop := ∀ (d : D) (n : Nat), n ≤ 50 → good b n d → F [(.fz, d)] = .ret (.fz, .bl (p d)) []
theorem W0g.cv {b : Nat} {F : Fn} (h : W0g b F) {d : D} {n : Nat} (g : good b n d) (lo hi : Int) (S : List Slot) : callsV F [d, .int lo, .int hi] S = .ok (.fz, .bl (withinB d lo hi)) S := callsV_of (ds := [d, .int lo, .int hi]) (h d n lo hi g) S
theorem P1g.cv {b : Nat} {F : Fn} {p : D → Bool} (h : P1g b F p) {d : D} {n : Nat} (hn : n ≤ 50) (g : good b n d) (S : List Slot) : callsV F [d] S = .ok (.fz, .bl (p d)) S := callsV_of (ds := [d]) (h d n hn g) S
theorem len_tup (xs : List D) : fLen [.tup xs] = some (.fz, .int xs.length) := rfl
section
end
end LW
namespace LW
open TB
def twoN (a c : D) : Bool := match a, c with
  | .str s, .str t => nameS s && (nameS t && !(s == t))
  | _, _ => false
def posB (d : D) : Bool := match d with
  | .int c => decide (0 < c)
  | _ => false
theorem goB_three (a c e : D) : goB (.tup [a, c, e]) = (twoN a c && posB e) := by
  cases a <;> cases c <;> cases e <;> simp [goB, twoN, posB, Bool.and_assoc]
theorem goB_other {xs : List D} (h : ∀ a c e, xs ≠ [a, c, e]) : goB (.tup xs) = false := by
  unfold goB; split
  · rename_i a c e q; cases q; exact absurd rfl (h _ _ _)
  · rfl
/-- goings, of anything -/
def gosB (d : D) : Bool := match d with
  | .lst ds => decide (ds.length ≤ 200) && ds.all goB
  | _ => false
theorem tup_or3 {b n : Nat} {d : D} (h : good b n d) : (∃ xs n', d = .tup xs ∧ n = n' + 1 ∧ xs.length ≤ b ∧ ∀ x ∈ xs, good b n' x) ∨ (fIsi .tuple d = some (.fz, .bl false) ∧ goB d = false) := by
  refine good_elim h ?_ ?_ ?_ ?_ ?_ ?_ <;> intros <;> first | exact .inr ⟨rfl, rfl⟩ | skip
  exact .inl ⟨_, _, rfl, by assumption, by assumption, by assumption⟩
theorem lst_or3 {b n : Nat} {d : D} (h : good b n d) : (∃ xs n', d = .lst xs ∧ n = n' + 1 ∧ xs.length ≤ b ∧ ∀ x ∈ xs, good b n' x) ∨ (fIsi .list d = some (.fz, .bl false) ∧ gosB d = false) := by
  refine good_elim h ?_ ?_ ?_ ?_ ?_ ?_ <;> intros <;> first | exact .inr ⟨rfl, rfl⟩ | skip
  exact .inl ⟨_, _, rfl, by assumption, by assumption, by assumption⟩
theorem pos_or {b n : Nat} {d : D} (h : good b n d) : (posB d = false ∧ (fIsi .int d = some (.fz, .bl false) ∨ (fIsi .int d = some (.fz, .bl true) ∧ fIsi .bool d = some (.fz, .bl true)))) ∨ ∃ i, d = .int i := by
  refine good_elim h ?_ ?_ ?_ ?_ ?_ ?_ <;> intros <;> first | exact .inl ⟨rfl, .inl rfl⟩ | exact .inl ⟨rfl, .inr ⟨rfl, rfl⟩⟩ | exact .inr ⟨_, rfl⟩
def T54g (b : Nat) (F : Fn) : Prop := ∀ (a c : D) (n : Nat), n ≤ 50 → good b n a → good b n c → F [(.fz, a), (.fz, c)] = .ret (.fz, .bl (twoN a c)) []
theorem T54g.cv {b : Nat} {F : Fn} (h : T54g b F) {a c : D} {n : Nat} (hn : n ≤ 50) (ga : good b n a) (gc : good b n c) (S : List Slot) : callsV F [a, c] S = .ok (.fz, .bl (twoN a c)) S := callsV_of (ds := [a, c]) (h a c n hn ga gc) S
section
variable {Γ : Nat → Fn} {b n : Nat} {d : D}
theorem two_54g (h1 : P1g b (Γ 1) nameB) : T54g b (runF 2 [] (mb_54 Γ)) := fun a c n hn ga gc => by
  refine FnP.eq (runF_wp (by rfl) ?_)
  have c1 := h1.cv hn ga
  have c2 := h1.cv hn gc
  have na : ∀ d, nameB d = true → ∃ s, d = .str s ∧ nameS s = true := fun d h => by cases d <;> first | exact ⟨_, rfl, h⟩ | cases h
  cases q1 : nameB a with
  | false =>
    rw [q1] at c1
    have : twoN a c = false := by cases a <;> cases c <;> first | rfl | (simp [twoN]; intro h; rw [show nameB (.str _) = nameS _ from rfl] at q1; rw [q1] at h; cases h)
    simp [mb_54, c1, this, outsOf, Kd.isF, -Prod.exists, -Prod.forall]
  | true =>
    rw [q1] at c1
    obtain ⟨s, rfl, ns⟩ := na a q1
    cases q2 : nameB c with
    | false =>
      rw [q2] at c2
      have : twoN (.str s) c = false := by cases c <;> first | rfl | (simp [twoN]; intro _ h; rw [show nameB (.str _) = nameS _ from rfl] at q2; rw [q2] at h; cases h)
      simp [mb_54, c1, c2, this, outsOf, Kd.isF, -Prod.exists, -Prod.forall]
    | true =>
      rw [q2] at c2
      obtain ⟨t, rfl, nt⟩ := na c q2
      have ne : fNe (.str s) (.str t) = some (.fz, .bl (!(s == t))) := by
        show (if eqOk (.str s) (.str t) = true then kz (.bl (!D.eqv (.str s) (.str t))) else none) = _
        rw [if_pos (by simp [eqOk, D.flat])]
        rfl
      simp [mb_54, c1, c2, ne, twoN, ns, nt, outsOf, Kd.isF, -Prod.exists, -Prod.forall]
theorem go_191g (h54 : T54g b (Γ 54)) : P1g b (runF 1 [] (mb_191 Γ)) goB := fun d n hn h => by
  refine FnP.eq (runF_wp (by rfl) ?_)
  rcases tup_or3 h with ⟨xs, n', rfl, rfl, hl, hx⟩ | ⟨s1, s2⟩
  case inr => simp [mb_191, s1, s2, outsOf, Kd.isF, -Prod.exists, -Prod.forall]
  by_cases q : ∃ a c e, xs = [a, c, e]
  · obtain ⟨a, c, e, rfl⟩ := q
    have ga : good b n' a := hx a (by simp)
    have gc : good b n' c := hx c (by simp)
    have ge : good b n' e := hx e (by simp)
    have c5 := h54.cv (by omega) ga gc
    have i2 : fIx (.tup [a, c, e]) (.int 2) = some (.fz, e) := rfl
    rw [goB_three]
    cases q5 : twoN a c with
    | false => rw [q5] at c5; simp [mb_191, nei, isi_t', len_tup, ix0, ix1, c5, outsOf, Kd.isF, -Prod.exists, -Prod.forall]
    | true =>
      rw [q5] at c5
      rcases pos_or ge with ⟨e0, e1 | ⟨e1, e2⟩⟩ | ⟨i, rfl⟩
      · simp [mb_191, nei, isi_t', len_tup, ix0, ix1, i2, c5, e0, e1, outsOf, Kd.isF, -Prod.exists, -Prod.forall]
      · simp [mb_191, nei, isi_t', len_tup, ix0, ix1, i2, c5, e0, e1, e2, outsOf, Kd.isF, -Prod.exists, -Prod.forall]
      · simp [mb_191, nei, isi_t', len_tup, ix0, ix1, i2, c5, fIsi, D.isTy, kz, fGt, posB, outsOf, Kd.isF, -Prod.exists, -Prod.forall]
  · have q' : ∀ a c e, xs ≠ [a, c, e] := fun a c e h => q ⟨a, c, e, h⟩
    have q2 := goB_other q'
    have q1 := (not_three (xs := xs) q').1
    have q1 : ¬ (xs.length : Int) = 3 := by omega
    simp [mb_191, nei, isi_t', len_tup, q1, q2, outsOf, Kd.isF, -Prod.exists, -Prod.forall]
theorem gos_192g (h : P1g b (Γ 191) goB) (hb : b ≤ 1000) : P1g b (runF 2 [] (mb_192 Γ)) gosB := fun d n hn hg => by
  refine FnP.eq (runF_wp (by rfl) ?_)
  rcases lst_or3 hg with ⟨ds, n', rfl, rfl, hl, hx⟩ | ⟨s1, s2⟩
  case inr => simp [mb_192, s1, s2, outsOf, Kd.isF, -Prod.exists, -Prod.forall]
  have it : fIsi .list (.lst ds) = some (.fz, .bl true) := rfl
  have ln : fLen [.lst ds] = some (.fz, .int ds.length) := rfl
  obtain ⟨ys, y1, y2⟩ := all_ex (it := itSeq (eVar 0)) (e := eCall (Γ 191) [.v (eVar 1)]) (v := 1) (S := [some (.fz, .lst ds), none]) (ds := ds) goB rfl rfl (by simp) (by unfold sizeMax; omega) (fun d hd => ⟨.fz, by
    have cv := h.cv (by omega) (hx d hd)
    simp [cv]⟩)
  have gb : gosB (.lst ds) = (decide (ds.length ≤ 200) && ds.all goB) := rfl
  by_cases q : ds.length ≤ 200
  · have q' : (ds.length : Int) ≤ 200 := by omega
    have le : fLe (.int ds.length) (.int 200) = some (.fz, .bl true) := by
      show some ((.fz, .bl (decide ((ds.length : Int) ≤ 200))) : KD) = _
      rw [decide_eq_true q']
    simp [mb_192, it, ln, le, y1, y2, q, gb, outsOf, Kd.isF, -Prod.exists, -Prod.forall]
  · have q' : ¬ (ds.length : Int) ≤ 200 := by omega
    have le : fLe (.int ds.length) (.int 200) = some (.fz, .bl false) := by
      show some ((.fz, .bl (decide ((ds.length : Int) ≤ 200))) : KD) = _
      rw [decide_eq_false q']
    simp [mb_192, it, ln, le, q, gb, outsOf, Kd.isF, -Prod.exists, -Prod.forall]
end
end LW
namespace LW
open TB
section
variable {Γ : Nat → Fn} {b n : Nat} {d : D}
def intB : D → Bool
  | .int _ => true
  | _ => false
def I170 (b : Nat) (F : Fn) : Prop := ∀ (d : D) (n : Nat), n ≤ 50 → good b n d → F [(.fz, d)] = .ret (.fz, .bl (intB d)) []
theorem I170.cv {b : Nat} {F : Fn} (h : I170 b F) {d : D} {n : Nat} (hn : n ≤ 50) (g : good b n d) (S : List Slot) : callsV F [d] S = .ok (.fz, .bl (intB d)) S := callsV_of (ds := [d]) (h d n hn g) S
theorem whole_170 : I170 b (runF 1 [] (mb_170 Γ)) := fun d n hn h => by
  refine FnP.eq (runF_wp (by rfl) ?_)
  refine good_elim h ?_ ?_ ?_ ?_ ?_ ?_ <;> intros <;> simp [mb_170, fIsi, D.isTy, kz, outsOf, Kd.isF, intB]
end
end LW
namespace LW
open TB
section
end
end LW
namespace LW
open TB
section
variable {Γ : Nat → Fn} {B : Nat} {sh : Shop} {m : M}
def S60 (F : Fn) : Prop := ∀ (c : Int) (ps : List Nm), 1 ≤ ps.length → ps.length ≤ 1000 → F [(.fz, .int c), (.fz, psV ps)] = .ret (.fz, ptD (parts c ps)) []
theorem S60.cv {F : Fn} (h : S60 F) (c : Int) {ps : List Nm} (h1 : 1 ≤ ps.length) (h2 : ps.length ≤ 1000) (S : List Slot) : callsV F [.int c, psV ps] S = .ok (.fz, ptD (parts c ps)) S := callsV_of (ds := [.int c, psV ps]) (h c ps h1 h2) S
def S72 (sh : Shop) (F : Fn) : Prop := ∀ (m : M) (day : Int) (kind : Nm) (pt : List (Nm × Int)), pt.length ≤ 1000 → F [(.fz, cD sh m), (.fz, .int day), (.fz, .str kind), (.fz, ptD pt)] = .ret (.fz, .str (m.bar sh day kind pt)) []
theorem S72.cv {F : Fn} (h : S72 sh F) (m : M) (day : Int) (kind : Nm) {pt : List (Nm × Int)} (hl : pt.length ≤ 1000) (S : List Slot) : callsV F [cD sh m, .int day, .str kind, ptD pt] S = .ok (.fz, .str (m.bar sh day kind pt)) S := callsV_of (ds := [cD sh m, .int day, .str kind, ptD pt]) (h m day kind pt hl) S
end
end LW
namespace TB
theorem make_ap (c : Nat) (F : Fn) (es : List E) (S : List Slot) : eMake c F (es.map Ar.v) S = (eAll es S).bind fun ds S1 => match F ((.ob [], .ob c []) :: ds.map fun d => (.fz, d)) with
    | .ret (_, .non) [o] => .ok o S1
    | _ => .bad := by
  show (arEv (es.map Ar.v) S).bind _ = _
  rw [arEv_vs]
  cases eAll es S with
  | exc x S1 => rfl
  | bad => rfl
  | ok ds S1 =>
    show (match arIn (ds.map AV.v) S1 with
      | none => R.bad
      | some (ks, S1) => match F ((.ob [], .ob c []) :: ks) with
        | .ret (_, .non) (o :: os) => (match arOut (ds.map AV.v) os S1 with | some S2 => .ok o S2 | none => .bad)
        | _ => .bad) = _
    rw [arIn_vs]
    show (match F ((.ob [], .ob c []) :: ds.map fun d => (.fz, d)) with
        | .ret (_, .non) (o :: os) => (match arOut (ds.map AV.v) os S1 with | some S2 => R.ok o S2 | none => .bad)
        | _ => .bad) = (match F ((.ob [], .ob c []) :: ds.map fun d => (.fz, d)) with
    | .ret (_, .non) [o] => .ok o S1
    | _ => .bad)
    cases F ((.ob [], .ob c []) :: ds.map fun d => (.fz, d)) with
    | bad => rfl
    | exc x os => rfl
    | ret r os =>
      obtain ⟨k, d⟩ := r
      cases os with
      | nil => cases d <;> rfl
      | cons o os =>
        cases d <;> try (cases os <;> rfl)
        show (match arOut (ds.map AV.v) os S1 with | some S2 => R.ok o S2 | none => .bad) = _
        rw [arOut_v2]; cases os <;> rfl
@[simp] theorem mk2 (c : Nat) (F : Fn) (a b : E) (S : List Slot) : eMake c F [.v a, .v b] S = (eAll [a, b] S).bind fun ds S1 => match F ((.ob [], .ob c []) :: ds.map fun d => (.fz, d)) with
    | .ret (_, .non) [o] => .ok o S1
    | _ => .bad := make_ap c F [a, b] S
end TB
namespace LW
open TB
section
variable {Γ : Nat → Fn} {B : Nat} {sh : Shop} {m : M}
def Row.who? : Row → Option (Int × List Nm)
  | .bought _ n ps _ _ => some (n, ps)
  | _ => none
def buys0 (rows : List Row) : List (Int × List Nm) := (rows.filterMap Row.who?).foldl (fun m p => aset m p.1 p.2) []
def m0 (rows : List Row) : M := ⟨[], [], buys0 rows, [], [], [], 0, -1⟩
def nn (d : D) : D := match d with
  | .tup (_ :: _ :: c :: e :: _) => .tup [c, e]
  | _ => .non
end
end LW
namespace LW
open TB
section
end
end LW
namespace LW
open TB
section
variable (m : M)
@[simp] theorem lg_1 : fGet (lD m) (.str [115, 117, 109, 115]) = some (.fz, .dic (encA D.str accV m.cnt)) := rfl
@[simp] theorem lg_2 : fGet (lD m) (.str [100, 101, 98, 116, 115]) = some (.fz, .dit (encA k2 D.int m.deb)) := rfl
@[simp] theorem lg_3 : fGet (lD m) (.str [115, 112, 101, 110, 116]) = some (.fz, .dit (encA kd2 splV m.spl)) := rfl
@[simp] theorem lg_5 : fGet (lD m) (.str [98, 117, 121, 101, 114, 115]) = some (.fz, .dic (encA D.int psV m.buy)) := rfl
@[simp] theorem lg_6 : fGet (lD m) (.str [100, 97, 121]) = some (.fz, .int m.day) := rfl
@[simp] theorem lK_isF : Kd.isF lK = false := rfl
end
@[simp] theorem peekLI_ap (e : E) (S : List Slot) : ePeekLI e S = match e (S.map frz) with | .ok (.li .fz, .lst ds) _ => (if D.imms ds = true then .ok (.li .fz, .lst ds) S else .bad) | _ => .bad := rfl
theorem ixg {g : List Int} {w : Nat} (hg : w < g.length) : fIx (accV g) (.int w) = some (.fz, .int (g.getD w 0)) := by
  show ((normIx (g.map D.int).length w).bind fun n => (g.map D.int)[n]?.bind kz) = _
  rw [List.length_map, normIx_nat (by omega) (by omega)]
  simp [List.getD_eq_getElem?_getD, hg, kz]
@[simp] theorem slg_3 (g : List Int) : fSl (accV g) none (some 3) = some (.li .fz, accV (g.take 3)) := by
  have e : cutL (g.map D.int) none (some 3) = (g.take 3).map D.int := by
    unfold cutL ixS
    simp [List.map_take]
  show some ((Kd.li .fz, D.lst (cutL (g.map D.int) none (some 3))) : KD) = _
  rw [e]; rfl
@[simp] theorem slg_3' (g : List Int) : fSl (accV g) (some 3) none = some (.li .fz, accV (g.drop 3)) := by
  have e : cutL (g.map D.int) (some 3) none = (g.drop 3).map D.int := by
    unfold cutL ixS
    simp [List.map_drop]
    rcases Nat.le_total 3 g.length with q | q
    · rw [Nat.min_eq_left q, List.take_of_length_le (by simp)]
    · rw [Nat.min_eq_right q, List.drop_of_length_le (by simp), List.drop_of_length_le (by simpa using q)]; simp
  show some ((Kd.li .fz, D.lst (cutL (g.map D.int) (some 3) none)) : KD) = _
  rw [e]; rfl
@[simp] theorem sum_g (g : List Int) : fSum [accV g] = some (.fz, .int g.sum) := sum_l g
@[simp] theorem max_2 (i j : Int) : fMax2 [.int i, .int j] = some (.fz, .int (if j > i then j else i)) := rfl
section
variable {Γ : Nat → Fn} {B : Nat} {sh : Shop} {m : M}
def S152 (F : Fn) : Prop := ∀ (m : M) (p : Nm), F [(.fz, lD m), (.fz, .str p)] = .ret (.fz, .int (m.has p)) []
theorem S152.cv {F : Fn} (h : S152 F) (m : M) (p : Nm) (S : List Slot) : callsV F [lD m, .str p] S = .ok (.fz, .int (m.has p)) S := callsV_of (ds := [lD m, .str p]) (h m p) S
end
end LW
namespace LW
open TB
theorem strsOf_map : ∀ ss : List Nm, strsOf (ss.map D.str) = some ss
  | [] => rfl
  | s :: ss => by rw [List.map_cons]; unfold strsOf; rw [strsOf_map ss]; rfl
section
variable {Γ : Nat → Fn} {B : Nat} {sh : Shop} {m : M}
@[simp] theorem ix34 (i j : Int) : fIx (.lst [.int i, .int j]) (.int 0) = some (.fz, .int i) := rfl
@[simp] theorem ix34' (i j : Int) : fIx (.lst [.int i, .int j]) (.int 1) = some (.fz, .int j) := rfl
@[simp] theorem lst2' (a b : D) : fLst [a, b] = some (.li .fz, .lst [a, b]) := rfl
end
end LW
namespace LW
open TB
section
variable {Γ : Nat → Fn} {B : Nat} {sh : Shop} {m : M}
def S38 (F : Fn) : Prop := ∀ (b : List Rule), (∀ r ∈ b, r.ok) → b.length ≤ 1000 → ∀ (day : Int) (p k : Nm) (c : Int), F [(.fz, bookE b), (.fz, .int day), (.fz, .str p), (.fz, .str k), (.fz, .int c)] = .ret (.fz, optN (firstR b day p k c)) []
theorem S38.cv {F : Fn} (h : S38 F) {b : List Rule} (hb : ∀ r ∈ b, r.ok) (hl : b.length ≤ 1000) (day : Int) (p k : Nm) (c : Int) (S : List Slot) : callsV F [bookE b, .int day, .str p, .str k, .int c] S = .ok (.fz, optN (firstR b day p k c)) S := callsV_of (ds := [bookE b, .int day, .str p, .str k, .int c]) (h b hb hl day p k c) S
def S39 (F : Fn) : Prop := ∀ (b : List Rule), (∀ r ∈ b, r.ok) → b.length ≤ 1000 → ∀ (day : Int) (p k : Nm) (c : Int), F [(.fz, bookE b), (.fz, .int day), (.fz, .str p), (.fz, .str k), (.fz, .int c)] = .ret (.fz, .bl (letsB b day p k c)) []
theorem S39.cv {F : Fn} (h : S39 F) {b : List Rule} (hb : ∀ r ∈ b, r.ok) (hl : b.length ≤ 1000) (day : Int) (p k : Nm) (c : Int) (S : List Slot) : callsV F [bookE b, .int day, .str p, .str k, .int c] S = .ok (.fz, .bl (letsB b day p k c)) S := callsV_of (ds := [bookE b, .int day, .str p, .str k, .int c]) (h b hb hl day p k c) S
end
end LW
namespace LW
open TB
/-- the law's sums of what was spent -/
def hitL (lim : Nm) (e : Int × Nm × Nm × Int) : Bool := decide (lim = [] ∨ lim = e.2.2.1)
def M.spentL (m : M) (day : Int) (p lim : Nm) : Int := ((((aget m.spl (day, p)).getD []).filter (hitL lim)).map fun e => e.2.2.2).sum
def Jv (m : M) : Prop := ∀ day p lim, m.spentL day p lim = m.spent day p lim
theorem aget_addS (s : List ((Int × Nm × Nm) × Int)) (k : Int × Nm × Nm) (x : Int) (k' : Int × Nm × Nm) : (aget (addS s k x) k').getD 0 = (aget s k').getD 0 + if k = k' then x else 0 := by
  unfold addS
  rw [aget_set]
  by_cases h : k = k'
  · subst h; simp
  · simp [h]
theorem Jv.buy1 {m : M} (h : Jv m) {day : Int} {kind : Nm} (hk : kind ≠ []) (pp : Nm × Int) : Jv (M.buy1 day kind m pp) := by
  intro d p lim
  have h0 := h d p lim
  show ((((aget (aset m.spl (day, pp.1) ((aget m.spl (day, pp.1)).getD [] ++ [(day, pp.1, kind, pp.2)])) (d, p)).getD []).filter (hitL lim)).map fun e => e.2.2.2).sum = (aget (addS (addS m.sp (day, pp.1, []) pp.2) (day, pp.1, kind) pp.2) (d, p, lim)).getD 0
  rw [aget_addS, aget_addS, aget_set]
  have h0 : ((((aget m.spl (d, p)).getD []).filter (hitL lim)).map fun e => e.2.2.2).sum = (aget m.sp (d, p, lim)).getD 0 := h0
  by_cases e : (day, pp.1) = (d, p)
  · rw [if_pos e]
    obtain ⟨e1, e2⟩ := Prod.mk.inj e
    subst e1; subst e2
    simp only [Option.getD_some, List.filter_append, List.map_append, List.sum_append, h0]
    by_cases q1 : lim = []
    · subst q1
      have : ¬ (kind = []) := hk
      simp [hitL, this, hk]
    · by_cases q2 : lim = kind
      · subst q2
        simp [hitL, q1, Ne.symm q1]
      · have q1' : ¬ [] = lim := fun q => q1 q.symm
        have q2' : ¬ kind = lim := fun q => q2 q.symm
        simp [hitL, q1, q2, q1', q2']
  · rw [if_neg e, h0]
    have e1 : ¬ (day, pp.1, ([] : Nm)) = (d, p, lim) := fun q => e (by cases q; rfl)
    have e2 : ¬ (day, pp.1, kind) = (d, p, lim) := fun q => e (by cases q; rfl)
    rw [if_neg e1, if_neg e2]; simp
theorem Jv.of {m m' : M} (h : Jv m) (e1 : m'.sp = m.sp) (e2 : m'.spl = m.spl) : Jv m' := by
  intro d p lim
  have := h d p lim
  unfold M.spentL M.spent at *
  rw [e1, e2]; exact this
theorem Jv.buyL {day : Int} {kind : Nm} (hk : kind ≠ []) : ∀ (pt : List (Nm × Int)) {m : M}, Jv m → Jv (pt.foldl (M.buy1 day kind) m)
  | [], m, h => h
  | p :: pt, m, h => Jv.buyL hk pt (h.buy1 hk p)
section
end
end LW
namespace LW
open TB
def dueB (day : Int) (m' : M) (t : Int × Nm) : M := if t.1 ≤ day ∧ t.2 = tGiven then m'.give else m'
theorem giveL_end (e : Nat) : ∀ (ks : List Nm) (m : M), ks.foldl (fun m p => m.bump p 6 (m.has p)) { m with ended := e } = { ks.foldl (fun m p => m.bump p 6 (m.has p)) m with ended := e }
  | [], m => rfl
  | k :: ks, m => giveL_end e ks (m.bump k 6 (m.has k))
theorem due_end (e : Nat) (day : Int) : ∀ (ts : List (Int × Nm)) (m : M), ts.foldl (dueB day) { m with ended := e } = { ts.foldl (dueB day) m with ended := e }
  | [], m => rfl
  | t :: ts, m => by
    rw [List.foldl_cons, List.foldl_cons]
    have : dueB day { m with ended := e } t = { dueB day m t with ended := e } := by
      unfold dueB
      split
      · exact giveL_end e (aks m.cnt) m
      · rfl
    rw [this]
    exact due_end e day ts _
theorem due_none {day : Int} : ∀ (ts : List (Int × Nm)) (m : M), (∀ t ∈ ts, day < t.1) → ts.foldl (dueB day) m = m
  | [], m, _ => rfl
  | t :: ts, m, h => by
    rw [List.foldl_cons]
    have : dueB day m t = m := by
      unfold dueB; rw [if_neg]; intro q; have := h t List.mem_cons_self; omega
    rw [this]
    exact due_none ts m fun s hs => h s (List.mem_cons_of_mem _ hs)
def ripe (day : Int) (t : Int × Nm) : Bool := decide (t.1 ≤ day)
theorem comeT_eq (day : Int) : ∀ (ts : List (Int × Nm)) (m : M), ts.Pairwise (fun a b => a.1 < b.1) → comeT day ts m = { ts.foldl (dueB day) m with ended := m.ended + (ts.filter (ripe day)).length }
  | [], m, _ => rfl
  | t :: ts, m, h => by
    obtain ⟨h1, h2⟩ := List.pairwise_cons.mp h
    have e : comeT day (t :: ts) m = if t.1 ≤ day then comeT day ts { (if t.2 = tGiven then m.give else m) with ended := m.ended + 1 } else m := rfl
    rw [e, List.foldl_cons, List.filter_cons]
    by_cases q : t.1 ≤ day
    · rw [if_pos q, comeT_eq day ts _ h2, due_end]
      have d : dueB day m t = if t.2 = tGiven then m.give else m := by
        unfold dueB
        by_cases g : t.2 = tGiven <;> simp [q, g]
      rw [d]
      have r : ripe day t = true := decide_eq_true q
      rw [r]
      simp only [if_true, List.length_cons]
      rw [show m.ended + 1 + (ts.filter (ripe day)).length = m.ended + ((ts.filter (ripe day)).length + 1) by omega]
    · rw [if_neg q]
      have r : ripe day t = false := decide_eq_false q
      have al : ∀ s ∈ ts, day < s.1 := fun s hs => by have := h1 s hs; omega
      have f0 : ts.filter (ripe day) = [] := List.filter_eq_nil_iff.mpr fun s hs => by
        have := al s hs
        simp [ripe]; omega
      have d : dueB day m t = m := by unfold dueB; rw [if_neg]; intro x; omega
      rw [d, due_none ts m al, r, f0]
      rfl
theorem ripe_pre (day : Int) : ∀ (ts : List (Int × Nm)), ts.Pairwise (fun a b => a.1 < b.1) → (∀ t ∈ ts.take (ts.filter (ripe day)).length, t.1 ≤ day) ∧ ∀ t ∈ ts.drop (ts.filter (ripe day)).length, day < t.1
  | [], _ => by simp
  | t :: ts, h => by
    obtain ⟨h1, h2⟩ := List.pairwise_cons.mp h
    rw [List.filter_cons]
    by_cases q : t.1 ≤ day
    · have r : ripe day t = true := decide_eq_true q
      obtain ⟨a, b⟩ := ripe_pre day ts h2
      rw [r]
      simp only [if_true, List.length_cons, List.take_succ_cons, List.drop_succ_cons]
      exact ⟨fun s hs => by rcases List.mem_cons.mp hs with rfl | hs; exact q; exact a s hs, b⟩
    · have r : ripe day t = false := decide_eq_false q
      have al : ∀ s ∈ ts, day < s.1 := fun s hs => by have := h1 s hs; omega
      have f0 : ts.filter (ripe day) = [] := List.filter_eq_nil_iff.mpr fun s hs => by
        have := al s hs
        simp [ripe]; omega
      rw [r, f0]
      simp only [Bool.false_eq_true, if_false, List.length_nil, List.take_zero, List.drop_zero]
      exact ⟨by simp, fun s hs => by rcases List.mem_cons.mp hs with rfl | hs; omega; exact al s hs⟩
/-- the terms that ended are those by the own day -/
def Te (sh : Shop) (m : M) : Prop := (∀ t ∈ sh.terms.take m.ended, t.1 ≤ m.day) ∧ ∀ t ∈ sh.terms.drop m.ended, m.day < t.1
theorem Te.come {sh : Shop} {m : M} (te : Te sh m) (hp : sh.terms.Pairwise (fun a b => a.1 < b.1)) (day : Int) : Te sh (m.come sh day) := by
  have hd := hp.sublist (List.drop_sublist m.ended sh.terms)
  obtain ⟨r1, r2⟩ := ripe_pre day (sh.terms.drop m.ended) hd
  have ee : (m.come sh day).ended = m.ended + ((sh.terms.drop m.ended).filter (ripe day)).length := by
    unfold M.come; rw [comeT_eq day _ m hd]
  have ed : (m.come sh day).day = if day > m.day then day else m.day := rfl
  unfold Te
  rw [ee, ed, List.take_add, ← List.drop_drop]
  refine ⟨fun t ht => ?_, fun t ht => ?_⟩
  · rcases List.mem_append.mp ht with h | h
    · have := te.1 t h; split <;> omega
    · have := r1 t h; split <;> omega
  · have a := r2 t ht
    have b := te.2 t (List.mem_of_mem_drop ht)
    split <;> omega
theorem Te.of {sh : Shop} {m m' : M} (h : Te sh m) (e1 : m'.ended = m.ended) (e2 : m'.day = m.day) : Te sh m' := by
  unfold Te; rw [e1, e2]; exact h
theorem buyL_ed (day : Int) (kind : Nm) : ∀ (pt : List (Nm × Int)) (m : M), (pt.foldl (M.buy1 day kind) m).ended = m.ended ∧ (pt.foldl (M.buy1 day kind) m).day = m.day
  | [], m => ⟨rfl, rfl⟩
  | k :: ks, m => buyL_ed day kind ks (M.buy1 day kind m k)
theorem giveL_sp : ∀ (ks : List Nm) (m : M), (ks.foldl (fun m p => m.bump p 6 (m.has p)) m).sp = m.sp ∧ (ks.foldl (fun m p => m.bump p 6 (m.has p)) m).spl = m.spl
  | [], m => ⟨rfl, rfl⟩
  | k :: ks, m => giveL_sp ks (m.bump k 6 (m.has k))
theorem comeT_sp (day : Int) : ∀ (ts : List (Int × Nm)) (m : M), (comeT day ts m).sp = m.sp ∧ (comeT day ts m).spl = m.spl
  | [], m => ⟨rfl, rfl⟩
  | t :: ts, m => by
    have e : comeT day (t :: ts) m = if t.1 ≤ day then comeT day ts { (if t.2 = tGiven then m.give else m) with ended := m.ended + 1 } else m := rfl
    rw [e]
    split
    · have := comeT_sp day ts { (if t.2 = tGiven then m.give else m) with ended := m.ended + 1 }
      rw [this.1, this.2]
      show (if t.2 = tGiven then m.give else m).sp = _ ∧ (if t.2 = tGiven then m.give else m).spl = _
      split
      · exact giveL_sp _ m
      · exact ⟨rfl, rfl⟩
    · exact ⟨rfl, rfl⟩
theorem Jv.come {m : M} (h : Jv m) (sh : Shop) (day : Int) : Jv (m.come sh day) := h.of (comeT_sp day _ m).1 (comeT_sp day _ m).2
structure Lv (sh : Shop) (m : M) : Prop where
  j : Jv m
  t : Te sh m
theorem name_ne {k : Nm} (h : nameS k = true) : k ≠ [] := by rintro rfl; simp [nameS] at h
theorem Lv.go {sh : Shop} (hp : sh.terms.Pairwise (fun a b => a.1 < b.1)) {m : M} (h : Lv sh m) {r : Row} (hr : r.ok) : Lv sh (m.go sh r).1 := by
  cases r with
  | wrong d n p q =>
    show Lv sh (m.wrong n p q).1
    unfold M.wrong
    split
    · exact h
    · exact ⟨h.j.of rfl rfl, h.t.of rfl rfl⟩
  | paid d p c => exact ⟨(h.j.come sh d).of rfl rfl, (h.t.come hp d).of rfl rfl⟩
  | back d p q c =>
    have a := h.j.come sh d
    have b := h.t.come hp d
    show Lv sh ((m.come sh d).back p q c).1
    unfold M.back
    split
    · exact ⟨a, b⟩
    · split
      · exact ⟨a, b⟩
      · exact ⟨a.of rfl rfl, b.of rfl rfl⟩
  | lent d p q c =>
    have a := h.j.come sh d
    have b := h.t.come hp d
    show Lv sh ((m.come sh d).lends p q c).1
    unfold M.lends
    split
    · exact ⟨a, b⟩
    · exact ⟨a.of rfl rfl, b.of rfl rfl⟩
  | bought d n ps k c =>
    have a := h.j.come sh d
    have b := h.t.come hp d
    show Lv sh ((m.come sh d).buys sh d n k c).1
    unfold M.buys
    split
    · have e := buyL_ed d k (parts c ((m.come sh d).who n)) (m.come sh d)
      exact ⟨(Jv.buyL (name_ne hr.2.2.2.2.1) _ a).of rfl rfl, b.of e.1 e.2⟩
    · exact ⟨a, b⟩
end LW
namespace LW
open TB
section
variable {Γ : Nat → Fn} {B : Nat} {sh : Shop} {m : M}
def S156 (B : Nat) (sh : Shop) (F : Fn) : Prop := ∀ (m : M), Iv B m → Jv m → ∀ (day : Int) (kind : Nm) (pt : List (Nm × Int)), pt.length ≤ 1000 → (∀ pp ∈ pt, nameS pp.1 = true) → F [(.fz, lD m), (.fz, sh.enc), (.fz, .int day), (.fz, .str kind), (.fz, ptD pt)] = .ret (.fz, .str (m.bar sh day kind pt)) []
theorem S156.cv {F : Fn} (h : S156 B sh F) (iv : Iv B m) (j : Jv m) (day : Int) (kind : Nm) {pt : List (Nm × Int)} (hl : pt.length ≤ 1000) (hn : ∀ pp ∈ pt, nameS pp.1 = true) (S : List Slot) : callsV F [lD m, sh.enc, .int day, .str kind, ptD pt] S = .ok (.fz, .str (m.bar sh day kind pt)) S := callsV_of (ds := [lD m, sh.enc, .int day, .str kind, ptD pt]) (h m iv j day kind pt hl hn) S
end
end LW
namespace LW
open TB
section
variable {Γ : Nat → Fn} {sh : Shop}
theorem eqvs_self {xs : List D} (h : ∀ x ∈ xs, Pl x) : D.eqvs xs xs = true := (eqvs_of (fun x hx => eqv_pl (h x hx)) xs h).mpr rfl
theorem ne_self {xs : List D} (h : ∀ x ∈ xs, Pl x) (hl : D.lays 59 xs = true) : fNe (.lst xs) (.lst xs) = some (.fz, .bl false) := by
  have l : (D.lst xs).lay 60 = true := hl
  have e : D.eqv (.lst xs) (.lst xs) = true := eqvs_self h
  unfold fNe eqOk
  rw [l, e]
  simp [kz]
end
end LW
namespace LW
open TB
theorem balE_pl (p : Nm × Int) : Pl (balE p) := by
  refine .tup _ fun x hx => ?_
  simp only [List.mem_cons, List.not_mem_nil, or_false] at hx
  rcases hx with rfl | rfl
  · exact .str _
  · exact .int _
theorem balE_lay {p : Nm × Int} (h : nameS p.1 = true) : (balE p).lay 59 = true := by
  have := name_lay h 58
  show D.lays 58 [.str p.1, .int p.2] = true
  simp only [D.lays, this, Bool.true_and, Bool.and_true]
  simp [D.lay]
theorem debtE_pl (d : Debt) : Pl (debtE d) := by
  refine .tup _ fun x hx => ?_
  simp only [List.mem_cons, List.not_mem_nil, or_false] at hx
  rcases hx with rfl | rfl | rfl
  · exact .str _
  · exact .str _
  · exact .int _
/-- the values' sum is the whole sum -/
theorem sum_filter (f : Nm → Int) (p : Nm → Bool) (h : ∀ k, p k = false → f k = 0) : ∀ ks : List Nm, ((ks.filter p).map f).sum = (ks.map f).sum
  | [] => rfl
  | k :: ks => by
    rw [List.filter_cons]
    cases q : p k with
    | true => simp [sum_filter f p h ks]
    | false => simp [sum_filter f p h ks, h k q]
theorem sum_perm {l l' : List Int} (h : l.Perm l') : l.sum = l'.sum := by
  induction h with
  | nil => rfl
  | cons x _ ih => simp [ih]
  | swap x y l => simp; omega
  | trans _ _ a b => exact a.trans b
theorem gv_self : ∀ {m : List (Nm × Int)}, (aks m).Nodup → (aks m).map (gv m) = m.map (·.2)
  | [], _ => rfl
  | p :: m, h => by
    have h : (p.1 :: aks m).Nodup := h
    obtain ⟨h1, h2⟩ := List.nodup_cons.mp h
    show gv (p :: m) p.1 :: (aks m).map (gv (p :: m)) = p.2 :: m.map (·.2)
    have e0 : gv (p :: m) p.1 = p.2 := by simp [gv, aget_cons]
    rw [e0, ← gv_self h2]
    congr 1
    refine List.map_congr_left fun k hk => ?_
    have ne : p.1 ≠ k := fun e => h1 (e ▸ hk)
    simp [gv, aget_cons, ne]
theorem balR_sum {n : Nat} {m : List (Nm × Int)} (h : SumOk n m) : ((balR m).map (·.2)).sum = tot m := by
  unfold balR
  rw [List.map_map]
  show (((sortT (aks m)).filter (nzB m)).map (gv m)).sum = _
  rw [sum_filter (gv m) (nzB m) (fun k hk => by
    unfold nzB at hk
    have := of_decide_eq_false hk
    exact Decidable.not_not.mp this), sum_perm ((sortT_perm (aks m)).map (gv m)), gv_self h.nd]
  rfl
theorem intsOf_vals (l : List (Nm × Int)) : intsOf (l.map fun p => D.int p.2) = some (l.map (·.2)) := by
  induction l with
  | nil => rfl
  | cons p l ih => simp [intsOf, ih]
section
end
end LW
namespace LW
/-- the numbers of a set -/
def bitsL (n m : Nat) : List Nat := (List.range n).filter fun k => m / 2 ^ k % 2 == 1
def chkBits (n m : Nat) : Bool := (bitsL n m).all fun k => decide (2 ^ k ≤ m) && (bitsL n (m - 2 ^ k) == (bitsL n m).filter fun j => j != k)
theorem chk_all : ((List.range 9).all fun n => (List.range (2 ^ n)).all fun m => chkBits n m && ((bitsL n m == []) == (m == 0)) && (bitsL n (2 ^ n - 1) == List.range n)) = true := by decide +kernel
theorem chk_at {n m : Nat} (hn : n ≤ 8) (hm : m < 2 ^ n) : chkBits n m = true ∧ (bitsL n m = [] ↔ m = 0) ∧ bitsL n (2 ^ n - 1) = List.range n := by
  have h := List.all_eq_true.mp (List.all_eq_true.mp chk_all n (List.mem_range.mpr (by omega))) m (List.mem_range.mpr hm)
  simp only [Bool.and_eq_true, beq_iff_eq] at h
  obtain ⟨⟨h1, h2⟩, h3⟩ := h
  refine ⟨h1, ⟨fun e => ?_, fun e => ?_⟩, h3⟩
  · rw [e] at h2; simpa using h2.symm
  · rw [e] at h2 ⊢; simpa using h2
theorem bits_del {n m k : Nat} (hn : n ≤ 8) (hm : m < 2 ^ n) (hk : k ∈ bitsL n m) : 2 ^ k ≤ m ∧ bitsL n (m - 2 ^ k) = (bitsL n m).filter fun j => j != k := by
  have h := List.all_eq_true.mp (chk_at hn hm).1 k hk
  simpa using h
theorem bits_nil {n m : Nat} (hn : n ≤ 8) (hm : m < 2 ^ n) : bitsL n m = [] ↔ m = 0 := (chk_at hn hm).2.1
theorem bits_full {n : Nat} (hn : n ≤ 8) : bitsL n (2 ^ n - 1) = List.range n := (chk_at hn (show 0 < 2 ^ n from Nat.two_pow_pos n)).2.2
theorem bits_lt {n m k : Nat} (h : k ∈ bitsL n m) : k < n := List.mem_range.mp (List.mem_filter.mp h).1
theorem bits_nodup (n m : Nat) : (bitsL n m).Nodup := List.nodup_range.filter _
def sumK (vs : List Int) (ks : List Nat) : Int := (ks.map fun k => vs.getD k 0).sum
theorem sumK_split (vs : List Int) (p : Nat → Bool) : ∀ ks : List Nat, sumK vs ks = sumK vs (ks.filter p) + sumK vs (ks.filter fun k => !p k)
  | [] => by simp [sumK]
  | k :: ks => by
    have ih := sumK_split vs p ks
    unfold sumK at *
    cases h : p k <;> simp [List.filter_cons, h] at * <;> omega
/-- the k-th taken out -/
theorem sumK_del (vs : List Int) {ks : List Nat} (nd : ks.Nodup) {k : Nat} (hk : k ∈ ks) : sumK vs ks = vs.getD k 0 + sumK vs (ks.filter fun j => j != k) := by
  have h := sumK_split vs (fun j => j == k) ks
  have e : ks.filter (fun j => j == k) = [k] := by
    induction ks with
    | nil => cases hk
    | cons a ks ih =>
      obtain ⟨n1, n2⟩ := List.nodup_cons.mp nd
      rcases List.mem_cons.mp hk with rfl | hk
      · rw [List.filter_cons]
        simp only [beq_self_eq_true, if_true]
        rw [List.filter_eq_nil_iff.mpr fun x hx => by simpa using fun (e : x = k) => n1 (e ▸ hx)]
      · have : (a == k) = false := by simpa using fun (e : a = k) => n1 (e ▸ hk)
        rw [List.filter_cons, this]
        simp only [Bool.false_eq_true, if_false]
        exact ih n2 hk (sumK_split vs _ ks)
  rw [e] at h
  rw [h]
  simp [sumK]
  rfl
/-- of so many classes: each comes to 0, none is empty -/
def Cls (vs : List Int) (ks : List Nat) (c : Nat → Nat) (N : Nat) : Prop := ∀ j, 1 ≤ j → j ≤ N → sumK vs (ks.filter fun k => c k == j) = 0 ∧ ∃ k ∈ ks, c k = j
theorem sum_cls (vs : List Int) (c : Nat → Nat) : ∀ (N : Nat) (ks : List Nat), (∀ k ∈ ks, 1 ≤ c k ∧ c k ≤ N) → (∀ j, 1 ≤ j → j ≤ N → sumK vs (ks.filter fun k => c k == j) = 0) → sumK vs ks = 0
  | 0, ks, h, _ => by
    cases ks with
    | nil => rfl
    | cons k ks => have := h k List.mem_cons_self; omega
  | N + 1, ks, h, hs => by
    rw [sumK_split vs (fun k => c k == N + 1) ks, hs (N + 1) (by omega) (Nat.le_refl _), Int.zero_add]
    refine sum_cls vs c N _ (fun k hk => ?_) fun j h1 h2 => ?_
    · obtain ⟨a, b⟩ := List.mem_filter.mp hk
      have := h k a
      simp at b
      omega
    · rw [List.filter_filter]
      have := hs j h1 (by omega)
      rw [← this]
      congr 1
      refine List.filter_congr fun k _ => ?_
      by_cases e : c k = j
      · have : c k ≠ N + 1 := by omega
        simp [e]; omega
      · simp [e]
theorem cls_del {vs : List Int} {ks : List Nat} {c : Nat → Nat} {N M k : Nat} (h : Cls vs ks c N) (hM : M ≤ N) (hk : c k = 0 ∨ M < c k) : Cls vs (ks.filter fun j => j != k) c M := fun j h1 h2 => by
  obtain ⟨a, x, hx, ex⟩ := h j h1 (by omega)
  refine ⟨?_, x, List.mem_filter.mpr ⟨hx, ?_⟩, ex⟩
  · rw [List.filter_filter, ← a]
    congr 1
    refine List.filter_congr fun i _ => ?_
    by_cases e : i = k
    · subst e
      have : c i ≠ j := by omega
      simp [this]
    · simp [e]
  · simp only [bne_iff_ne, ne_eq]
    intro e
    subst e
    omega
def ltP (a b : Int × Int) : Bool := decide (a.1 < b.1) || (a.1 == b.1 && decide (a.2 < b.2))
def bestP (x : Int × Int) (xs : List (Int × Int)) : Int × Int := xs.foldl (fun a y => if ltP a y = true then y else a) x
theorem bestP_ok : ∀ (xs : List (Int × Int)) (x : Int × Int), bestP x xs ∈ x :: xs ∧ ∀ y ∈ x :: xs, y.1 ≤ (bestP x xs).1
  | [], x => ⟨List.mem_cons_self, fun y hy => by simp at hy; subst hy; exact Int.le_refl _⟩
  | y :: xs, x => by
    show bestP (if ltP x y = true then y else x) xs ∈ _ ∧ ∀ z ∈ x :: y :: xs, z.1 ≤ (bestP (if ltP x y = true then y else x) xs).1
    obtain ⟨h1, h2⟩ := bestP_ok xs (if ltP x y = true then y else x)
    have g : x.1 ≤ (if ltP x y = true then y else x).1 ∧ y.1 ≤ (if ltP x y = true then y else x).1 := by
      by_cases q : ltP x y = true
      · rw [if_pos q]
        simp [ltP] at q
        omega
      · rw [if_neg q]
        simp [ltP] at q
        omega
    have h0 := h2 _ List.mem_cons_self
    refine ⟨?_, fun z hz => ?_⟩
    · rcases List.mem_cons.mp h1 with e | e
      · rw [e]; split <;> simp
      · exact List.mem_cons_of_mem _ (List.mem_cons_of_mem _ e)
    · rcases List.mem_cons.mp hz with rfl | hz
      · omega
      · rcases List.mem_cons.mp hz with rfl | hz
        · omega
        · exact h2 z (List.mem_cons_of_mem _ hz)
def wayL (T : List (Int × Int)) (m : Nat) (ks : List Nat) : List (Int × Int) := ks.map fun (k : Nat) => ((T.getD (m - 2 ^ k) (0, 0)).1, (k : Int))
def zOf (vs : List Int) (ks : List Nat) : Int := if sumK vs ks = 0 then 1 else 0
def entP (vs : List Int) (n : Nat) (T : List (Int × Int)) (m : Nat) : Int × Int := match wayL T m (bitsL n m) with
  | [] => (0, 0)
  | x :: xs => ((bestP x xs).1 + zOf vs (bitsL n m), (bestP x xs).2)
def tabP (vs : List Int) (n : Nat) : Nat → List (Int × Int)
  | 0 => [(0, 0)]
  | m + 1 => tabP vs n m ++ [entP vs n (tabP vs n m) (m + 1)]
def fE (vs : List Int) (n m : Nat) : Int × Int := (tabP vs n m).getD m (0, 0)
theorem tab_len (vs : List Int) (n : Nat) : ∀ m, (tabP vs n m).length = m + 1
  | 0 => rfl
  | m + 1 => by simp [tabP, tab_len vs n m]
theorem tab_get (vs : List Int) (n : Nat) {i : Nat} : ∀ {m : Nat}, i ≤ m → (tabP vs n m).getD i (0, 0) = fE vs n i
  | 0, h => by have : i = 0 := by omega
               subst this; rfl
  | m + 1, h => by
    by_cases e : i = m + 1
    · subst e; rfl
    · have l := tab_len vs n m
      have := tab_get vs n (m := m) (i := i) (by omega)
      rw [← this]
      show (tabP vs n m ++ [entP vs n (tabP vs n m) (m + 1)]).getD i (0, 0) = _
      simp only [List.getD_eq_getElem?_getD]
      rw [List.getElem?_append_left (by omega)]
theorem fE_step (vs : List Int) {n m : Nat} (hn : n ≤ 8) (hm : m < 2 ^ n) (h0 : m ≠ 0) : ∃ k ∈ bitsL n m, (fE vs n m).2 = (k : Int) ∧ (fE vs n m).1 = (fE vs n (m - 2 ^ k)).1 + zOf vs (bitsL n m) ∧ ∀ j ∈ bitsL n m, (fE vs n (m - 2 ^ j)).1 ≤ (fE vs n (m - 2 ^ k)).1 := by
  obtain ⟨m', rfl⟩ : ∃ m', m = m' + 1 := ⟨m - 1, by omega⟩
  have e : fE vs n (m' + 1) = entP vs n (tabP vs n m') (m' + 1) := by
    unfold fE
    show (tabP vs n m' ++ [entP vs n (tabP vs n m') (m' + 1)]).getD (m' + 1) (0, 0) = _
    simp only [List.getD_eq_getElem?_getD]
    rw [List.getElem?_append_right (by rw [tab_len]; omega), tab_len]
    simp
  have w : ∀ k ∈ bitsL n (m' + 1), (tabP vs n m').getD (m' + 1 - 2 ^ k) (0, 0) = fE vs n (m' + 1 - 2 ^ k) := fun k hk => tab_get vs n (by have := Nat.two_pow_pos k; omega)
  have ne : bitsL n (m' + 1) ≠ [] := fun q => h0 ((bits_nil hn hm).mp q)
  rw [e]
  unfold entP
  cases q : wayL (tabP vs n m') (m' + 1) (bitsL n (m' + 1)) with
  | nil => unfold wayL at q; exact absurd (List.map_eq_nil_iff.mp q) ne
  | cons x xs =>
    simp only
    obtain ⟨h1, h2⟩ := bestP_ok xs x
    rw [← q] at h1 h2
    unfold wayL at h1 h2
    obtain ⟨k, hk, ek⟩ := List.mem_map.mp h1
    refine ⟨k, hk, by rw [← ek], by rw [← ek, w k hk], fun j hj => ?_⟩
    have := h2 _ (List.mem_map_of_mem hj)
    rw [← ek, w j hj, w k hk] at this
    exact this
theorem fE_zero (vs : List Int) (n : Nat) : fE vs n 0 = (0, 0) := rfl
theorem z_nn (vs : List Int) (ks : List Nat) : 0 ≤ zOf vs ks := by unfold zOf; split <;> omega
theorem fE_nn (vs : List Int) {n : Nat} (hn : n ≤ 8) : ∀ m, m < 2 ^ n → 0 ≤ (fE vs n m).1 := by
  intro m
  induction m using Nat.strongRecOn with
  | _ m ih =>
    intro hm
    by_cases h0 : m = 0
    · subst h0; rw [fE_zero]; exact Int.le_refl _
    · obtain ⟨k, hk, _, e, _⟩ := fE_step vs hn hm h0
      have d := (bits_del hn hm hk).1
      have p := Nat.two_pow_pos k
      have := ih (m - 2 ^ k) (by omega) (by omega)
      have := z_nn vs (bitsL n m)
      omega
/-- no family has more -/
theorem fam_le (vs : List Int) (c : Nat → Nat) {n : Nat} (hn : n ≤ 8) : ∀ (m N : Nat), m < 2 ^ n → Cls vs (bitsL n m) c N → (N : Int) ≤ (fE vs n m).1 := by
  intro m
  induction m using Nat.strongRecOn with
  | _ m ih =>
    intro N hm h
    cases N with
    | zero => exact fE_nn vs hn m hm
    | succ N =>
      obtain ⟨_, x, hx, ex⟩ := h (N + 1) (by omega) (Nat.le_refl _)
      have h0 : m ≠ 0 := fun e => by rw [(bits_nil hn hm).mpr e] at hx; cases hx
      obtain ⟨k, hk, _, e, best⟩ := fE_step vs hn hm h0
      have go : ∀ j ∈ bitsL n m, ∀ M, M ≤ N + 1 → (c j = 0 ∨ M < c j) → (M : Int) ≤ (fE vs n (m - 2 ^ k)).1 := fun j hj M hM hc => by
        obtain ⟨d1, d2⟩ := bits_del hn hm hj
        have p := Nat.two_pow_pos j
        have := ih (m - 2 ^ j) (by omega) M (by omega) (by rw [d2]; exact cls_del h hM hc)
        exact Int.le_trans this (best j hj)
      by_cases q : ∀ j ∈ bitsL n m, 1 ≤ c j ∧ c j ≤ N + 1
      · have s0 : sumK vs (bitsL n m) = 0 := sum_cls vs c (N + 1) _ q fun j h1 h2 => (h j h1 h2).1
        have z1 : zOf vs (bitsL n m) = 1 := by unfold zOf; rw [if_pos s0]
        have := go x hx N (by omega) (.inr (by omega))
        omega
      · have : ∃ j ∈ bitsL n m, ¬ (1 ≤ c j ∧ c j ≤ N + 1) := by
          refine Classical.byContradiction fun n1 => q fun j hj => Classical.byContradiction fun n2 => n1 ⟨j, hj, n2⟩
        obtain ⟨j, hj, nj⟩ := this
        have := go j hj (N + 1) (Nat.le_refl _) (by omega)
        have := z_nn vs (bitsL n m)
        omega
structure LInv (vs : List Int) (n m : Nat) (L : List (List Nat)) : Prop where
  pm : (L.flatten ++ bitsL n m).Perm (List.range n)
  ct : (L.length : Int) + (fE vs n m).1 = (fE vs n (2 ^ n - 1)).1
  cur : (L = [] ∧ sumK vs (bitsL n m) = 0) ∨ ∃ ini cur, L = ini ++ [cur] ∧ (∀ l ∈ ini, sumK vs l = 0 ∧ l ≠ []) ∧ sumK vs cur + sumK vs (bitsL n m) = 0 ∧ cur ≠ []
theorem sumK_app (vs : List Int) (a b : List Nat) : sumK vs (a ++ b) = sumK vs a + sumK vs b := by simp [sumK]
theorem perm_del {ks : List Nat} (nd : ks.Nodup) {k : Nat} (hk : k ∈ ks) : ks.Perm (k :: ks.filter fun j => j != k) := by
  refine (List.perm_ext_iff_of_nodup nd ?_).mpr fun x => ?_
  · exact List.nodup_cons.mpr ⟨fun h => by simpa using (List.mem_filter.mp h).2, nd.filter _⟩
  · by_cases e : x = k
    · subst e; simp [hk]
    · simp [e]
theorem lots_step {vs : List Int} {n m : Nat} {L : List (List Nat)} (hn : n ≤ 8) (hm : m < 2 ^ n) (h0 : m ≠ 0) (h : LInv vs n m L) : ∃ (k : Nat) (ini : List (List Nat)) (cur : List Nat), k ∈ bitsL n m ∧ (fE vs n m).2 = (k : Int) ∧ 2 ^ k ≤ m ∧
    (if sumK vs (bitsL n m) = 0 then L ++ [[]] else L) = ini ++ [cur] ∧ LInv vs n (m - 2 ^ k) (ini ++ [cur ++ [k]]) ∧ (bitsL n (m - 2 ^ k)).length < (bitsL n m).length := by
  obtain ⟨k, hk, e2, e1, _⟩ := fE_step vs hn hm h0
  obtain ⟨d1, d2⟩ := bits_del hn hm hk
  have nd := bits_nodup n m
  have pd := perm_del nd hk
  have sd := sumK_del vs nd hk
  have ln := pd.length_eq
  simp only [List.length_cons] at ln
  have new : ∃ ini cur, (if sumK vs (bitsL n m) = 0 then L ++ [[]] else L) = ini ++ [cur] ∧ (∀ l ∈ ini, sumK vs l = 0 ∧ l ≠ []) ∧ sumK vs cur + sumK vs (bitsL n m) = 0 ∧ ini.flatten ++ cur = L.flatten ∧ ((ini.length : Int) + 1 = L.length + zOf vs (bitsL n m)) := by
    by_cases s0 : sumK vs (bitsL n m) = 0
    · rw [if_pos s0]
      refine ⟨L, [], rfl, fun l hl => ?_, by simp [sumK, s0] at *; exact s0, by simp, by unfold zOf; rw [if_pos s0]⟩
      rcases h.cur with ⟨rfl, _⟩ | ⟨ini, cur, rfl, h1, h2, h3⟩
      · cases hl
      · rcases List.mem_append.mp hl with hl | hl
        · exact h1 l hl
        · have : l = cur := by simpa using hl
          subst this
          exact ⟨by omega, h3⟩
    · rw [if_neg s0]
      rcases h.cur with ⟨_, e⟩ | ⟨ini, cur, rfl, h1, h2, h3⟩
      · exact absurd e s0
      · exact ⟨ini, cur, rfl, h1, h2, by simp, by unfold zOf; rw [if_neg s0]; simp⟩
  obtain ⟨ini, cur, n1, n2, n3, n4, n5⟩ := new
  refine ⟨k, ini, cur, hk, e2, d1, n1, ⟨?_, ?_, .inr ⟨ini, cur ++ [k], rfl, n2, ?_, by simp⟩⟩, by rw [d2]; omega⟩
  · rw [d2]
    have : (ini ++ [cur ++ [k]]).flatten = L.flatten ++ [k] := by rw [← n4]; simp
    rw [this, List.append_assoc]
    exact (List.Perm.append_left _ pd.symm).trans h.pm
  · have := h.ct
    simp only [List.length_append, List.length_cons, List.length_nil]
    omega
  · rw [d2, sumK_app]
    have : sumK vs [k] = vs.getD k 0 := by simp [sumK]
    omega
theorem lots_end {vs : List Int} {n : Nat} {L : List (List Nat)} (h : LInv vs n 0 L) : L.flatten.Perm (List.range n) ∧ (L.length : Int) = (fE vs n (2 ^ n - 1)).1 ∧ ∀ l ∈ L, sumK vs l = 0 ∧ l ≠ [] := by
  have b0 : bitsL n 0 = [] := by
    unfold bitsL
    exact List.filter_eq_nil_iff.mpr fun k _ => by simp
  obtain ⟨h1, h2, h3⟩ := h
  rw [b0] at h1 h3
  rw [fE_zero] at h2
  refine ⟨by simpa using h1, by simpa using h2, fun l hl => ?_⟩
  rcases h3 with ⟨rfl, _⟩ | ⟨ini, cur, rfl, h4, h5, h6⟩
  · cases hl
  · rcases List.mem_append.mp hl with hl | hl
    · exact h4 l hl
    · have : l = cur := by simpa using hl
      subst this
      have : sumK vs ([] : List Nat) = 0 := rfl
      exact ⟨by omega, h6⟩
theorem lots_start {vs : List Int} {n : Nat} (hn : n ≤ 8) (s0 : sumK vs (List.range n) = 0) : LInv vs n (2 ^ n - 1) [] := ⟨by rw [bits_full hn]; exact List.Perm.refl _, by simp, .inl ⟨rfl, by rw [bits_full hn]; exact s0⟩⟩
end LW
namespace LW
open TB
def dX (x : Nm) (d : Debt) : Int := (if d.1 = x then d.2.2 else 0) - (if d.2.1 = x then d.2.2 else 0)
def netX (gs : List Debt) (x : Nm) : Int := (gs.map (dX x)).sum
theorem gv_add (m : List (Nm × Int)) (k : Nm) (c : Int) (x : Nm) : gv (add1 m k c) x = gv m x + if k = x then c else 0 := by
  unfold add1 gv
  rw [aget_set]
  by_cases e : k = x
  · subst e; simp
  · simp [e]
theorem gv_balM (m : List (Nm × Int)) (d : Debt) (x : Nm) : gv (balM m d) x = gv m x + dX x d := by
  unfold balM dX
  rw [gv_add, gv_add]
  by_cases e : d.2.1 = x
  · simp [e]; omega
  · simp [e]
theorem gv_balF (gs : List Debt) (x : Nm) : ∀ m, gv (balF m gs) x = gv m x + netX gs x := by
  induction gs with
  | nil => intro m; simp [balF, netX]
  | cons d gs ih =>
    intro m
    show gv (balF (balM m d) gs) x = _
    rw [ih, gv_balM]
    simp [netX]
    omega
theorem gv_net (gs : List Debt) (x : Nm) : gv (balF [] gs) x = netX gs x := by
  rw [gv_balF]
  simp [gv, aget]
theorem net_perm {gs gs' : List Debt} (h : gs.Perm gs') (x : Nm) : netX gs x = netX gs' x := sum_perm (h.map _)
theorem net_app (gs gs' : List Debt) (x : Nm) : netX (gs ++ gs') x = netX gs x + netX gs' x := by simp [netX]
theorem gv_mem {m : List (Nm × Int)} {x : Nm} (h : gv m x ≠ 0) : x ∈ aks m := by
  refine Classical.byContradiction fun n => h ?_
  unfold gv
  rw [aget_none.mpr n]
  rfl
def keysR (m : List (Nm × Int)) : List Nm := (sortT (aks m)).filter (nzB m)
theorem keysR_mem {m : List (Nm × Int)} {x : Nm} : x ∈ keysR m ↔ gv m x ≠ 0 := by
  unfold keysR
  rw [List.mem_filter]
  constructor
  · intro h; simpa [nzB] using h.2
  · intro h; exact ⟨(sortT_perm _).mem_iff.mpr (gv_mem h), by simpa [nzB] using h⟩
theorem keysR_nd {m : List (Nm × Int)} (h : (aks m).Nodup) : (keysR m).Nodup := ((sortT_perm _).nodup_iff.mpr h).filter _
theorem keysR_le (m : List (Nm × Int)) : (keysR m).Pairwise (· ≤ ·) := (sortT_pair _).sublist List.filter_sublist
theorem balR_eq (m : List (Nm × Int)) : balR m = (keysR m).map fun k => (k, gv m k) := rfl
theorem balR_ext {m m' : List (Nm × Int)} (h : (aks m).Nodup) (h' : (aks m').Nodup) (e : ∀ x, gv m x = gv m' x) : balR m = balR m' := by
  have k : keysR m = keysR m' := by
    refine List.Perm.eq_of_pairwise (le := (· ≤ ·)) (fun a b _ _ x y => List.le_antisymm x y) (keysR_le m) (keysR_le m') ?_
    refine (List.perm_ext_iff_of_nodup (keysR_nd h) (keysR_nd h')).mpr fun x => ?_
    rw [keysR_mem, keysR_mem, e]
  rw [balR_eq, balR_eq, k]
  exact List.map_congr_left fun x _ => by rw [e]
theorem balR_keys (m : List (Nm × Int)) : aks (balR m) = keysR m := by
  rw [balR_eq]
  show ((keysR m).map fun k => (k, gv m k)).map (·.1) = _
  rw [List.map_map]
  exact List.map_id' _
theorem gv_of_mem : ∀ {l : List (Nm × Int)}, (aks l).Nodup → ∀ p ∈ l, gv l p.1 = p.2
  | [], _, p, h => by cases h
  | q :: l, nd, p, h => by
    have nd : (q.1 :: aks l).Nodup := nd
    obtain ⟨n1, n2⟩ := List.nodup_cons.mp nd
    rcases List.mem_cons.mp h with rfl | h
    · simp [gv, aget_cons]
    · have ne : q.1 ≠ p.1 := fun e => n1 (e ▸ List.mem_map_of_mem h)
      have := gv_of_mem n2 p h
      simpa [gv, aget_cons, ne] using this
theorem gv_not {l : List (Nm × Int)} {x : Nm} (h : x ∉ aks l) : gv l x = 0 := by
  unfold gv
  rw [aget_none.mpr h]
  rfl
theorem balR_gv {m : List (Nm × Int)} (h : (aks m).Nodup) (x : Nm) : gv (balR m) x = gv m x := by
  by_cases q : gv m x = 0
  · rw [q]
    exact gv_not (by rw [balR_keys]; exact fun n => keysR_mem.mp n q)
  · have hm : (x, gv m x) ∈ balR m := by
      rw [balR_eq]
      exact List.mem_map.mpr ⟨x, keysR_mem.mpr q, rfl⟩
    have := gv_of_mem (by rw [balR_keys]; exact keysR_nd h) _ hm
    exact this
def sumX (f : Nm → Int) (l : List Nm) : Int := (l.map f).sum
theorem sumX_add (f g : Nm → Int) (l : List Nm) : sumX (fun x => f x + g x) l = sumX f l + sumX g l := by
  unfold sumX
  induction l with
  | nil => rfl
  | cons a l ih => simp [ih]; omega
theorem sumX_one (a : Nm) (c : Int) : ∀ {l : List Nm}, l.Nodup → sumX (fun x => if a = x then c else 0) l = if a ∈ l then c else 0
  | [], _ => by simp [sumX]
  | x :: l, h => by
    obtain ⟨h1, h2⟩ := List.nodup_cons.mp h
    have ih := sumX_one a c h2
    unfold sumX at *
    rw [List.map_cons, List.sum_cons, ih]
    by_cases e : a = x
    · subst e; simp [h1]
    · simp [e]
theorem sumX_dX (d : Debt) {l : List Nm} (nd : l.Nodup) : sumX (fun x => dX x d) l = (if d.1 ∈ l then d.2.2 else 0) - (if d.2.1 ∈ l then d.2.2 else 0) := by
  have e : (fun x => dX x d) = fun x => (if d.1 = x then d.2.2 else 0) + (if d.2.1 = x then -d.2.2 else 0) := by
    funext x
    unfold dX
    by_cases q : d.2.1 = x <;> simp [q] <;> omega
  rw [e, sumX_add, sumX_one _ _ nd, sumX_one _ _ nd]
  split <;> split <;> omega
theorem mem_split_perm {α : Type} {l : α} {P : List α} (h : l ∈ P) : ∃ R, P.Perm (l :: R) := by
  obtain ⟨a, b, rfl⟩ := List.append_of_mem h
  exact ⟨a ++ b, List.perm_middle⟩
theorem flat_perm {α : Type} {P Q : List (List α)} (h : P.Perm Q) : P.flatten.Perm Q.flatten := h.flatten
/-- goings part those whom they name into at least as many lots that come to 0 as they are fewer -/
theorem part_of (N : List Nm) (nd : N.Nodup) : ∀ (gs : List Debt), (∀ d ∈ gs, d.1 ∈ N ∧ d.2.1 ∈ N) → ∃ P : List (List Nm), P.flatten.Perm N ∧ N.length ≤ P.length + gs.length ∧ ∀ l ∈ P, l ≠ [] ∧ sumX (netX gs) l = 0
  | [], _ => ⟨N.map fun x => [x], by rw [show (N.map fun x => [x]).flatten = N from by induction N with | nil => rfl | cons a N ih => simp [ih (List.nodup_cons.mp nd).2]], by simp, fun l hl => by
      obtain ⟨x, _, rfl⟩ := List.mem_map.mp hl
      exact ⟨by simp, by simp [sumX, netX]⟩⟩
  | d :: gs, h => by
    obtain ⟨P, p1, p2, p3⟩ := part_of N nd gs fun x hx => h x (List.mem_cons_of_mem _ hx)
    obtain ⟨ha, hb⟩ := h d List.mem_cons_self
    obtain ⟨l, hl, al⟩ := List.mem_flatten.mp (p1.mem_iff.mpr ha)
    obtain ⟨R, pr⟩ := mem_split_perm hl
    have ndP : P.flatten.Nodup := p1.nodup_iff.mpr nd
    have ndR : (l ++ R.flatten).Nodup := by
      have := (flat_perm pr).nodup_iff.mp ndP
      simpa using this
    obtain ⟨nl, nR, dj⟩ := List.nodup_append.mp ndR
    have fx : netX (d :: gs) = fun x => dX x d + netX gs x := by funext x; simp [netX]
    have same : ∀ {l' : List Nm}, l'.Nodup → d.1 ∉ l' → d.2.1 ∉ l' → sumX (netX gs) l' = 0 → sumX (netX (d :: gs)) l' = 0 := fun n1 h1 h2 h3 => by
      rw [fx, sumX_add, sumX_dX d n1, h3]
      simp [h1, h2]
    have subnd : ∀ l' ∈ R, l'.Nodup := fun l' hl' => by
      obtain ⟨a, b, e⟩ := List.append_of_mem hl'
      rw [e] at nR
      simp only [List.flatten_append, List.flatten_cons] at nR
      exact (List.nodup_append.mp (List.nodup_append.mp nR).2.1).1
    have memR : ∀ l' ∈ R, ∀ x ∈ l', x ∈ R.flatten := fun l' hl' x hx => List.mem_flatten.mpr ⟨l', hl', hx⟩
    have inP : ∀ l' ∈ R, l' ∈ P := fun l' hl' => pr.mem_iff.mpr (List.mem_cons_of_mem _ hl')
    by_cases bl : d.2.1 ∈ l
    · refine ⟨l :: R, (flat_perm pr).symm.trans p1, by rw [← pr.length_eq]; simp; omega, fun l' hl' => ?_⟩
      rcases List.mem_cons.mp hl' with rfl | hl'
      · obtain ⟨q1, q2⟩ := p3 l' hl
        refine ⟨q1, ?_⟩
        rw [fx, sumX_add, sumX_dX d nl, q2]
        simp [al, bl]
      · obtain ⟨q1, q2⟩ := p3 l' (inP l' hl')
        exact ⟨q1, same (subnd l' hl') (fun n => dj _ al _ (memR l' hl' _ n) rfl) (fun n => dj _ bl _ (memR l' hl' _ n) rfl) q2⟩
    · have hb2 : d.2.1 ∈ R.flatten := by
        have := (p1.symm.trans (flat_perm pr)).mem_iff.mp hb
        simp only [List.flatten_cons, List.mem_append] at this
        exact this.resolve_left bl
      obtain ⟨l2, hl2, bl2⟩ := List.mem_flatten.mp hb2
      obtain ⟨R2, pr2⟩ := mem_split_perm hl2
      have ndR2 : (l2 ++ R2.flatten).Nodup := by
        have := (flat_perm pr2).nodup_iff.mp nR
        simpa using this
      obtain ⟨nl2, nR2, dj2⟩ := List.nodup_append.mp ndR2
      have n12 : (l ++ l2).Nodup := List.nodup_append.mpr ⟨nl, nl2, fun x hx y hy e => dj x hx y (memR l2 hl2 y hy) e⟩
      have pall : P.Perm (l :: l2 :: R2) := pr.trans (List.Perm.cons _ pr2)
      refine ⟨(l ++ l2) :: R2, ?_, ?_, fun l' hl' => ?_⟩
      · have := (flat_perm pall).symm.trans p1
        simpa using this
      · have := pall.length_eq
        simp at this ⊢
        omega
      · rcases List.mem_cons.mp hl' with rfl | hl'
        · obtain ⟨q1, q2⟩ := p3 l hl
          obtain ⟨r1, r2⟩ := p3 l2 (inP l2 hl2)
          refine ⟨by simp [q1], ?_⟩
          rw [fx, sumX_add, sumX_dX d n12]
          have : sumX (netX gs) (l ++ l2) = sumX (netX gs) l + sumX (netX gs) l2 := by simp [sumX]
          rw [this, q2, r2]
          simp [al, bl2]
        · have hR : l' ∈ R := pr2.mem_iff.mpr (List.mem_cons_of_mem _ hl')
          obtain ⟨q1, q2⟩ := p3 l' (inP l' hR)
          exact ⟨q1, same (subnd l' hR) (fun n => dj _ al _ (memR l' hR _ n) rfl) (fun n => dj2 _ bl2 _ (List.mem_flatten.mpr ⟨l', hl', n⟩) rfl) q2⟩
def colP : List (List Nat) → Nat → Nat
  | [], _ => 0
  | l :: P, k => if k ∈ l then P.length + 1 else colP P k
theorem colP_le : ∀ (P : List (List Nat)) (k : Nat), colP P k ≤ P.length
  | [], _ => Nat.le_refl _
  | l :: P, k => by
    have := colP_le P k
    unfold colP
    split
    · exact Nat.le_refl _
    · simp; omega
theorem colP_not : ∀ {P : List (List Nat)} {k : Nat}, k ∉ P.flatten → colP P k = 0
  | [], _, _ => rfl
  | l :: P, k, h => by
    simp only [List.flatten_cons, List.mem_append, not_or] at h
    unfold colP
    rw [if_neg h.1]
    exact colP_not h.2
theorem sumK_perm {vs : List Int} {a b : List Nat} (h : a.Perm b) : sumK vs a = sumK vs b := sum_perm (h.map _)
theorem cls_of (vs : List Int) {ks : List Nat} (nk : ks.Nodup) : ∀ (P : List (List Nat)), P.flatten.Nodup → (∀ k ∈ P.flatten, k ∈ ks) → (∀ l ∈ P, l ≠ [] ∧ sumK vs l = 0) → Cls vs ks (colP P) P.length
  | [], _, _, _ => fun j h1 h2 => by simp at h2; omega
  | l :: P, nd, sub, h => fun j h1 h2 => by
    simp only [List.flatten_cons] at nd sub
    obtain ⟨nl, nP, dj⟩ := List.nodup_append.mp nd
    have ih := cls_of vs nk P nP (fun k hk => sub k (List.mem_append.mpr (.inr hk))) fun l' hl' => h l' (List.mem_cons_of_mem _ hl')
    by_cases e : j = P.length + 1
    · subst e
      obtain ⟨q1, q2⟩ := h l List.mem_cons_self
      have pe : (ks.filter fun k => colP (l :: P) k == P.length + 1).Perm l := by
        refine (List.perm_ext_iff_of_nodup (nk.filter _) nl).mpr fun x => ?_
        rw [List.mem_filter]
        have := colP_le P x
        by_cases m : x ∈ l
        · simp [colP, m, sub x (List.mem_append.mpr (.inl m))]
        · simp [colP, m]
          intro _; omega
      rw [sumK_perm pe]
      refine ⟨q2, ?_⟩
      cases l with
      | nil => exact absurd rfl q1
      | cons a l => exact ⟨a, sub a (by simp), by simp [colP]⟩
    · have h3 : j ≤ P.length := by simp at h2; omega
      obtain ⟨a, x, hx, ex⟩ := ih j h1 h3
      have same : ∀ k, (colP (l :: P) k == j) = (colP P k == j) := fun k => by
        by_cases m : k ∈ l
        · have z : colP P k = 0 := colP_not fun n => dj k m k n rfl
          have e1 : (P.length + 1 == j) = false := by simpa using fun q => e q.symm
          have e2 : ((0 : Nat) == j) = false := by simp; omega
          rw [z, e2]
          simp only [colP, if_pos m, e1]
        · simp [colP, m]
      refine ⟨by rw [← a]; congr 1; exact List.filter_congr fun k _ => same k, x, hx, ?_⟩
      have := same x
      rw [ex] at this
      simpa using this
theorem fam_max (vs : List Int) {n : Nat} (hn : n ≤ 8) (P : List (List Nat)) (nd : P.flatten.Nodup) (sub : ∀ k ∈ P.flatten, k < n) (h : ∀ l ∈ P, l ≠ [] ∧ sumK vs l = 0) : (P.length : Int) ≤ (fE vs n (2 ^ n - 1)).1 := by
  have p := Nat.two_pow_pos n
  refine fam_le vs (colP P) hn (2 ^ n - 1) P.length (by omega) ?_
  rw [bits_full hn]
  exact cls_of vs List.nodup_range P nd (fun k hk => List.mem_range.mpr (sub k hk)) h
end LW
namespace LW
open TB
def pairD (p : Int × Int) : D := .tup [.int p.1, .int p.2]
def natD (k : Nat) : D := .int (k : Int)
def valsOf (rows : List (Nm × Int)) : List Int := rows.map (·.2)
theorem pow_int (n : Nat) : (2 : Int) ^ n = ((2 ^ n : Nat) : Int) := by
  induction n with
  | zero => rfl
  | succ n ih => rw [Int.pow_succ, ih, Nat.pow_succ]; simp
theorem shl_1 {n : Nat} (h : n ≤ 1000) : fShl1 (.int 1) (.int n) = some (.fz, .int ((2 ^ n : Nat) : Int)) := by
  show (if (1 : Int) = 1 ∧ (0 : Int) ≤ (n : Int) ∧ (n : Int) ≤ 1000 then kz (.int (2 ^ (n : Int).toNat)) else none) = _
  rw [if_pos ⟨rfl, by omega, by omega⟩, Int.toNat_natCast, pow_int]
  rfl
def bitI (m k : Nat) : Int := ((m / 2 ^ k : Nat) : Int)
def bit1 (m k : Nat) : Int := ((m / 2 ^ k % 2 : Nat) : Int)
theorem shr_n {m k : Nat} (h : k ≤ 1000) : fShr (.int m) (.int k) = some (.fz, .int (bitI m k)) := by
  show (if (0 : Int) ≤ (k : Int) ∧ (k : Int) ≤ 1000 then kz (.int ((m : Int) / 2 ^ (k : Int).toNat)) else none) = _
  rw [if_pos ⟨by omega, by omega⟩, Int.toNat_natCast, pow_int, ← Int.natCast_ediv]
  rfl
theorem and_1 (m k : Nat) : fAnd1 (.int (bitI m k)) (.int 1) = some (.fz, .int (bit1 m k)) := by
  show (if (0 : Int) ≤ ((m / 2 ^ k : Nat) : Int) ∧ (1 : Int) = 1 then kz (.int (((m / 2 ^ k : Nat) : Int) % 2)) else none) = _
  rw [if_pos ⟨Int.natCast_nonneg _, rfl⟩]
  rfl
theorem rangeL_0 (n : Nat) : rangeL 0 n = (List.range n).map natD := by
  unfold rangeL
  refine List.map_congr_left fun i _ => ?_
  simp [natD]
theorem mem_nat {d : D} {ks : List Nat} (h : d ∈ ks.map natD) : ∃ k ∈ ks, d = .int (k : Int) := by
  obtain ⟨k, hk, rfl⟩ := List.mem_map.mp h
  exact ⟨k, hk, rfl⟩
def isBit (m : Nat) : D → Bool
  | .int k => m / 2 ^ k.toNat % 2 == 1
  | _ => false
/-- [k for k in range(len(rows)) if mask >> k & 1 == 1] -/
theorem bits_lc {S : List Slot} {R : List D} {i v n m : Nat} (h0 : S[0]? = some (some (.fz, .lst R))) (hR : R.length = n) (hn : n ≤ 8) (hi : S[i]? = some (some (.fz, .int m))) (hv : v < S.length) (hz : fzAt S v = true) (i0 : v ≠ i) (v0 : v ≠ 0) :
    eLc (itRange1 (eApp fLen [(eVar 0)])) (.nm v) [v] (eBool (eOp fEq (eOp fAnd1 (eOp fShr (eVar i) (eVar v)) (eCon (.int 1))) (eCon (.int 1)))) (eVar v) S = .ok (.li .fz, .lst ((bitsL n m).map natD)) S := by
  have hl : n < limN := by unfold limN; omega
  have ln : fLen [.lst R] = some (.fz, .int n) := by rw [← hR]; rfl
  have z := lc_pure (v := v) (S0 := S) (S := S) (it := itRange1 (eApp fLen [(eVar 0)])) (c := eBool (eOp fEq (eOp fAnd1 (eOp fShr (eVar i) (eVar v)) (eCon (.int 1))) (eCon (.int 1)))) (e := eVar v) (ds := (List.range n).map natD) (isBit m) (fun d => d)
    (by simp [h0, ln, hl, rangeL_0]) hv hz (fun d hd => by
      obtain ⟨k, hk, rfl⟩ := mem_nat hd
      have kn := List.mem_range.mp hk
      have e1 : (S.set v (some (.fz, .int (k : Int))))[i]? = some (some (.fz, .int m)) := by rw [List.getElem?_set_ne i0]; exact hi
      have e2 : (S.set v (some (.fz, .int (k : Int))))[v]? = some (some (.fz, .int (k : Int))) := by rw [List.getElem?_set_self hv]
      have eb : isBit m (.int (k : Int)) = decide (bit1 m k = 1) := by
        unfold bit1
        show (m / 2 ^ (k : Int).toNat % 2 == 1) = _
        rw [Int.toNat_natCast]
        by_cases q : m / 2 ^ k % 2 = 1
        · rw [q]; rfl
        · have : m / 2 ^ k % 2 = 0 := by omega
          rw [this]; rfl
      rw [eb]
      simp [e1, e2, i0, hi, hv, shr_n (show k ≤ 1000 by omega), and_1, fEq_int])
    (fun d hd _ => ⟨.fz, by
      have e2 : (S.set v (some (.fz, d)))[v]? = some (some (.fz, d)) := by rw [List.getElem?_set_self hv]
      simp [e2]⟩) (by rw [List.length_map, List.length_range]; unfold sizeMax; omega)
  rw [z]
  have e : ((List.range n).map natD).filter (isBit m) = (bitsL n m).map natD := by
    unfold bitsL
    rw [List.filter_map]
    rfl
  rw [e, show (fun d : D => d) = id from rfl, List.map_id]
theorem fIx_nat {xs : List D} {k : Nat} (h : k < xs.length) : fIx (.lst xs) (.int k) = some (.fz, xs[k]) := by
  obtain ⟨x, _, e⟩ := fIx_lst (xs := xs) (r := (k : Int)) (by omega) (by omega)
  have e2 := e
  simp only [fIx, normIx] at e
  rw [if_pos (by omega), if_pos (by omega)] at e
  simp [h] at e
  rw [e2]
  simp only [kz] at e
  cases e
  rfl
theorem row_at {rows : List (Nm × Int)} {k : Nat} (h : k < rows.length) : fIx (.lst (rows.map balE)) (.int k) = some (.fz, balE rows[k]) := by
  rw [fIx_nat (by simpa using h), List.getElem_map]
theorem row_1 (p : Nm × Int) : fIx (balE p) (.int 1) = some (.fz, .int p.2) := rfl
theorem vals_at {rows : List (Nm × Int)} {k : Nat} (h : k < rows.length) : (valsOf rows).getD k 0 = rows[k].2 := by
  unfold valsOf
  simp [List.getD_eq_getElem?_getD, h]
theorem intsOf_ints (l : List Nat) (f : Nat → Int) : intsOf (l.map fun k => D.int (f k)) = some (l.map f) := by
  induction l with
  | nil => rfl
  | cons p l ih => simp [intsOf, ih]
/-- sum([rows[k][1] for k in some]) -/
theorem sum_lc {S : List Slot} {rows : List (Nm × Int)} {j v : Nat} {ks : List Nat} (h0 : S[0]? = some (some (.fz, .lst (rows.map balE)))) (hj : S[j]? = some (some (.fz, .lst (ks.map natD)))) (hv : v < S.length) (hz : fzAt S v = true) (v0 : v ≠ 0)
    (hk : ∀ k ∈ ks, k < rows.length) (hl : ks.length ≤ 8) :
    ∃ ys, eLc (itSeq (eVar j)) (.nm v) [v] tTrue (eOp fIx (eOp fIx (eVar 0) (eVar v)) (eCon (.int 1))) S = .ok (.li .fz, .lst ys) S ∧ fSum [.lst ys] = some (.fz, .int (sumK (valsOf rows) ks)) := by
  have z := lc_pure (v := v) (S0 := S) (S := S) (it := itSeq (eVar j)) (c := tTrue) (e := eOp fIx (eOp fIx (eVar 0) (eVar v)) (eCon (.int 1))) (ds := ks.map natD) (fun _ => true) (fun d => match d with | .int k => .int ((valsOf rows).getD k.toNat 0) | _ => .non)
    (by simp [hj, itemsOf]) hv hz (fun _ _ => rfl) (fun d hd _ => ⟨.fz, by
      obtain ⟨k, hm, rfl⟩ := mem_nat hd
      have kn := hk k hm
      have e0 : (S.set v (some (.fz, .int (k : Int))))[0]? = some (some (.fz, .lst (rows.map balE))) := by rw [List.getElem?_set_ne v0]; exact h0
      have e2 : (S.set v (some (.fz, .int (k : Int))))[v]? = some (some (.fz, .int (k : Int))) := by rw [List.getElem?_set_self hv]
      have va := vals_at kn
      simp only [Int.toNat_natCast]
      simp [e0, e2, v0, h0, hv, row_at kn, row_1, va, -List.getD_eq_getElem?_getD]⟩) (by rw [List.length_map]; unfold sizeMax; omega)
  rw [filter_true, List.map_map] at z
  refine ⟨_, z, ?_⟩
  show ((intsOf (ks.map fun (k : Nat) => D.int ((valsOf rows).getD (k : Int).toNat 0))).bind fun is => kz (.int is.sum)) = _
  rw [intsOf_ints]
  simp only [Int.toNat_natCast]
  rfl
theorem lt_pair (a b : Int × Int) : D.lt (pairD a) (pairD b) = ltP a b := by
  show (if D.eqv (.int a.1) (.int b.1) = true then (if D.eqv (.int a.2) (.int b.2) = true then false else decide (a.2 < b.2)) else decide (a.1 < b.1)) = _
  unfold ltP
  have e : ∀ i j : Int, D.eqv (.int i) (.int j) = (i == j) := fun _ _ => rfl
  rw [e, e]
  by_cases q : a.1 = b.1
  · by_cases r : a.2 = b.2
    · simp [q, r]
    · simp [q, r]
  · simp [q]
theorem max_pair (xs : List (Int × Int)) : ∀ x, maxD (pairD x) (xs.map pairD) = pairD (bestP x xs) := by
  induction xs with
  | nil => intro x; rfl
  | cons y xs ih =>
    intro x
    show maxD (if D.lt (pairD x) (pairD y) = true then pairD y else pairD x) (xs.map pairD) = pairD (bestP (if ltP x y = true then y else x) xs)
    rw [← ih, lt_pair]
    split <;> rfl
theorem maxA_pair (x : Int × Int) (xs : List (Int × Int)) (hl : xs.length ≤ 100) : fMaxA [.lst ((x :: xs).map pairD)] = some (.fz, pairD (bestP x xs)) := by
  show (match (none : Option KD) with | some a => some a | none => (if alkAll (pairD x :: xs.map pairD) = true ∧ D.lays 60 (pairD x :: xs.map pairD) = true ∧ (pairD x :: xs.map pairD).length ≤ sizeMax then kz (maxD (pairD x) (xs.map pairD)) else none)) = _
  have h1 : alkAll (pairD x :: xs.map pairD) = true := by
    unfold alkAll
    rw [List.all_eq_true]
    intro a ha
    rw [List.all_eq_true]
    intro b hb
    rw [← List.map_cons] at ha hb
    obtain ⟨p, _, rfl⟩ := List.mem_map.mp ha
    obtain ⟨q, _, rfl⟩ := List.mem_map.mp hb
    simp [pairD, D.alk, D.alks]
  have h2 : D.lays 60 (pairD x :: xs.map pairD) = true := by
    refine lays_all fun a ha => ?_
    rw [← List.map_cons] at ha
    obtain ⟨p, _, rfl⟩ := List.mem_map.mp ha
    simp [pairD, D.lay, D.lays]
  have h3 : (pairD x :: xs.map pairD).length ≤ sizeMax := by simp; unfold sizeMax; omega
  rw [max_pair, if_pos ⟨h1, h2, h3⟩]
  rfl
section
variable {Γ : Nat → Fn}
theorem rangeL_succ (lo : Int) (n : Nat) : rangeL lo (n + 1) = .int lo :: rangeL (lo + 1) n := by
  unfold rangeL
  rw [List.range_succ_eq_map, List.map_cons, List.map_map]
  congr 1
  · simp
  · refine List.map_congr_left fun i _ => ?_
    show D.int (lo + ((i + 1 : Nat) : Int)) = D.int (lo + 1 + (i : Int))
    congr 1
    omega
theorem sub_pow {m k : Nat} (h : 2 ^ k ≤ m) : fSub (.int m) (.int ((2 ^ k : Nat) : Int)) = some (.fz, .int ((m - 2 ^ k : Nat) : Int)) := by
  show some ((.fz, .int ((m : Int) - ((2 ^ k : Nat) : Int))) : KD) = _
  rw [← Int.ofNat_sub h]
theorem pair_0 (p : Int × Int) : fIx (pairD p) (.int 0) = some (.fz, .int p.1) := rfl
theorem tab_at {T : List (Int × Int)} {k : Nat} (h : k < T.length) : fIx (.lst (T.map pairD)) (.int k) = some (.fz, pairD (T.getD k (0, 0))) := by
  rw [fIx_nat (by simpa using h), List.getElem_map]
  simp [List.getD_eq_getElem?_getD, h]
/-- the ways to a set -/
theorem ways_lc {rows : List (Nm × Int)} {T : List (Int × Int)} {s2 s4 s5 s6 s7 s8 : Slot} {m n : Nat} (hn : n ≤ 8) (hm : m < 2 ^ n) (h0 : m ≠ 0) (hT : T.length = m)
    (S : List Slot) (hS : S = [some (.fz, .lst (rows.map balE)), some (.li .fz, .lst (T.map pairD)), s2, some (.fz, .int m), some (.fz, .lst ((bitsL n m).map natD)), s5, s6, s7, s8, none]) :
    eLc (itSeq (eVar 4)) (.nm 9) [9] tTrue (ePeekI (eApp fTup [(eOp fIx (eOp fIx (eVar 1) (eOp fSub (eVar 3) (eOp fShl1 (eCon (.int 1)) (eVar 9)))) (eCon (.int 0))), (eVar 9)])) S = .ok (.li .fz, .lst ((wayL T m (bitsL n m)).map pairD)) S := by
  have z := lc_pure (v := 9) (S0 := S) (S := S) (it := itSeq (eVar 4)) (c := tTrue) (e := ePeekI (eApp fTup [(eOp fIx (eOp fIx (eVar 1) (eOp fSub (eVar 3) (eOp fShl1 (eCon (.int 1)) (eVar 9)))) (eCon (.int 0))), (eVar 9)])) (ds := (bitsL n m).map natD) (fun _ => true)
    (fun d => match d with | .int k => pairD ((T.getD (m - 2 ^ k.toNat) (0, 0)).1, k) | _ => .non)
    (by subst hS; simp [itemsOf]) (by subst hS; simp) (by subst hS; rfl) (fun _ _ => rfl) (fun d hd _ => ⟨.fz, by
      obtain ⟨k, hk, rfl⟩ := mem_nat hd
      have kn := bits_lt hk
      obtain ⟨d1, _⟩ := bits_del hn hm hk
      have p := Nat.two_pow_pos k
      have ta := tab_at (T := T) (k := m - 2 ^ k) (by omega)
      have im : ∀ i j : Int, D.imms [D.int i, D.int j] = true := fun _ _ => rfl
      subst hS
      simp only [Int.toNat_natCast]
      generalize T.getD (m - 2 ^ k) (0, 0) = q at ta
      have ti : ∀ i j : Int, D.imm (.tup [.int i, .int j]) = true := fun _ _ => rfl
      simp [frz, shl_1 (show k ≤ 1000 by omega), sub_pow d1, ta, pair_0, tup_f, ti, -Int.natCast_pow]
      rfl⟩) (by rw [List.length_map]; have := (bits_nodup n m).length_le_of_subset (l₂ := List.range n) (fun x hx => List.mem_range.mpr (bits_lt hx)); simp at this; unfold sizeMax; omega)
  rw [filter_true, List.map_map] at z
  rw [z]
  unfold wayL
  rw [List.map_map]
  congr 3
theorem bits_len (n m : Nat) : (bitsL n m).length ≤ n := by
  have := (bits_nodup n m).length_le_of_subset (l₂ := List.range n) (fun x hx => List.mem_range.mpr (bits_lt hx))
  simpa using this
theorem intB_z (t : Int) : fIntB [.bl (decide (t = 0))] = some (.fz, .int (if t = 0 then 1 else 0)) := by
  show kz (.int (if decide (t = 0) then 1 else 0)) = _
  by_cases q : t = 0 <;> simp [q, kz]
def M197 (F : Fn) : Prop := ∀ rows : List (Nm × Int), rows.length ≤ 8 → F [(.fz, .lst (rows.map balE))] = .ret (.fz, .lst ((tabP (valsOf rows) rows.length (2 ^ rows.length - 1)).map pairD)) []
def MI (rows : List (Nm × Int)) (xs : List D) (S : List Slot) : Prop := ∃ (j : Nat) (ss : List D) (x3 x4 x5 x6 x7 x8 : Slot), j ≤ 2 ^ rows.length - 1 ∧ xs = rangeL ((j : Int) + 1) (2 ^ rows.length - 1 - j) ∧ ss.length = j + 1 ∧ okS x4 ∧
  S = [some (.fz, .lst (rows.map balE)), some (.li .fz, .lst ((tabP (valsOf rows) rows.length j).map pairD)), some (.li .fz, .lst ss), x3, x4, x5, x6, x7, x8, none]
theorem most_197 : M197 (runF 10 [] (mb_197 Γ)) := fun rows hn => by
  have p := Nat.two_pow_pos rows.length
  have p8 : 2 ^ rows.length ≤ 256 := Nat.pow_le_pow_right (n := 2) (by omega) hn
  have l8 : (2 ^ rows.length : Nat) < limN := by unfold limN; omega
  have r8 : (((2 ^ rows.length : Nat) : Int) - 1).toNat = 2 ^ rows.length - 1 := by omega
  have ln : fLen [.lst (rows.map balE)] = some (.fz, .int rows.length) := by simp [fLen, kz]
  refine FnP.eq (runF_wp (by rfl) ?_)
  have e1 : fLst [.tup [.int 0, .int 0]] = some (.li .fz, .lst [.tup [.int 0, .int 0]]) := rfl
  have e2 : fLst [.int 0] = some (.li .fz, .lst [.int 0]) := rfl
  have l1 : (1 : Nat) < limN := by decide
  simp [mb_197, tup_f, e1, e2, ln, shl_1 (show rows.length ≤ 1000 by omega), l8, l1, r8, itemsOf, -Int.natCast_pow, -Prod.exists, -Prod.forall]
  refine loopG_wp (MI rows) ?_ ?_ _ _ ⟨0, [.int 0], none, none, none, none, none, none, by omega, by simp, rfl, .inl rfl, rfl⟩
  · rintro d xs S ⟨j, ss, x3, x4, x5, x6, x7, x8, hj, hx, hs, ok4, rfl⟩
    cases q : 2 ^ rows.length - 1 - j with
    | zero => rw [q] at hx; cases hx
    | succ r =>
      rw [q, rangeL_succ] at hx
      cases hx
      have hm : j + 1 < 2 ^ rows.length := by omega
      refine ⟨_, put_nm (by simp), ?_⟩
      have c1 : ((j : Int) + 1) = ((j + 1 : Nat) : Int) := by omega
      rw [c1]
      have T0 := tab_len (valsOf rows) rows.length j
      generalize hT : tabP (valsOf rows) rows.length j = T at *
      obtain ⟨m, em⟩ : ∃ m, m = j + 1 := ⟨_, rfl⟩
      rw [← em] at hm
      rw [← em]
      have T0 : T.length = m := by omega
      have z1 := bits_lc (S := [some (.fz, .lst (rows.map balE)), some (.li .fz, .lst (T.map pairD)), some (.li .fz, .lst ss), some (.fz, .int ((m : Nat) : Int)), x4, x5, x6, x7, x8, none]) (R := rows.map balE) (i := 3) (v := 9) (n := rows.length) (m := m) rfl (by simp) hn rfl (by simp) rfl (by decide) (by decide)
      obtain ⟨ys, z2, z3⟩ := sum_lc (S := [some (.fz, .lst (rows.map balE)), some (.li .fz, .lst (T.map pairD)), some (.li .fz, .lst ss), some (.fz, .int ((m : Nat) : Int)), some (.fz, .lst ((bitsL rows.length m).map natD)), x5, x6, x7, x8, none]) (rows := rows) (j := 4) (v := 9) (ks := bitsL rows.length m) rfl rfl (by simp) rfl (by decide) (fun k hk => bits_lt hk) (by have := bits_len rows.length m; omega)
      have ap1 : fAppend ss [.int (sumK (valsOf rows) (bitsL rows.length m))] = some (.non, ss ++ [.int (sumK (valsOf rows) (bitsL rows.length m))]) := by
        show (if ss.length < sizeMax then _ else none) = _
        rw [if_pos (by unfold sizeMax; omega)]
      have z4 := ways_lc (rows := rows) (T := T) (s2 := some (.li .fz, .lst (ss ++ [.int (sumK (valsOf rows) (bitsL rows.length m))]))) (s4 := none) (s5 := some (.fz, .int (sumK (valsOf rows) (bitsL rows.length m)))) (s6 := x6) (s7 := x7) (s8 := x8) hn hm (by omega) T0 _ rfl
      have ne : bitsL rows.length m ≠ [] := fun e => by have := (bits_nil hn hm).mp e; omega
      have en : tabP (valsOf rows) rows.length (j + 1) = T ++ [entP (valsOf rows) rows.length T m] := by rw [em, ← hT]; rfl
      have wl : (wayL T m (bitsL rows.length m)).length ≤ 8 := by unfold wayL; rw [List.length_map]; have := bits_len rows.length m; omega
      unfold entP at en
      cases qw : wayL T m (bitsL rows.length m) with
      | nil => unfold wayL at qw; exact absurd (List.map_eq_nil_iff.mp qw) ne
      | cons x xs =>
        rw [qw] at z4 en wl
        have mx := maxA_pair x xs (by simp at wl; omega)
        simp only at en
        unfold zOf at en
        generalize bestP x xs = b at mx en
        generalize sumK (valsOf rows) (bitsL rows.length m) = tot at *
        have zo : ∀ i : Int, fAdd (.int b.1) (.int i) = some (.fz, .int (b.1 + i)) := fun _ => rfl
        have fq : fEq (.int tot) (.int 0) = some (.fz, .bl (decide (tot = 0))) := fEq_int _ _
        have ap2 : ∀ y : D, fAppend (T.map pairD) [y] = some (.non, T.map pairD ++ [y]) := fun y => by
          show (if (T.map pairD).length < sizeMax then _ else none) = _
          rw [if_pos (by rw [List.length_map]; unfold sizeMax; omega)]
        have pn : ∀ (i : Nat) (d : D) (S : List Slot), Tg.put (.nm i) d S = if i < S.length then some (S.set i (some (.fz, d))) else none := fun _ _ _ => by simp [Tg.put]
        have pt : ∀ S, Tg.put (.tp [.nm 7, .nm 8]) (pairD b) S = Tg.puts [.nm 7, .nm 8] [.int b.1, .int b.2] S := fun _ => by simp [pairD, Tg.put]
        simp [z1, z2, z3, ap1, ap2, z4, mx, zo, fq, intB_z, tup_f, ownL, pt, pn, Tg.puts, -List.map_cons, -List.map_append, -Prod.exists, -Prod.forall]
        have key : T.map pairD ++ [D.tup [.int (b.1 + if tot = 0 then 1 else 0), .int b.2]] = (tabP (valsOf rows) rows.length m).map pairD := by
          rw [em, en, List.map_append]
          rfl
        rw [key]
        exact ⟨m, ss ++ [.int tot], _, _, _, _, _, _, by omega, by rw [show r = 2 ^ rows.length - 1 - m by omega], by simp; omega, okS_some _, rfl⟩
  · rintro S ⟨j, ss, x3, x4, x5, x6, x7, x8, hj, hx, hs, ok4, rfl⟩
    have : j = 2 ^ rows.length - 1 := by
      cases q : 2 ^ rows.length - 1 - j with
      | zero => omega
      | succ r => rw [q, rangeL_succ] at hx; cases hx
    subst this
    simp [outsOf, Kd.isF]
end
end LW
namespace LW
open TB
def rowK (rows : List (Nm × Int)) (k : Nat) : Nm × Int := rows.getD k ([], 0)
def lotD (rows : List (Nm × Int)) (l : List Nat) : D := .lst (l.map fun k => balE (rowK rows k))
theorem normIx_last (n : Nat) : normIx (n + 1) (-1) = some n := by
  unfold normIx
  rw [if_neg (by omega), if_pos (by omega)]
  congr 1
  omega
theorem app_last {S : List Slot} {ini cur : List D} {q : E} {y : D} (h3 : S[3]? = some (some (.li (.li .fz), .lst (ini ++ [.lst cur])))) (hq : eFzD q S = some y) (hl : cur.length < sizeMax) :
    pMth fAppend 3 [.ix (ePeekI (eUn fNeg (eCon (.int 1))))] [q] S = .ok (.fz, .non) (S.set 3 (some (.li (.li .fz), .lst (ini ++ [.lst (cur ++ [y])])))) := by
  have pe : pEv [.ix (ePeekI (eUn fNeg (eCon (.int 1))))] S = some [.ix (-1)] := rfl
  have ln : (ini ++ [D.lst cur]).length = ini.length + 1 := by simp
  have at' : (ini ++ [D.lst cur])[ini.length]? = some (.lst cur) := by simp
  have tg : tgt 3 [.ix (ePeekI (eUn fNeg (eCon (.int 1))))] S = some ⟨[.ix (-1)], .li (.li .fz), .lst (ini ++ [.lst cur]), .li .fz, .lst cur⟩ := by
    unfold tgt
    rw [h3, pe]
    simp only [getKD, ln, normIx_last, Option.bind_some, at', Option.map_some]
  have es : eFzDs [q] S = some [y] := by simp [eFzDs, hq]
  have ap : fAppend cur [y] = some (.non, cur ++ [y]) := by
    show (if cur.length < sizeMax then _ else none) = _
    rw [if_pos hl]
  have st : (ini ++ [D.lst cur]).set ini.length (.lst (cur ++ [y])) = ini ++ [.lst (cur ++ [y])] := by simp
  unfold pMth
  rw [tg, es]
  simp only [ap, Tgt.put, setKD, ln, normIx_last, Option.bind_some, at', Option.map_some, Kd.beq, if_true, st, pOk]
theorem pAppN_ap {S : List Slot} {xs : List D} (h3 : S[3]? = some (some (.li (.li .fz), .lst xs))) (hl : xs.length < sizeMax) : pAppN 3 [] S = .ok (.fz, .non) (S.set 3 (some (.li (.li .fz), .lst (xs ++ [.lst []])))) := by
  have pe : pEv [] S = some [] := rfl
  have tg : tgt 3 [] S = some ⟨[], .li (.li .fz), .lst xs, .li (.li .fz), .lst xs⟩ := by
    unfold tgt
    rw [h3, pe]
    rfl
  unfold pAppN
  rw [tg]
  simp only [if_pos hl, Tgt.put, setKD, Option.map_some, pOk]
theorem rowK_at {rows : List (Nm × Int)} {k : Nat} (h : k < rows.length) : fIx (.lst (rows.map balE)) (.int k) = some (.fz, balE (rowK rows k)) := by
  rw [row_at h]
  simp [rowK, List.getD_eq_getElem?_getD, h]
theorem balE_im (p : Nm × Int) : D.imm (balE p) = true := balE_imm p
section
variable {Γ : Nat → Fn}
def lC : T := eBool (eOp fGt (eVar 2) (eCon (.int 0)))
def lB : St := (sSeq (sSet 4 (eFr (eLc (itRange1 (eApp fLen [(eVar 0)])) (.nm 6) [6] (eBool (eOp fEq (eOp fAnd1 (eOp fShr (eVar 2) (eVar 6)) (eCon (.int 1))) (eCon (.int 1)))) (eVar 6)))) (sSeq (sIf (eBool (eOp fEq (eApp fSum [(eLc (itSeq (eVar 4)) (.nm 6) [6] tTrue (eOp fIx (eOp fIx (eVar 0) (eVar 6)) (eCon (.int 1))))]) (eCon (.int 0)))) (sDrop (pAppN 3 [])) sNx) (sSeq (sSet 5 (eOp fIx (eOp fIx (eVar 1) (eVar 2)) (eCon (.int 1)))) (sSeq (sDrop (pMth fAppend 3 ([] ++ [.ix (ePeekI (eUn fNeg (eCon (.int 1))))]) [(ePeekI (eOp fIx (eVar 0) (eVar 5)))])) (sAugI 2 true (eOp fShl1 (eCon (.int 1)) (eVar 5)))))))
def lS (rows : List (Nm × Int)) (m : Nat) (L : List (List Nat)) (x4 x5 : Slot) : List Slot := [some (.fz, .lst (rows.map balE)), some (.fz, .lst ((tabP (valsOf rows) rows.length (2 ^ rows.length - 1)).map pairD)), some (.fz, .int m), some (.li (.li .fz), .lst (L.map (lotD rows))), x4, x5, none]
theorem lots_body {rows : List (Nm × Int)} {m : Nat} {L : List (List Nat)} {x4 x5 : Slot} (hn : rows.length ≤ 8) (hm : m < 2 ^ rows.length) (h0 : m ≠ 0) (h : LInv (valsOf rows) rows.length m L) (hL : L.length ≤ 100) (hc : ∀ l ∈ L, l.length ≤ 100) :
    ∃ (m' : Nat) (L' : List (List Nat)) (x4' x5' : Slot), lB (lS rows m L x4 x5) = .ok .nx (lS rows m' L' x4' x5') ∧ m' < 2 ^ rows.length ∧ LInv (valsOf rows) rows.length m' L' ∧ (bitsL rows.length m').length < (bitsL rows.length m).length := by
  obtain ⟨k, ini, cur, hk, e2, d1, eL, inv, lt⟩ := lots_step hn hm h0 h
  have kn := bits_lt hk
  have p := Nat.two_pow_pos k
  refine ⟨m - 2 ^ k, ini ++ [cur ++ [k]], some (.fz, .lst ((bitsL rows.length m).map natD)), some (.fz, .int (k : Int)), ?_, by omega, inv, lt⟩
  have T0 := tab_len (valsOf rows) rows.length (2 ^ rows.length - 1)
  have ta := tab_at (T := tabP (valsOf rows) rows.length (2 ^ rows.length - 1)) (k := m) (by omega)
  rw [tab_get (valsOf rows) rows.length (show m ≤ 2 ^ rows.length - 1 by omega)] at ta
  have p1 : fIx (pairD (fE (valsOf rows) rows.length m)) (.int 1) = some (.fz, .int (k : Int)) := by rw [← e2]; rfl
  generalize fE (valsOf rows) rows.length m = q at ta p1
  unfold lS
  generalize tabP (valsOf rows) rows.length (2 ^ rows.length - 1) = T at *
  have z1 := bits_lc (S := [some (.fz, .lst (rows.map balE)), some (.fz, .lst (T.map pairD)), some (.fz, .int (m : Int)), some (.li (.li .fz), .lst (L.map (lotD rows))), x4, x5, none]) (R := rows.map balE) (i := 2) (v := 6) (n := rows.length) (m := m) rfl (by simp) hn rfl (by simp) rfl (by decide) (by decide)
  obtain ⟨ys, z2, z3⟩ := sum_lc (S := [some (.fz, .lst (rows.map balE)), some (.fz, .lst (T.map pairD)), some (.fz, .int (m : Int)), some (.li (.li .fz), .lst (L.map (lotD rows))), some (.fz, .lst ((bitsL rows.length m).map natD)), x5, none]) (rows := rows) (j := 4) (v := 6) (ks := bitsL rows.length m) rfl rfl (by simp) rfl (by decide) (fun k hk => bits_lt hk) (by have := bits_len rows.length m; omega)
  have fq : fEq (.int (sumK (valsOf rows) (bitsL rows.length m))) (.int 0) = some (.fz, .bl (decide (sumK (valsOf rows) (bitsL rows.length m) = 0))) := fEq_int _ _
  have cl : (cur.map fun k => balE (rowK rows k)).length < sizeMax := by
    have : cur.length ≤ 100 := by
      by_cases s0 : sumK (valsOf rows) (bitsL rows.length m) = 0
      · rw [if_pos s0] at eL
        have := List.append_inj_right' eL rfl
        have : cur = [] := by simpa using this.symm
        simp [this]
      · rw [if_neg s0] at eL
        exact hc cur (by rw [eL]; simp)
    rw [List.length_map]
    unfold sizeMax; omega
  have al := fun S h3 q hq => app_last (S := S) (ini := ini.map (lotD rows)) (cur := cur.map fun k => balE (rowK rows k)) (q := q) (y := balE (rowK rows k)) h3 hq cl
  have fin : (L' : List (List Nat)) → L' = ini ++ [cur] → L'.map (lotD rows) = ini.map (lotD rows) ++ [.lst (cur.map fun k => balE (rowK rows k))] := fun L' e => by rw [e, List.map_append]; rfl
  have last : ini.map (lotD rows) ++ [D.lst ((cur.map fun k => balE (rowK rows k)) ++ [balE (rowK rows k)])] = (ini ++ [cur ++ [k]]).map (lotD rows) := by
    rw [List.map_append]
    simp [lotD]
  have rk := rowK_at (rows := rows) kn
  have qz : ∀ s : Slot, eFzD (ePeekI (eOp fIx (eVar 0) (eVar 5))) [some (.fz, .lst (rows.map balE)), some (.fz, .lst (T.map pairD)), some (.fz, .int (m : Int)), s, some (.fz, .lst ((bitsL rows.length m).map natD)), some (.fz, .int (k : Int)), none] = some (balE (rowK rows k)) := fun s => by
    unfold eFzD
    simp [frz, rk, balE_im]
  have sp := sub_pow d1
  have sp : (m : Int) - ((2 ^ k : Nat) : Int) = ((m - 2 ^ k : Nat) : Int) := by rw [← Int.ofNat_sub d1]
  unfold lB
  by_cases s0 : sumK (valsOf rows) (bitsL rows.length m) = 0
  · rw [if_pos s0] at eL
    have an := pAppN_ap (S := [some (.fz, .lst (rows.map balE)), some (.fz, .lst (T.map pairD)), some (.fz, .int (m : Int)), some (.li (.li .fz), .lst (L.map (lotD rows))), some (.fz, .lst ((bitsL rows.length m).map natD)), x5, none]) (xs := L.map (lotD rows)) rfl (by rw [List.length_map]; unfold sizeMax; omega)
    have f1 : L.map (lotD rows) ++ [.lst []] = ini.map (lotD rows) ++ [.lst (cur.map fun k => balE (rowK rows k))] := by
      rw [← fin _ eL, List.map_append]; rfl
    rw [f1] at an
    have al := al [some (.fz, .lst (rows.map balE)), some (.fz, .lst (T.map pairD)), some (.fz, .int (m : Int)), some (.li (.li .fz), .lst (ini.map (lotD rows) ++ [.lst (cur.map fun k => balE (rowK rows k))])), some (.fz, .lst ((bitsL rows.length m).map natD)), some (.fz, .int (k : Int)), none] rfl _ (qz _)
    rw [last] at al
    simp [z1, z2, z3, s0, fEq_int, an, ta, p1, al, sAugI, shl_1 (show k ≤ 1000 by omega), sp, -List.nil_append, -List.map_append, -Int.natCast_pow]
  · rw [if_neg s0] at eL
    rw [fin _ eL] at z1 z2 ⊢
    have al := al [some (.fz, .lst (rows.map balE)), some (.fz, .lst (T.map pairD)), some (.fz, .int (m : Int)), some (.li (.li .fz), .lst (ini.map (lotD rows) ++ [.lst (cur.map fun k => balE (rowK rows k))])), some (.fz, .lst ((bitsL rows.length m).map natD)), some (.fz, .int (k : Int)), none] rfl _ (qz _)
    rw [last] at al
    simp [z1, z2, z3, s0, fEq_int, ta, p1, al, sAugI, shl_1 (show k ≤ 1000 by omega), sp, -List.nil_append, -List.map_append, -Int.natCast_pow]
theorem flat_len {α : Type} : ∀ {L : List (List α)}, (∀ l ∈ L, l ≠ []) → L.length ≤ L.flatten.length
  | [], _ => Nat.le_refl _
  | l :: L, h => by
    have ih := flat_len (L := L) fun l' hl' => h l' (List.mem_cons_of_mem _ hl')
    have := h l List.mem_cons_self
    have : 0 < l.length := List.length_pos_iff.mpr this
    simp only [List.length_cons, List.flatten_cons, List.length_append]
    omega
theorem flat_one {α : Type} {L : List (List α)} {l : List α} (h : l ∈ L) : l.length ≤ L.flatten.length := by
  obtain ⟨a, b, rfl⟩ := List.append_of_mem h
  simp only [List.flatten_append, List.flatten_cons, List.length_append]
  omega
theorem LInv.small {vs : List Int} {n m : Nat} {L : List (List Nat)} (h : LInv vs n m L) (hn : n ≤ 8) : L.length ≤ 100 ∧ ∀ l ∈ L, l.length ≤ 100 := by
  have ln := h.pm.length_eq
  simp only [List.length_append, List.length_range] at ln
  have ne : ∀ l ∈ L, l ≠ [] := by
    rcases h.cur with ⟨rfl, _⟩ | ⟨ini, cur, rfl, h1, _, h3⟩
    · intro l hl; cases hl
    · intro l hl
      rcases List.mem_append.mp hl with hl | hl
      · exact (h1 l hl).2
      · have : l = cur := by simpa using hl
        subst this; exact h3
  have := flat_len ne
  exact ⟨by omega, fun l hl => by have := flat_one hl; omega⟩
theorem lots_loop {rows : List (Nm × Int)} (hn : rows.length ≤ 8) : ∀ (fu m : Nat) (L : List (List Nat)) (x4 x5 : Slot), (bitsL rows.length m).length < fu → m < 2 ^ rows.length → LInv (valsOf rows) rows.length m L →
    okP (sWhile fu lC lB (lS rows m L x4 x5)) fun f S => f = .nx ∧ ∃ L' x4' x5', LInv (valsOf rows) rows.length 0 L' ∧ S = lS rows 0 L' x4' x5'
  | 0, _, _, _, _, h, _, _ => absurd h (Nat.not_lt_zero _)
  | fu + 1, m, L, x4, x5, h, hm, inv => by
    refine whileT ?_
    have ec : lC (lS rows m L x4 x5) = .ok (decide (m ≠ 0)) (lS rows m L x4 x5) := by
      have g : fGt (.int (m : Int)) (.int 0) = some (.fz, .bl (decide (m ≠ 0))) := by
        show kz (.bl (decide ((0 : Int) < (m : Int)))) = _
        congr 2
        by_cases q : m = 0
        · subst q; rfl
        · have : (0 : Int) < (m : Int) := by omega
          rw [decide_eq_true this, decide_eq_true q]
      unfold lC lS
      simp [g]
    rw [ec]
    show if decide (m ≠ 0) = true then _ else _
    by_cases q : m = 0
    · subst q
      exact ⟨rfl, L, x4, x5, inv, rfl⟩
    · rw [if_pos (by simpa using q)]
      obtain ⟨s1, s2⟩ := inv.small hn
      obtain ⟨m', L', y4, y5, e, hm', inv', lt⟩ := lots_body (x4 := x4) (x5 := x5) hn hm q inv s1 s2
      rw [e]
      exact ⟨rfl, lots_loop hn fu m' L' y4 y5 (by omega) hm' inv'⟩
def L198 (F : Fn) : Prop := ∀ rows : List (Nm × Int), rows.length ≤ 8 → sumK (valsOf rows) (List.range rows.length) = 0 → ∃ L : List (List Nat), F [(.fz, .lst (rows.map balE))] = .ret (.fz, .lst (L.map (lotD rows))) [] ∧ L.flatten.Perm (List.range rows.length) ∧ (L.length : Int) = (fE (valsOf rows) rows.length (2 ^ rows.length - 1)).1 ∧ ∀ l ∈ L, sumK (valsOf rows) l = 0 ∧ l ≠ []
theorem lots_198 (h : M197 (Γ 197)) : L198 (runF 7 [] (mb_198 Γ)) := fun rows hn s0 => by
  have p := Nat.two_pow_pos rows.length
  have cv : ∀ S, callsV (Γ 197) [.lst (rows.map balE)] S = .ok (.fz, .lst ((tabP (valsOf rows) rows.length (2 ^ rows.length - 1)).map pairD)) S := fun S => callsV_of (ds := [.lst (rows.map balE)]) (h rows hn) S
  have ln : fLen [.lst (rows.map balE)] = some (.fz, .int rows.length) := by simp [fLen, kz]
  have sb : fSub (.int ((2 ^ rows.length : Nat) : Int)) (.int 1) = some (.fz, .int ((2 ^ rows.length - 1 : Nat) : Int)) := by
    show kz (.int (((2 ^ rows.length : Nat) : Int) - 1)) = _
    congr 2
    omega
  have main : FnP (runF 7 [] (mb_198 Γ)) [(.fz, .lst (rows.map balE))] fun r o => (∃ L : List (List Nat), r = (.fz, .lst (L.map (lotD rows))) ∧ L.flatten.Perm (List.range rows.length) ∧ (L.length : Int) = (fE (valsOf rows) rows.length (2 ^ rows.length - 1)).1 ∧ ∀ l ∈ L, sumK (valsOf rows) l = 0 ∧ l ≠ []) ∧ o = [] := by
    refine runF_wp (by rfl) ?_
    have lp := lots_loop hn 64 (2 ^ rows.length - 1) [] none none (by have := bits_len rows.length (2 ^ rows.length - 1); omega) (by omega) (lots_start hn s0)
    unfold lS lC lB at lp
    generalize hm : 2 ^ rows.length - 1 = m at *
    simp [mb_198, cv, ln, shl_1 (show rows.length ≤ 1000 by omega), sb, eNewL, -Int.natCast_pow, -Prod.exists, -Prod.forall]
    refine lp.mono ?_
    rintro f S ⟨rfl, L, x4, x5, inv, rfl⟩
    obtain ⟨e1, e2, e3⟩ := lots_end inv
    rw [hm] at e2
    simp [outsOf, Kd.isF]
    exact ⟨L, rfl, e1, e2, e3⟩
  obtain ⟨r, o, e, ⟨L, rfl, q1, q2, q3⟩, rfl⟩ := main
  exact ⟨L, e, q1, q2, q3⟩
end
end LW
namespace LW
open TB
def nzP (p : Nm × Int) : Bool := decide (p.2 ≠ 0)
/-- a going of no more than a told bound -/
def BD : Int := 1000000000000
def goB2 (d : Debt) : Prop := goOk d ∧ d.2.2 ≤ BD
structure GInv (lot m : List (Nm × Int)) (found : List Debt) : Prop where
  nd : (aks m).Nodup
  nz : ∀ p ∈ m, p.2 ≠ 0
  nm : ∀ k ∈ aks m, nameS k = true ∧ k ∈ aks lot
  t0 : tot m = 0
  eq : ∀ x, netX found x + gv m x = gv lot x
  bd : ∀ p ∈ m, p.2 ≤ BD ∧ -BD ≤ p.2
  ok : ∀ d ∈ found, goB2 d ∧ d.1 ∈ aks lot ∧ d.2.1 ∈ aks lot
  ct : found.length + max 1 m.length ≤ lot.length
theorem tot_neg : ∀ {m : List (Nm × Int)}, m ≠ [] → (∀ p ∈ m, p.2 < 0) → tot m < 0
  | [p], _, h => by have := h p (by simp); simpa [tot] using this
  | p :: q :: m, _, h => by
    have ih := tot_neg (m := q :: m) (by simp) fun x hx => h x (List.mem_cons_of_mem _ hx)
    have := h p (by simp)
    have e : tot (p :: q :: m) = p.2 + tot (q :: m) := by simp [tot]
    omega
theorem tot_pos : ∀ {m : List (Nm × Int)}, m ≠ [] → (∀ p ∈ m, 0 < p.2) → 0 < tot m
  | [p], _, h => by have := h p (by simp); simpa [tot] using this
  | p :: q :: m, _, h => by
    have ih := tot_pos (m := q :: m) (by simp) fun x hx => h x (List.mem_cons_of_mem _ hx)
    have := h p (by simp)
    have e : tot (p :: q :: m) = p.2 + tot (q :: m) := by simp [tot]
    omega
theorem tot_nz : ∀ m : List (Nm × Int), tot (m.filter nzP) = tot m
  | [] => rfl
  | p :: m => by
    have ih := tot_nz m
    rw [List.filter_cons]
    by_cases q : p.2 = 0
    · have : nzP p = false := by simp [nzP, q]
      rw [this]
      simp only [Bool.false_eq_true, if_false, ih]
      simp [tot, q]
    · have : nzP p = true := by simp [nzP, q]
      rw [this]
      simp only [if_true]
      unfold tot at *
      simp [ih]
theorem gv_nz : ∀ {m : List (Nm × Int)}, (aks m).Nodup → ∀ x, gv (m.filter nzP) x = gv m x
  | [], _, x => rfl
  | p :: m, nd, x => by
    have nd : (p.1 :: aks m).Nodup := nd
    obtain ⟨n1, n2⟩ := List.nodup_cons.mp nd
    have ih := gv_nz n2 x
    rw [List.filter_cons]
    by_cases q : p.2 = 0
    · have : nzP p = false := by simp [nzP, q]
      rw [this]
      simp only [Bool.false_eq_true, if_false, ih]
      by_cases e : p.1 = x
      · subst e
        rw [gv_not n1]
        simp [gv, aget_cons, q]
      · simp [gv, aget_cons, e]
    · have : nzP p = true := by simp [nzP, q]
      rw [this]
      simp only [if_true]
      unfold gv at *
      rw [aget_cons, aget_cons]
      split
      · rfl
      · exact ih
theorem aks_nz {m : List (Nm × Int)} : (aks (m.filter nzP)).Sublist (aks m) := (List.filter_sublist).map _
theorem add1_keys {m : List (Nm × Int)} {k : Nm} (h : k ∈ aks m) (c : Int) : aks (add1 m k c) = aks m := by
  unfold add1
  rw [aset_keys, if_pos h]
theorem balM_keys {m : List (Nm × Int)} {d : Debt} (h1 : d.1 ∈ aks m) (h2 : d.2.1 ∈ aks m) : aks (balM m d) = aks m := by
  unfold balM
  rw [add1_keys (by rw [add1_keys h1]; exact h2), add1_keys h1]
theorem aks_len (m : List (Nm × Int)) : (aks m).length = m.length := by simp [aks]
theorem going_step {lot m : List (Nm × Int)} {found : List Debt} (h : GInv lot m found) (hl : 2 ≤ m.length) {p q : Nm × Int} (hp : p ∈ m) (hq : q ∈ m) (mx : ∀ r ∈ m, r.2 ≤ p.2) (mn : ∀ r ∈ m, q.2 ≤ r.2) {pc : Int} (hpc : pc = if -q.2 < p.2 then -q.2 else p.2) :
    1 ≤ pc ∧ p.1 ≠ q.1 ∧ GInv lot ((balM m (p.1, q.1, -pc)).filter nzP) (found ++ [(p.1, q.1, pc)]) ∧ ((balM m (p.1, q.1, -pc)).filter nzP).length < m.length := by
  have ne : m ≠ [] := fun e => by rw [e] at hl; simp at hl
  have pp : 0 < p.2 := by
    refine Classical.byContradiction fun n => ?_
    have := tot_neg ne fun r hr => by have := mx r hr; have := h.nz r hr; omega
    have := h.t0
    omega
  have qn : q.2 < 0 := by
    refine Classical.byContradiction fun n => ?_
    have := tot_pos ne fun r hr => by have := mn r hr; have := h.nz r hr; omega
    have := h.t0
    omega
  have pk : p.1 ∈ aks m := List.mem_map_of_mem hp
  have qk : q.1 ∈ aks m := List.mem_map_of_mem hq
  have gp := gv_of_mem h.nd p hp
  have gq := gv_of_mem h.nd q hq
  have un : p.1 ≠ q.1 := fun e => by rw [e] at gp; omega
  have p1 : 1 ≤ pc := by rw [hpc]; split <;> omega
  have ks := balM_keys (d := (p.1, q.1, -pc)) pk qk
  have nd2 : (aks (balM m (p.1, q.1, -pc))).Nodup := by rw [ks]; exact h.nd
  have len2 : (balM m (p.1, q.1, -pc)).length = m.length := by rw [← aks_len, ks, aks_len]
  have lt : ((balM m (p.1, q.1, -pc)).filter nzP).length < m.length := by
    have z : ∃ x ∈ aks m, gv (balM m (p.1, q.1, -pc)) x = 0 := by
      by_cases c : -q.2 < p.2
      · refine ⟨q.1, qk, ?_⟩
        rw [gv_balM, gq, hpc, if_pos c]
        simp [dX, un]
        omega
      · refine ⟨p.1, pk, ?_⟩
        rw [gv_balM, gp, hpc, if_neg c]
        simp [dX, un.symm]
        omega
    obtain ⟨x, hx, gx⟩ := z
    rw [← ks] at hx
    obtain ⟨r, hr, er⟩ := List.mem_map.mp hx
    have r0 : r.2 = 0 := by rw [← gv_of_mem nd2 r hr, er, gx]
    refine Nat.lt_of_le_of_ne (by rw [← len2]; exact List.length_filter_le _ _) fun e => ?_
    rw [← len2] at e
    have := List.length_filter_eq_length_iff.mp e r hr
    simp [nzP, r0] at this
  have dx : ∀ x, dX x (p.1, q.1, -pc) = - dX x (p.1, q.1, pc) := fun x => by
    unfold dX
    simp only
    split <;> split <;> omega
  have pb : pc ≤ p.2 ∧ pc ≤ -q.2 := by rw [hpc]; split <;> omega
  have pB := h.bd p hp
  have qB := h.bd q hq
  refine ⟨p1, un, ⟨nd2.sublist aks_nz, fun r hr => by simpa [nzP] using (List.mem_filter.mp hr).2, fun k hk => h.nm k (ks ▸ aks_nz.subset hk), by rw [tot_nz, tot_bal, h.t0], fun x => ?_, fun r hr => ?_, fun d hd => ?_, ?_⟩, lt⟩
  · rw [net_app, gv_nz nd2, gv_balM, dx]
    have := h.eq x
    have e : netX [(p.1, q.1, pc)] x = dX x (p.1, q.1, pc) := by simp [netX]
    omega
  · have hr := (List.mem_filter.mp hr).1
    have rv := gv_of_mem nd2 r hr
    rw [gv_balM, dx] at rv
    have rk : r.1 ∈ aks m := ks ▸ List.mem_map_of_mem hr
    obtain ⟨r0, h0, e0⟩ := List.mem_map.mp rk
    have g0 := gv_of_mem h.nd r0 h0
    have b0 := h.bd r0 h0
    rw [e0] at g0
    rw [g0] at rv
    unfold dX at rv
    simp only at rv
    by_cases c1 : p.1 = r.1
    · have c2 : ¬ q.1 = r.1 := fun e => un (c1.trans e.symm)
      rw [if_pos c1, if_neg c2] at rv
      rw [← c1, gp] at g0
      omega
    · rw [if_neg c1] at rv
      by_cases c2 : q.1 = r.1
      · rw [if_pos c2] at rv
        rw [← c2, gq] at g0
        omega
      · rw [if_neg c2] at rv
        omega
  · rcases List.mem_append.mp hd with hd | hd
    · exact h.ok d hd
    · have e : d = (p.1, q.1, pc) := by simpa using hd
      subst e
      exact ⟨⟨⟨(h.nm _ pk).1, (h.nm _ qk).1, un, p1⟩, show pc ≤ BD by omega⟩, (h.nm _ pk).2, (h.nm _ qk).2⟩
  · have := h.ct
    simp only [List.length_append, List.length_cons, List.length_nil]
    omega
theorem going_end {lot m : List (Nm × Int)} {found : List Debt} (h : GInv lot m found) (hl : m.length ≤ 1) : m = [] := by
  match m, hl, h with
  | [], _, _ => rfl
  | [p], _, h =>
    have := h.t0
    have := h.nz p (by simp)
    simp [tot] at *
    omega
end LW
namespace LW
open TB
def sdE (m : List (Nm × Int)) : List (D × D) := encA D.str D.int m
theorem fold_aset : ∀ (l m : List (Nm × Int)), (aks (m ++ l)).Nodup → l.foldl (fun m p => aset m p.1 p.2) m = m ++ l
  | [], m, _ => by simp
  | p :: l, m, h => by
    have e : m ++ p :: l = (m ++ [p]) ++ l := by simp
    have hn : p.1 ∉ aks m := fun n => by
      have h2 : (aks m ++ (p.1 :: aks l)).Nodup := by simpa [aks] using h
      exact (List.nodup_append.mp h2).2.2 p.1 n p.1 List.mem_cons_self rfl
    have a : aset m p.1 p.2 = m ++ [p] := by
      clear e h
      induction m with
      | nil => rfl
      | cons q m ih =>
        have n1 : q.1 ≠ p.1 := fun e => hn (by simp [aks, e])
        rw [aset_cons, if_neg n1, ih fun n => hn (by simp only [aks, List.map_cons, List.mem_cons]; exact .inr n)]
        rfl
    rw [List.foldl_cons, a, e]
    exact fold_aset l (m ++ [p]) (by rw [← e]; exact h)
theorem dict_bal {l : List (Nm × Int)} (nd : (aks l).Nodup) : fDictL [.lst (l.map balE)] = some (.dK .fz, .dic (sdE l)) := by
  have pk : ∀ l : List (Nm × Int), pairsKV (l.map balE) = some (l.map fun p => (D.str p.1, D.int p.2)) := fun l => by
    induction l with
    | nil => rfl
    | cons p l ih => rw [List.map_cons]; unfold pairsKV; rw [ih]; rfl
  show (pairsKV _).bind _ = _
  rw [pk]
  show some ((Kd.dK .fz, D.dic (mergeD [] (l.map fun p => (D.str p.1, D.int p.2)))) : KD) = _
  have := merge_enc (K := D.str) (V := D.int) eqv_str (fun _ => rfl) l [] (by simp [aks])
  rw [show (encA D.str D.int ([] : List (Nm × Int))) = [] from rfl] at this
  rw [this, fold_aset l [] (by simpa using nd)]
  rfl
theorem lenD (m : List (Nm × Int)) : fLenD [.dic (sdE m)] = some (.fz, .int m.length) := by
  show kz (.int (sdE m).length) = _
  unfold sdE
  rw [encA_len]
  rfl
def mxE (p : Nm × Int) : D := .tup [.int p.2, .str p.1]
theorem lt_mx (a b : Nm × Int) : (D.lt (mxE a) (mxE b) = true → a.2 ≤ b.2) ∧ (D.lt (mxE a) (mxE b) = false → b.2 ≤ a.2) := by
  have e : D.lt (mxE a) (mxE b) = if (a.2 == b.2) = true then D.lts [.str a.1] [.str b.1] else decide (a.2 < b.2) := rfl
  rw [e]
  by_cases q : a.2 = b.2
  · simp [q]
  · simp [q]; omega
theorem max_mx : ∀ (xs : List (Nm × Int)) (x : Nm × Int), ∃ p ∈ x :: xs, maxD (mxE x) (xs.map mxE) = mxE p ∧ ∀ r ∈ x :: xs, r.2 ≤ p.2
  | [], x => ⟨x, by simp, rfl, fun r hr => by simp at hr; subst hr; exact Int.le_refl _⟩
  | y :: xs, x => by
    have st : maxD (mxE x) ((y :: xs).map mxE) = maxD (mxE (if D.lt (mxE x) (mxE y) = true then y else x)) (xs.map mxE) := by
      show maxD (if D.lt (mxE x) (mxE y) = true then mxE y else mxE x) (xs.map mxE) = _
      congr 1
      split <;> rfl
    obtain ⟨l1, l2⟩ := lt_mx x y
    rw [st]
    obtain ⟨p, hp, ep, mp⟩ := max_mx xs (if D.lt (mxE x) (mxE y) = true then y else x)
    have h0 := mp _ List.mem_cons_self
    refine ⟨p, ?_, ep, fun r hr => ?_⟩
    · rcases List.mem_cons.mp hp with e | e
      · rw [e]; split <;> simp
      · exact List.mem_cons_of_mem _ (List.mem_cons_of_mem _ e)
    · cases q : D.lt (mxE x) (mxE y) with
      | true =>
        have := l1 q
        rw [q] at h0
        simp only [if_true] at h0
        rcases List.mem_cons.mp hr with rfl | hr
        · omega
        · rcases List.mem_cons.mp hr with rfl | hr
          · exact h0
          · exact mp r (List.mem_cons_of_mem _ hr)
      | false =>
        have := l2 q
        rw [q] at h0
        simp only [Bool.false_eq_true, if_false] at h0
        rcases List.mem_cons.mp hr with rfl | hr
        · exact h0
        · rcases List.mem_cons.mp hr with rfl | hr
          · omega
          · exact mp r (List.mem_cons_of_mem _ hr)
theorem min_mx : ∀ (xs : List (Nm × Int)) (x : Nm × Int), ∃ p ∈ x :: xs, minD (mxE x) (xs.map mxE) = mxE p ∧ ∀ r ∈ x :: xs, p.2 ≤ r.2
  | [], x => ⟨x, by simp, rfl, fun r hr => by simp at hr; subst hr; exact Int.le_refl _⟩
  | y :: xs, x => by
    have st : minD (mxE x) ((y :: xs).map mxE) = minD (mxE (if D.lt (mxE y) (mxE x) = true then y else x)) (xs.map mxE) := by
      show minD (if D.lt (mxE y) (mxE x) = true then mxE y else mxE x) (xs.map mxE) = _
      congr 1
      split <;> rfl
    obtain ⟨l1, l2⟩ := lt_mx y x
    rw [st]
    obtain ⟨p, hp, ep, mp⟩ := min_mx xs (if D.lt (mxE y) (mxE x) = true then y else x)
    have h0 := mp _ List.mem_cons_self
    refine ⟨p, ?_, ep, fun r hr => ?_⟩
    · rcases List.mem_cons.mp hp with e | e
      · rw [e]; split <;> simp
      · exact List.mem_cons_of_mem _ (List.mem_cons_of_mem _ e)
    · cases q : D.lt (mxE y) (mxE x) with
      | true =>
        have := l1 q
        rw [q] at h0
        simp only [if_true] at h0
        rcases List.mem_cons.mp hr with rfl | hr
        · omega
        · rcases List.mem_cons.mp hr with rfl | hr
          · exact h0
          · exact mp r (List.mem_cons_of_mem _ hr)
      | false =>
        have := l2 q
        rw [q] at h0
        simp only [Bool.false_eq_true, if_false] at h0
        rcases List.mem_cons.mp hr with rfl | hr
        · exact h0
        · rcases List.mem_cons.mp hr with rfl | hr
          · omega
          · exact mp r (List.mem_cons_of_mem _ hr)
theorem mx_ok {m : List (Nm × Int)} (h : ∀ k ∈ aks m, nameS k = true) : alkAll (m.map mxE) = true ∧ D.lays 60 (m.map mxE) = true := by
  constructor
  · unfold alkAll
    rw [List.all_eq_true]
    intro a ha
    rw [List.all_eq_true]
    intro b hb
    obtain ⟨p, _, rfl⟩ := List.mem_map.mp ha
    obtain ⟨q, _, rfl⟩ := List.mem_map.mp hb
    simp [mxE, D.alk, D.alks]
  · refine lays_all fun a ha => ?_
    obtain ⟨p, hp, rfl⟩ := List.mem_map.mp ha
    have := name_lay (h p.1 (List.mem_map_of_mem hp)) 59
    show D.lays 59 [.int p.2, .str p.1] = true
    simp only [D.lays, this, Bool.and_true]
    simp [D.lay]
theorem maxA_mx {m : List (Nm × Int)} (h : ∀ k ∈ aks m, nameS k = true) (ne : m ≠ []) (hl : m.length ≤ 1000) : ∃ p ∈ m, fMaxA [.lst (m.map mxE)] = some (.fz, mxE p) ∧ ∀ r ∈ m, r.2 ≤ p.2 := by
  cases m with
  | nil => exact absurd rfl ne
  | cons x xs =>
    obtain ⟨h1, h2⟩ := mx_ok h
    obtain ⟨p, hp, ep, mp⟩ := max_mx xs x
    refine ⟨p, hp, ?_, mp⟩
    show (match (none : Option KD) with | some a => some a | none => (if alkAll (mxE x :: xs.map mxE) = true ∧ D.lays 60 (mxE x :: xs.map mxE) = true ∧ (mxE x :: xs.map mxE).length ≤ sizeMax then kz (maxD (mxE x) (xs.map mxE)) else none)) = _
    rw [ep, if_pos ⟨h1, h2, by simp at hl ⊢; unfold sizeMax; omega⟩]
    rfl
theorem minA_mx {m : List (Nm × Int)} (h : ∀ k ∈ aks m, nameS k = true) (ne : m ≠ []) (hl : m.length ≤ 1000) : ∃ p ∈ m, fMinA [.lst (m.map mxE)] = some (.fz, mxE p) ∧ ∀ r ∈ m, p.2 ≤ r.2 := by
  cases m with
  | nil => exact absurd rfl ne
  | cons x xs =>
    obtain ⟨h1, h2⟩ := mx_ok h
    obtain ⟨p, hp, ep, mp⟩ := min_mx xs x
    refine ⟨p, hp, ?_, mp⟩
    show (match (none : Option KD) with | some a => some a | none => (if alkAll (mxE x :: xs.map mxE) = true ∧ D.lays 60 (mxE x :: xs.map mxE) = true ∧ (mxE x :: xs.map mxE).length ≤ sizeMax then kz (minD (mxE x) (xs.map mxE)) else none)) = _
    rw [ep, if_pos ⟨h1, h2, by simp at hl ⊢; unfold sizeMax; omega⟩]
    rfl
def kOf (m : List (Nm × Int)) (f : Nm × Int → D) : D → D
  | .str k => f (k, gv m k)
  | _ => .non
theorem map_keys {m : List (Nm × Int)} (nd : (aks m).Nodup) (f : Nm × Int → D) : ((aks m).map D.str).map (kOf m f) = m.map f := by
  unfold aks
  rw [List.map_map, List.map_map]
  refine List.map_congr_left fun p hp => ?_
  show f (p.1, gv m p.1) = f p
  rw [gv_of_mem nd p hp]
theorem tup_imm (i : Int) (s : Nm) : D.imm (.tup [.int i, .str s]) = true := rfl
/-- [(left[pupil], pupil) for pupil in left] -/
theorem mx_lc {m : List (Nm × Int)} {s0 s2 s3 s4 s5 : Slot} (nd : (aks m).Nodup) (hl : m.length ≤ 1000) :
    eLockLI 1 (eLc (itLdc 1) (.nm 6) [6] tTrue (eApp fTup [(eOp fGetL (eVar 1) (eVar 6)), (eVar 6)])) [s0, some (.dK .fz, .dic (sdE m)), s2, s3, s4, s5, none] = .ok (.li .fz, .lst (m.map mxE)) [s0, some (.dK .fz, .dic (sdE m)), s2, s3, s4, s5, none] := by
  let S1 : List Slot := [frz s0, some (.fz, .ldc (sdE m)), frz s2, frz s3, frz s4, frz s5, none]
  have z := lc_pure (v := 6) (S := S1) (S0 := S1) (it := itLdc 1) (c := tTrue) (e := eApp fTup [(eOp fGetL (eVar 1) (eVar 6)), (eVar 6)]) (ds := (aks m).map D.str) (fun _ => true) (kOf m mxE) (by simp [S1, sdE, keys_enc]) (by simp [S1]) rfl (fun _ _ => rfl)
    (fun d hd _ => by
      obtain ⟨k, hk, rfl⟩ := List.mem_map.mp hd
      exact ⟨.fz, by simp [S1, sdE, getL_enc m hk, tup_f, kOf, mxE]⟩) (by rw [List.length_map, aks_len]; unfold sizeMax; omega)
  rw [filter_true, map_keys nd] at z
  have im : D.imms (m.map mxE) = true := imms_all fun x hx => by obtain ⟨p, _, rfl⟩ := List.mem_map.mp hx; exact tup_imm _ _
  rw [eLockLI_ap]
  simp only [List.getElem?_cons_succ, List.getElem?_cons_zero]
  rw [show (List.map frz [s0, some (Kd.dK .fz, D.dic (sdE m)), s2, s3, s4, s5, none]).set 1 (some (.fz, .ldc (sdE m))) = S1 from rfl, z]
  simp [im]
/-- [(pupil, left[pupil]) for pupil in left if left[pupil] != 0] -/
theorem nz_lc {m : List (Nm × Int)} {s0 s2 s3 s4 s5 : Slot} (nd : (aks m).Nodup) (hl : m.length ≤ 1000) :
    eLockLI 1 (eLc (itLdc 1) (.nm 6) [6] (eBool (eOp fNe (eOp fGetL (eVar 1) (eVar 6)) (eCon (.int 0)))) (eApp fTup [(eVar 6), (eOp fGetL (eVar 1) (eVar 6))])) [s0, some (.dK .fz, .dic (sdE m)), s2, s3, s4, s5, none] = .ok (.li .fz, .lst ((m.filter nzP).map balE)) [s0, some (.dK .fz, .dic (sdE m)), s2, s3, s4, s5, none] := by
  let S1 : List Slot := [frz s0, some (.fz, .ldc (sdE m)), frz s2, frz s3, frz s4, frz s5, none]
  have z := lc_pure (v := 6) (S := S1) (S0 := S1) (it := itLdc 1) (c := eBool (eOp fNe (eOp fGetL (eVar 1) (eVar 6)) (eCon (.int 0)))) (e := eApp fTup [(eVar 6), (eOp fGetL (eVar 1) (eVar 6))]) (ds := (aks m).map D.str)
    (fun d => match d with | .str k => nzP (k, gv m k) | _ => false) (kOf m balE) (by simp [S1, sdE, keys_enc]) (by simp [S1]) rfl
    (fun d hd => by
      obtain ⟨k, hk, rfl⟩ := List.mem_map.mp hd
      simp [S1, sdE, getL_enc m hk, neI, nzP])
    (fun d hd _ => by
      obtain ⟨k, hk, rfl⟩ := List.mem_map.mp hd
      exact ⟨.fz, by simp [S1, sdE, getL_enc m hk, tup_f, kOf, balE]⟩) (by rw [List.length_map, aks_len]; unfold sizeMax; omega)
  have er : (((aks m).map D.str).filter (fun d => match d with | .str k => nzP (k, gv m k) | _ => false)).map (kOf m balE) = (m.filter nzP).map balE := by
    unfold aks
    rw [List.map_map, List.filter_map, List.map_map]
    have ef : m.filter ((fun d => match d with | .str k => nzP (k, gv m k) | _ => false) ∘ (D.str ∘ fun p => p.1)) = m.filter nzP := List.filter_congr fun p hp => by
      show nzP (p.1, gv m p.1) = nzP p
      rw [gv_of_mem nd p hp]
    rw [ef]
    refine List.map_congr_left fun p hp => ?_
    show balE (p.1, gv m p.1) = balE p
    rw [gv_of_mem nd p (List.mem_filter.mp hp).1]
  rw [er] at z
  have im : D.imms ((m.filter nzP).map balE) = true := imms_all fun x hx => by obtain ⟨p, _, rfl⟩ := List.mem_map.mp hx; exact balE_imm p
  rw [eLockLI_ap]
  simp only [List.getElem?_cons_succ, List.getElem?_cons_zero]
  rw [show (List.map frz [s0, some (Kd.dK .fz, D.dic (sdE m)), s2, s3, s4, s5, none]).set 1 (some (.fz, .ldc (sdE m))) = S1 from rfl, z]
  simp [im]
theorem augD_ap {S : List Slot} {m : List (Nm × Int)} {k : Nm} {i : Nat} {pc : Int} (s : Bool) (h1 : S[1]? = some (some (.dK .fz, .dic (sdE m)))) (nd : (aks m).Nodup) (hk : k ∈ aks m) (hl : m.length ≤ 1000) (h3 : S[i]? = some (some (.fz, .str k))) (h5 : S[5]? = some (some (.fz, .int pc))) :
    pAugD 1 [] (eVar i) s (eVar 5) S = .ok .nx (S.set 1 (some (.dK .fz, .dic (sdE (add1 m k (if s then -pc else pc)))))) := by
  have tg : tgt 1 [] S = some ⟨[], .dK .fz, .dic (sdE m), .dK .fz, .dic (sdE m)⟩ := by
    unfold tgt
    rw [h1]
    rfl
  have e3 : eFzD (eVar i) S = some (.str k) := by unfold eFzD; simp [h3]
  have e5 : eFzD (eVar 5) S = some (.int pc) := by unfold eFzD; simp [h5]
  have va : valD (sdE m) (.str k) = some (.int (gv m k)) := by
    have := val_enc (K := D.str) (V := D.int) eqv_str m k
    unfold sdE
    rw [this]
    unfold gv
    cases q : aget m k with
    | none => exact absurd hk (aget_none.mp q)
    | some v => rfl
  have pu : putD (sdE m) (.str k) (.int (augI s (gv m k) pc)) = sdE (add1 m k (if s then -pc else pc)) := by
    have := put_enc (K := D.str) (V := D.int) eqv_str nd k (augI s (gv m k) pc)
    unfold sdE
    rw [this]
    unfold add1
    congr 2
    cases s <;> simp [augI]
    omega
  have l : (sdE m).length < sizeMax := by unfold sdE; rw [encA_len]; unfold sizeMax; omega
  unfold pAugD
  rw [tg, e3, e5]
  simp only [isKey, l, and_self, if_true, va, Tgt.put, setKD, Option.map_some, pOk, pu]
section
variable {Γ : Nat → Fn}
def gC : T := tPeek (eBool (eOp fGt (eApp fLenD [(eVar 1)]) (eCon (.int 1))))
def gB : St := (sSeq (sSet 3 (eOp fIx (eApp fMaxA [(eLockLI 1 (eLc (itLdc 1) (.nm 6) [6] tTrue (eApp fTup [(eOp fGetL (eVar 1) (eVar 6)), (eVar 6)])))]) (eCon (.int 1)))) (sSeq (sSet 4 (eOp fIx (eApp fMinA [(eLockLI 1 (eLc (itLdc 1) (.nm 6) [6] tTrue (eApp fTup [(eOp fGetL (eVar 1) (eVar 6)), (eVar 6)])))]) (eCon (.int 1)))) (sSeq (sSet 5 (ePeekI (eApp fMin2 [(eOp fGet (eVar 1) (eVar 3)), (eOp fSub (eCon (.int 0)) (eOp fGet (eVar 1) (eVar 4)))]))) (sSeq (sDrop (eMth fAppend 2 [(eApp fTup [(eVar 3), (eVar 4), (eVar 5)])])) (sSeq (pAugD 1 [] (eVar 3) true (eVar 5)) (sSeq (pAugD 1 [] (eVar 4) false (eVar 5)) (sSet 1 (eApp fDictL [(eLockLI 1 (eLc (itLdc 1) (.nm 6) [6] (eBool (eOp fNe (eOp fGetL (eVar 1) (eVar 6)) (eCon (.int 0)))) (eApp fTup [(eVar 6), (eOp fGetL (eVar 1) (eVar 6))])))]))))))))
def gS (lot m : List (Nm × Int)) (found : List Debt) (x3 x4 x5 : Slot) : List Slot := [some (.fz, .lst (lot.map balE)), some (.dK .fz, .dic (sdE m)), some (.li .fz, .lst (found.map debtE)), x3, x4, x5, none]
theorem mx_1 (p : Nm × Int) : fIx (mxE p) (.int 1) = some (.fz, .str p.1) := rfl
theorem body_200 {lot m : List (Nm × Int)} {found : List Debt} {x3 x4 x5 : Slot} (h : GInv lot m found) (hl : 2 ≤ m.length) (hL : lot.length ≤ 100) : ∃ m' found' y3 y4 y5, gB (gS lot m found x3 x4 x5) = .ok .nx (gS lot m' found' y3 y4 y5) ∧ GInv lot m' found' ∧ m'.length < m.length := by
  have ne : m ≠ [] := fun e => by rw [e] at hl; simp at hl
  have ct := h.ct
  have ml : m.length ≤ 1000 := by omega
  obtain ⟨p, hp, ep, mp⟩ := maxA_mx (fun k hk => (h.nm k hk).1) ne ml
  obtain ⟨q, hq, eq, mq⟩ := minA_mx (fun k hk => (h.nm k hk).1) ne ml
  obtain ⟨pc, hpc⟩ : ∃ pc, pc = if -q.2 < p.2 then -q.2 else p.2 := ⟨_, rfl⟩
  obtain ⟨p1, un, inv, lt⟩ := going_step h hl hp hq mp mq hpc
  refine ⟨_, _, some (.fz, .str p.1), some (.fz, .str q.1), some (.fz, .int pc), ?_, inv, lt⟩
  have pk : p.1 ∈ aks m := List.mem_map_of_mem hp
  have qk : q.1 ∈ aks m := List.mem_map_of_mem hq
  have g1 : fGet (.dic (sdE m)) (.str p.1) = some (.fz, .int p.2) := by rw [← gv_of_mem h.nd p hp]; exact get_enc m pk
  have g2 : fGet (.dic (sdE m)) (.str q.1) = some (.fz, .int q.2) := by rw [← gv_of_mem h.nd q hq]; exact get_enc m qk
  have mn : fMin2 [.int p.2, .int (-q.2)] = some (.fz, .int pc) := by rw [hpc]; rfl
  have sb : fSub (.int 0) (.int q.2) = some (.fz, .int (-q.2)) := sub0 _
  have z1 := fun s2 s3 s4 s5 => mx_lc (m := m) (s0 := some (.fz, .lst (lot.map balE))) (s2 := s2) (s3 := s3) (s4 := s4) (s5 := s5) h.nd ml
  have ap : fAppend (found.map debtE) [.tup [.str p.1, .str q.1, .int pc]] = some (.non, (found ++ [(p.1, q.1, pc)]).map debtE) := by
    show (if _ < sizeMax then _ else none) = _
    rw [if_pos (by rw [List.length_map]; unfold sizeMax; omega), List.map_append]
    rfl
  have nd1 : (aks (add1 m p.1 (-pc))).Nodup := by rw [add1_keys pk]; exact h.nd
  have a1 := augD_ap (S := [some (.fz, .lst (lot.map balE)), some (.dK .fz, .dic (sdE m)), some (.li .fz, .lst ((found ++ [(p.1, q.1, pc)]).map debtE)), some (.fz, .str p.1), some (.fz, .str q.1), some (.fz, .int pc), none]) (i := 3) true rfl h.nd pk ml rfl rfl
  have a2 := augD_ap (S := [some (.fz, .lst (lot.map balE)), some (.dK .fz, .dic (sdE (add1 m p.1 (-pc)))), some (.li .fz, .lst ((found ++ [(p.1, q.1, pc)]).map debtE)), some (.fz, .str p.1), some (.fz, .str q.1), some (.fz, .int pc), none]) (i := 4) false rfl nd1 (by rw [add1_keys pk]; exact qk) (by rw [← aks_len, add1_keys pk, aks_len]; exact ml) rfl rfl
  have eb : add1 (add1 m p.1 (-pc)) q.1 pc = balM m (p.1, q.1, -pc) := by unfold balM; simp
  simp only [if_true, Bool.false_eq_true, if_false, eb] at a1 a2
  have ks := balM_keys (d := (p.1, q.1, -pc)) pk qk
  have nd2 : (aks (balM m (p.1, q.1, -pc))).Nodup := by rw [ks]; exact h.nd
  have z2 := nz_lc (m := balM m (p.1, q.1, -pc)) (s0 := some (.fz, .lst (lot.map balE))) (s2 := some (.li .fz, .lst ((found ++ [(p.1, q.1, pc)]).map debtE))) (s3 := some (.fz, .str p.1)) (s4 := some (.fz, .str q.1)) (s5 := some (.fz, .int pc)) nd2 (by rw [← aks_len, ks, aks_len]; exact ml)
  have db := dict_bal inv.nd
  have im : ∀ i : Int, D.imm (.int i) = true := fun _ => rfl
  unfold gB gS
  simp [z1, z2, ep, eq, mx_1, frz, g1, g2, sb, mn, im, ap, ownL, tup_f, a1, a2, db, -eLockLI_ap, -List.map_append]
theorem loop_200 {lot : List (Nm × Int)} (hL : lot.length ≤ 100) : ∀ (fu : Nat) (m : List (Nm × Int)) (found : List Debt) (x3 x4 x5 : Slot), m.length < fu → GInv lot m found → okP (sWhile fu gC gB (gS lot m found x3 x4 x5)) fun f S => f = .nx ∧ ∃ found' y3 y4 y5, GInv lot [] found' ∧ S = gS lot [] found' y3 y4 y5
  | 0, _, _, _, _, _, h, _ => absurd h (Nat.not_lt_zero _)
  | fu + 1, m, found, x3, x4, x5, h, inv => by
    refine whileT ?_
    have ec : gC (gS lot m found x3 x4 x5) = .ok (decide (1 < m.length)) (gS lot m found x3 x4 x5) := by
      have g : fGt (.int (m.length : Int)) (.int 1) = some (.fz, .bl (decide (1 < m.length))) := by
        show kz (.bl (decide ((1 : Int) < (m.length : Int)))) = _
        congr 2
        by_cases q : 1 < m.length
        · have : (1 : Int) < (m.length : Int) := by omega
          rw [decide_eq_true this, decide_eq_true q]
        · have : ¬ (1 : Int) < (m.length : Int) := by omega
          rw [decide_eq_false this, decide_eq_false q]
      unfold gC gS
      simp [frz, lenD, g]
    rw [ec]
    show if decide (1 < m.length) = true then _ else _
    by_cases q : 1 < m.length
    · rw [if_pos (by simpa using q)]
      obtain ⟨m', found', y3, y4, y5, e, inv', lt⟩ := body_200 (x3 := x3) (x4 := x4) (x5 := x5) inv q hL
      rw [e]
      exact ⟨rfl, loop_200 hL fu m' found' y3 y4 y5 (by omega) inv'⟩
    · rw [if_neg (by simpa using q)]
      have e := going_end inv (by omega)
      subst e
      exact ⟨rfl, found, x3, x4, x5, inv, rfl⟩
def G200 (F : Fn) : Prop := ∀ lot : List (Nm × Int), (aks lot).Nodup → (∀ p ∈ lot, p.2 ≠ 0) → (∀ p ∈ lot, p.2 ≤ BD ∧ -BD ≤ p.2) → (∀ k ∈ aks lot, nameS k = true) → tot lot = 0 → lot ≠ [] → lot.length ≤ 60 → ∃ found : List Debt, F [(.fz, .lst (lot.map balE))] = .ret (.fz, .lst (found.map debtE)) [] ∧ (∀ x, netX found x = gv lot x) ∧ (∀ d ∈ found, goB2 d ∧ d.1 ∈ aks lot ∧ d.2.1 ∈ aks lot) ∧ found.length + 1 ≤ lot.length
theorem goings_200 : G200 (runF 7 [] (mb_200 Γ)) := fun lot nd nz bd nm t0 ne hl => by
  have main : FnP (runF 7 [] (mb_200 Γ)) [(.fz, .lst (lot.map balE))] fun r o => (∃ found : List Debt, r = (.fz, .lst (found.map debtE)) ∧ GInv lot [] found) ∧ o = [] := by
    refine runF_wp (by rfl) ?_
    have ct0 : ([] : List Debt).length + max 1 lot.length ≤ lot.length := by
      have : 0 < lot.length := List.length_pos_iff.mpr ne
      simp
      omega
    have lp := loop_200 (lot := lot) (by omega) 64 lot [] none none none (by omega) ⟨nd, nz, fun k hk => ⟨nm k hk, hk⟩, t0, fun x => by simp [netX], bd, fun d hd => absurd hd List.not_mem_nil, ct0⟩
    unfold gS gC gB at lp
    have e0 : fLst [] = some (.li .fz, .lst []) := rfl
    simp [mb_200, dict_bal nd, e0, -eLockLI_ap, -Prod.exists, -Prod.forall]
    refine lp.mono ?_
    rintro f S ⟨rfl, found, y3, y4, y5, inv, rfl⟩
    simp [outsOf, Kd.isF]
    exact ⟨found, rfl, inv⟩
  obtain ⟨r, o, e, ⟨found, rfl, inv⟩, rfl⟩ := main
  refine ⟨found, e, fun x => ?_, inv.ok, by have := inv.ct; simpa using this⟩
  have := inv.eq x
  have z : gv ([] : List (Nm × Int)) x = 0 := rfl
  omega
end
end LW
namespace LW
open TB
theorem nd_inj {α : Type} {l : List α} (nd : l.Nodup) {i j : Nat} (hi : i < l.length) (hj : j < l.length) (e : l[i] = l[j]) : i = j := by
  have h := List.pairwise_iff_getElem.mp nd
  refine Classical.byContradiction fun ne => ?_
  rcases Nat.lt_or_gt_of_ne ne with l1 | l1
  · exact h i j hi hj l1 e
  · exact h j i hj hi l1 e.symm
def wX (x : Nm) (p : Nm × Int) : Int := if p.1 = x then p.2 else 0
theorem gv_sum : ∀ {l : List (Nm × Int)}, (aks l).Nodup → ∀ x, gv l x = (l.map (wX x)).sum
  | [], _, x => rfl
  | p :: l, nd, x => by
    have nd : (p.1 :: aks l).Nodup := nd
    obtain ⟨n1, n2⟩ := List.nodup_cons.mp nd
    have ih := gv_sum n2 x
    rw [List.map_cons, List.sum_cons, ← ih]
    by_cases e : p.1 = x
    · subst e
      rw [gv_not n1]
      simp [gv, aget_cons, wX]
    · simp [gv, aget_cons, wX, e]
def rowN (rows : List (Nm × Int)) (k : Nat) : Nm × Int := rows.getD k ([], 0)
def lotR (rows : List (Nm × Int)) (l : List Nat) : List (Nm × Int) := l.map (rowN rows)
theorem rows_range (rows : List (Nm × Int)) : lotR rows (List.range rows.length) = rows := by
  unfold lotR rowN
  refine List.ext_getElem (by simp) fun i h1 h2 => ?_
  simp [List.getD_eq_getElem?_getD, h2]
theorem sum_flat {α : Type} (f : α → Int) : ∀ L : List (List α), (L.flatten.map f).sum = (L.map fun l => (l.map f).sum).sum
  | [] => rfl
  | l :: L => by rw [List.flatten_cons, List.map_append, List.sum_append, sum_flat f L]; rfl
theorem lot_vals (rows : List (Nm × Int)) {l : List Nat} (h : ∀ k ∈ l, k < rows.length) : tot (lotR rows l) = sumK (rows.map (·.2)) l := by
  unfold tot lotR sumK
  rw [List.map_map]
  congr 1
  refine List.map_congr_left fun k hk => ?_
  have := h k hk
  show (rowN rows k).2 = _
  simp [rowN, List.getD_eq_getElem?_getD, this]
theorem row_mem {rows : List (Nm × Int)} {k : Nat} (h : k < rows.length) : rowN rows k ∈ rows := by
  unfold rowN
  simp [List.getD_eq_getElem?_getD, h]
theorem lot_keys {rows : List (Nm × Int)} (nd : (aks rows).Nodup) {l : List Nat} (nl : l.Nodup) (h : ∀ k ∈ l, k < rows.length) : (aks (lotR rows l)).Nodup := by
  have e : aks (lotR rows l) = l.map fun k => (aks rows).getD k [] := by
    unfold aks lotR
    rw [List.map_map]
    refine List.map_congr_left fun k hk => ?_
    have := h k hk
    simp [rowN, List.getD_eq_getElem?_getD, this]
  rw [e]
  refine List.pairwise_map.mpr ?_
  refine nl.imp_of_mem fun {a b} ha hb ne q => ne ?_
  have la : a < (aks rows).length := by rw [aks_len]; exact h a ha
  have lb : b < (aks rows).length := by rw [aks_len]; exact h b hb
  simp only [List.getD_eq_getElem?_getD, List.getElem?_eq_getElem la, List.getElem?_eq_getElem lb, Option.getD_some] at q
  exact nd_inj nd la lb q
/-- what all lots have is what the rows have -/
theorem lots_gv {rows : List (Nm × Int)} (nd : (aks rows).Nodup) {L : List (List Nat)} (pm : L.flatten.Perm (List.range rows.length)) (x : Nm) : (L.map fun l => gv (lotR rows l) x).sum = gv rows x := by
  have ndL : L.flatten.Nodup := pm.nodup_iff.mpr List.nodup_range
  have bd : ∀ l ∈ L, ∀ k ∈ l, k < rows.length := fun l hl k hk => List.mem_range.mp (pm.mem_iff.mp (List.mem_flatten.mpr ⟨l, hl, hk⟩))
  have nl : ∀ l ∈ L, l.Nodup := fun l hl => by
    obtain ⟨a, b, e⟩ := List.append_of_mem hl
    rw [e] at ndL
    simp only [List.flatten_append, List.flatten_cons] at ndL
    exact (List.nodup_append.mp (List.nodup_append.mp ndL).2.1).1
  have e1 : (L.map fun l => gv (lotR rows l) x) = L.map fun l => (l.map fun k => wX x (rowN rows k)).sum := List.map_congr_left fun l hl => by
    rw [gv_sum (lot_keys nd (nl l hl) (bd l hl))]
    unfold lotR
    rw [List.map_map]
    rfl
  rw [e1, ← sum_flat, sum_perm (pm.map _)]
  have e2 := gv_sum nd x
  rw [e2]
  have := rows_range rows
  unfold lotR at this
  conv => rhs; rw [← this]
  rw [List.map_map]
  rfl
/-- goings that settle: not fewer than lots leave -/
theorem goings_ge {rows : List (Nm × Int)} (nd : (aks rows).Nodup) (hn : rows.length ≤ 8) {gs : List Debt} (hg : ∀ d ∈ gs, d.1 ∈ aks rows ∧ d.2.1 ∈ aks rows) (e : ∀ x, netX gs x = gv rows x) : (rows.length : Int) - (fE (rows.map (·.2)) rows.length (2 ^ rows.length - 1)).1 ≤ gs.length := by
  obtain ⟨P, p1, p2, p3⟩ := part_of (aks rows) nd gs hg
  let ix : Nm → Nat := fun x => (aks rows).idxOf x
  have ixl : ∀ x ∈ aks rows, ix x < rows.length := fun x hx => by rw [← aks_len]; exact List.idxOf_lt_length_of_mem hx
  have ixv : ∀ x ∈ aks rows, (rows.map (·.2)).getD (ix x) 0 = netX gs x := fun x hx => by
    have l1 := ixl x hx
    have l2 : ix x < (aks rows).length := by rw [aks_len]; exact l1
    have ge : (aks rows)[ix x] = x := List.getElem_idxOf l2
    have rk : rows[ix x].1 = x := by
      have : (aks rows)[ix x] = rows[ix x].1 := by simp [aks]
      rw [← this, ge]
    rw [e x, List.getD_eq_getElem?_getD]
    simp only [List.getElem?_map, List.getElem?_eq_getElem l1, Option.map_some, Option.getD_some]
    rw [← gv_of_mem nd rows[ix x] (List.getElem_mem l1), rk]
  have mem : ∀ l ∈ P, ∀ x ∈ l, x ∈ aks rows := fun l hl x hx => p1.mem_iff.mp (List.mem_flatten.mpr ⟨l, hl, hx⟩)
  have fl : (P.map fun l => l.map ix).flatten = P.flatten.map ix := by rw [List.map_flatten]
  have inj : ∀ x ∈ aks rows, ∀ y ∈ aks rows, ix x = ix y → x = y := fun x hx y hy q => by
    have l1 : ix x < (aks rows).length := List.idxOf_lt_length_of_mem hx
    have l2 : ix y < (aks rows).length := List.idxOf_lt_length_of_mem hy
    have a : (aks rows)[ix x] = x := List.getElem_idxOf l1
    have b : (aks rows)[ix y] = y := List.getElem_idxOf l2
    rw [← a, ← b]
    simp only [q]
  have ndP : P.flatten.Nodup := p1.nodup_iff.mpr nd
  have mx := fam_max (rows.map (·.2)) hn (P.map fun l => l.map ix) (by
    rw [fl]
    refine List.pairwise_map.mpr (ndP.imp_of_mem fun {a b} ha hb ne q => ne ?_)
    exact inj a (p1.mem_iff.mp ha) b (p1.mem_iff.mp hb) q) (fun k hk => by
    rw [fl] at hk
    obtain ⟨x, hx, rfl⟩ := List.mem_map.mp hk
    exact ixl x (p1.mem_iff.mp hx)) fun l hl => by
    obtain ⟨l', hl', rfl⟩ := List.mem_map.mp hl
    obtain ⟨q1, q2⟩ := p3 l' hl'
    refine ⟨by simpa using q1, ?_⟩
    unfold sumX at q2
    unfold sumK
    rw [List.map_map]
    refine Eq.trans ?_ q2
    congr 1
    exact List.map_congr_left fun x hx => ixv x (mem l' hl' x hx)
  rw [List.length_map] at mx
  rw [aks_len] at p2
  omega
def ltG (a b : Debt) : Bool := if a.1 = b.1 then (if a.2.1 = b.2.1 then decide (a.2.2 < b.2.2) else decide (a.2.1 < b.2.1)) else decide (a.1 < b.1)
theorem lt_goE (a b : Debt) : D.lt (debtE a) (debtE b) = ltG a b := by
  have e : D.lt (debtE a) (debtE b) = if D.eqv (.str a.1) (.str b.1) = true then (if D.eqv (.str a.2.1) (.str b.2.1) = true then (if D.eqv (.int a.2.2) (.int b.2.2) = true then false else decide (a.2.2 < b.2.2)) else decide (a.2.1 < b.2.1)) else decide (a.1 < b.1) := rfl
  rw [e, eqv_str, eqv_str]
  unfold ltG
  by_cases q : a.1 = b.1
  · by_cases r : a.2.1 = b.2.1
    · simp only [q, r, decide_true, if_true]
      have : D.eqv (.int a.2.2) (.int b.2.2) = (a.2.2 == b.2.2) := rfl
      rw [this]
      by_cases s : a.2.2 = b.2.2
      · simp [s]
      · simp [s]
    · simp [q, r]
  · simp [q]
def leG (a b : Debt) : Bool := !ltG b a
theorem leG_total (a b : Debt) : (leG a b || leG b a) = true := by
  unfold leG ltG
  by_cases q : a.1 = b.1
  · by_cases r : a.2.1 = b.2.1
    · simp [q, r]; omega
    · have r' : ¬ b.2.1 = a.2.1 := fun h => r h.symm
      simp only [q, r, r', if_true, if_false]
      by_cases s : a.2.1 < b.2.1
      · simp [List.lt_asymm s]
      · simp [s]
  · have q' : ¬ b.1 = a.1 := fun h => q h.symm
    simp only [q, q', if_false]
    by_cases s : a.1 < b.1
    · simp [List.lt_asymm s]
    · simp [s]
theorem ltG_trans {a b c : Debt} (h : ltG b a = false) (h' : ltG c b = false) : ltG c a = false := by
  unfold ltG at *
  have tr : ∀ {x y z : Nm}, ¬ y < x → ¬ z < y → ¬ z < x := fun {x y z} h1 h2 h3 => by
    have h1 : x ≤ y := h1
    have h2 : y ≤ z := h2
    exact absurd h3 (List.le_trans h1 h2)
  by_cases q1 : c.1 = b.1
  · rw [if_pos q1] at h'
    by_cases q2 : b.1 = a.1
    · rw [if_pos q2] at h
      rw [if_pos (q1.trans q2)]
      by_cases r1 : c.2.1 = b.2.1
      · rw [if_pos r1] at h'
        by_cases r2 : b.2.1 = a.2.1
        · rw [if_pos r2] at h
          rw [if_pos (r1.trans r2)]
          have := of_decide_eq_false h
          have := of_decide_eq_false h'
          exact decide_eq_false (by omega)
        · rw [if_neg r2] at h
          rw [if_neg (fun e => r2 (r1.symm.trans e)), r1]
          exact h
      · rw [if_neg r1] at h'
        by_cases r2 : b.2.1 = a.2.1
        · rw [if_neg (fun e => r1 (e.trans r2.symm)), ← r2]
          exact h'
        · rw [if_neg r2] at h
          by_cases r3 : c.2.1 = a.2.1
          · have h1 := of_decide_eq_false h
            have h2 := of_decide_eq_false h'
            rw [r3] at h2
            exact absurd (List.le_antisymm h2 h1) r2
          · rw [if_neg r3]
            exact decide_eq_false (tr (of_decide_eq_false h) (of_decide_eq_false h'))
    · rw [if_neg q2] at h
      rw [if_neg (fun e => q2 (q1.symm.trans e)), q1]
      exact h
  · rw [if_neg q1] at h'
    by_cases q2 : b.1 = a.1
    · rw [if_neg (fun e => q1 (e.trans q2.symm)), ← q2]
      exact h'
    · rw [if_neg q2] at h
      by_cases q3 : c.1 = a.1
      · have h1 := of_decide_eq_false h
        have h2 := of_decide_eq_false h'
        rw [q3] at h2
        exact absurd (List.le_antisymm h2 h1) q2
      · rw [if_neg q3]
        exact decide_eq_false (tr (of_decide_eq_false h) (of_decide_eq_false h'))
def sortG (gs : List Debt) : List Debt := gs.mergeSort leG
theorem sortG_perm (gs : List Debt) : (sortG gs).Perm gs := List.mergeSort_perm _ _
theorem sortG_pair (gs : List Debt) : (sortG gs).Pairwise fun a b => leG a b = true := List.pairwise_mergeSort (fun a b c h h' => by
  unfold leG at *
  simp only [Bool.not_eq_true'] at *
  exact ltG_trans h h') (fun a b => leG_total a b) gs
theorem sortG_id (gs : List Debt) : sortG (sortG gs) = sortG gs := by
  unfold sortG
  exact List.mergeSort_of_pairwise (sortG_pair gs)
theorem sortD_go (gs : List Debt) : sortD (gs.map debtE) = (sortG gs).map debtE := by
  unfold sortD sortG
  refine (List.map_mergeSort (r := leG) (s := leD) (f := debtE) (l := gs) fun a _ b _ => ?_).symm
  unfold leG leD
  rw [lt_goE]
theorem sortB_go (gs : List Debt) (hk : ∀ d ∈ gs, nameS d.1 = true ∧ nameS d.2.1 = true) (hl : gs.length ≤ 1000) : fSortedB [.lst (gs.map debtE)] = some (.li .fz, .lst ((sortG gs).map debtE)) := by
  have e : fSortedA [.lst (gs.map debtE)] = some (.li .fz, .lst ((sortG gs).map debtE)) := by
    rw [← sortD_go]
    cases gs with
    | nil => simp [fSortedA, fOr1, fSorted, intsOf, sortI, sortD]
    | cons p l =>
      have so : sortOk ((p :: l).map debtE) = true := by
        unfold sortOk
        rw [Bool.and_eq_true, Bool.and_eq_true]
        refine ⟨⟨?_, ?_⟩, ?_⟩
        · rw [List.all_eq_true]
          intro x hx
          obtain ⟨q, _, rfl⟩ := List.mem_map.mp hx
          rfl
        · unfold alkAll
          rw [List.all_eq_true]
          intro x hx
          rw [List.all_eq_true]
          intro y hy
          obtain ⟨q, _, rfl⟩ := List.mem_map.mp hx
          obtain ⟨r, _, rfl⟩ := List.mem_map.mp hy
          simp [debtE, D.alk, D.alks]
        · refine lays_all fun x hx => ?_
          obtain ⟨q, hq, rfl⟩ := List.mem_map.mp hx
          obtain ⟨n1, n2⟩ := hk q hq
          have h1 := name_lay n1 59
          have h2 := name_lay n2 59
          show D.lays 59 [.str q.1, .str q.2.1, .int q.2.2] = true
          simp only [D.lays, h1, h2, Bool.true_and, Bool.and_true]
          simp [D.lay]
      show (match (none : Option KD) with | some a => some a | none => (match (none : Option KD) with | some a => some a | none => fSortD [.lst ((p :: l).map debtE)])) = _
      show (if sortOk ((p :: l).map debtE) = true ∧ ((p :: l).map debtE).length ≤ sizeMax then some ((.li .fz, .lst (sortD ((p :: l).map debtE))) : KD) else none) = _
      rw [if_pos ⟨so, by rw [List.length_map]; unfold sizeMax; omega⟩]
  unfold fSortedB fOr1
  rw [e]
end LW
namespace LW
open TB
def RR (ds : List Debt) : List (Nm × Int) := balR (balF [] ds)
def fFull (ds : List Debt) : Int := (fE (valsOf (RR ds)) (RR ds).length (2 ^ (RR ds).length - 1)).1
structure ROk (rows : List (Nm × Int)) : Prop where
  nd : (aks rows).Nodup
  nz : ∀ p ∈ rows, p.2 ≠ 0
  nm : ∀ k ∈ aks rows, nameS k = true
  t0 : tot rows = 0
theorem RR_ok {ds : List Debt} (h : ∀ d ∈ ds, goOk d) : ROk (RR ds) := by
  have key : ∀ (ds : List Debt) (m : List (Nm × Int)) (n : Nat), SumOk n m → (∀ d ∈ ds, goOk d) → SumOk (n + 2 * ds.length) (balF m ds) := fun ds => by
    induction ds with
    | nil => intro m n h _; exact h
    | cons d ds ih =>
      intro m n h hd
      have := ih (balM m d) (n + 2) (h.bal (hd d List.mem_cons_self)) fun x hx => hd x (List.mem_cons_of_mem _ hx)
      have e : n + 2 + 2 * ds.length = n + 2 * (d :: ds).length := by simp; omega
      rw [e] at this
      exact this
  have sm := key ds [] 0 nil_sum h
  have tz : tot (balF [] ds) = 0 := by rw [tot_balF]; rfl
  refine ⟨by unfold RR; rw [balR_keys]; exact keysR_nd sm.nd, fun p hp => ?_, fun k hk => ?_, ?_⟩
  · unfold RR at hp
    rw [balR_eq] at hp
    obtain ⟨k, hk, rfl⟩ := List.mem_map.mp hp
    exact keysR_mem.mp hk
  · unfold RR at hk
    rw [balR_keys] at hk
    exact sm.nm k (gv_mem (keysR_mem.mp hk))
  · have := balR_sum sm
    rw [tz] at this
    exact this
theorem RR_gv {ds : List Debt} (h : ∀ d ∈ ds, goOk d) (x : Nm) : gv (RR ds) x = netX ds x := by
  have key : ∀ (ds : List Debt) (m : List (Nm × Int)), (aks m).Nodup → (aks (balF m ds)).Nodup := fun ds => by
    induction ds with
    | nil => intro m h; exact h
    | cons d ds ih => intro m h; exact ih _ (aset_nd (aset_nd h))
  unfold RR
  rw [balR_gv (key ds [] (by simp [aks])), gv_net]
theorem sum_vals (rows : List (Nm × Int)) : sumK (valsOf rows) (List.range rows.length) = tot rows := by
  have := lot_vals rows (l := List.range rows.length) fun k hk => List.mem_range.mp hk
  rw [rows_range] at this
  exact this.symm
theorem lotD_eq (rows : List (Nm × Int)) (l : List Nat) : lotD rows l = .lst ((lotR rows l).map balE) := by
  unfold lotD lotR
  rw [List.map_map]
  rfl
section
variable {Γ : Nat → Fn}
def F199 (F : Fn) : Prop := ∀ rows : List (Nm × Int), rows.length ≤ 1000 → F [(.fz, .lst (rows.map balE))] = if rows.length ≤ 8 then .ret (.fz, .non) [] else .exc ⟨23, .int rows.length⟩ []
theorem few_199 : F199 (runF 1 [] (mb_199 Γ)) := fun rows hl => by
  have ln : fLen [.lst (rows.map balE)] = some (.fz, .int rows.length) := by simp [fLen, kz]
  by_cases q : rows.length ≤ 8
  · rw [if_pos q]
    have g : fGt (.int (rows.length : Int)) (.int 8) = some (.fz, .bl false) := by
      show kz (.bl (decide ((8 : Int) < rows.length))) = _
      rw [decide_eq_false (by omega)]
      rfl
    refine FnP.eq (runF_wp (by rfl) ?_)
    simp [mb_199, ln, g, outsOf, Kd.isF, -Prod.exists, -Prod.forall]
  · rw [if_neg q]
    have g : fGt (.int (rows.length : Int)) (.int 8) = some (.fz, .bl true) := by
      show kz (.bl (decide ((8 : Int) < rows.length))) = _
      rw [decide_eq_true (by omega)]
      rfl
    refine exc_wp rfl (S := [some (.fz, .lst (rows.map balE))]) ?_ rfl
    simp [mb_199, ln, g, sRaiseI, -Prod.exists, -Prod.forall]
    rfl
theorem F199.ok {F : Fn} (h : F199 F) {rows : List (Nm × Int)} (hl : rows.length ≤ 8) (S : List Slot) : callsV F [.lst (rows.map balE)] S = .ok (.fz, .non) S := callsV_of (ds := [.lst (rows.map balE)]) (by have := h rows (by omega); rw [if_pos hl] at this; exact this) S
theorem F199.exc {F : Fn} (h : F199 F) {rows : List (Nm × Int)} (hl : 8 < rows.length) (hl2 : rows.length ≤ 1000) (S : List Slot) : callsV F [.lst (rows.map balE)] S = .exc ⟨23, .int rows.length⟩ S := callsV_exc (ds := [.lst (rows.map balE)]) (by have := h rows hl2; rw [if_neg (by omega)] at this; exact this) S
theorem last_tab (rows : List (Nm × Int)) : fIx (.lst ((tabP (valsOf rows) rows.length (2 ^ rows.length - 1)).map pairD)) (.int (-1)) = some (.fz, pairD (fE (valsOf rows) rows.length (2 ^ rows.length - 1))) := by
  have T0 := tab_len (valsOf rows) rows.length (2 ^ rows.length - 1)
  have ta := tab_at (T := tabP (valsOf rows) rows.length (2 ^ rows.length - 1)) (k := 2 ^ rows.length - 1) (by omega)
  rw [tab_get _ _ (Nat.le_refl _)] at ta
  rw [← ta]
  have ln : ((tabP (valsOf rows) rows.length (2 ^ rows.length - 1)).map pairD).length = 2 ^ rows.length - 1 + 1 := by rw [List.length_map, T0]
  unfold fIx
  simp only [ln, normIx_last, Option.bind_some]
  have : normIx (2 ^ rows.length - 1 + 1) ((2 ^ rows.length - 1 : Nat) : Int) = some (2 ^ rows.length - 1) := by
    unfold normIx
    rw [if_pos (by omega), if_pos (by omega)]
    simp
  rw [this]
  rfl
def W202 (F : Fn) : Prop := ∀ ds : List Debt, (∀ d ∈ ds, debtOk d) → ds.length ≤ 200 → F [(.fz, .lst (ds.map debtE))] = if (RR ds).length ≤ 8 then .ret (.fz, .int ((RR ds).length - fFull ds)) [] else .exc ⟨23, .int (RR ds).length⟩ []
theorem RR_len {ds : List Debt} (hl : ds.length ≤ 200) : (RR ds).length ≤ 1000 := by
  have key : ∀ (ds : List Debt) (m : List (Nm × Int)), (balF m ds).length ≤ m.length + 2 * ds.length := fun ds => by
    induction ds with
    | nil => intro m; simp [balF]
    | cons d ds ih =>
      intro m
      have := ih (balM m d)
      have a := aset_len m d.1 (gv m d.1 + d.2.2)
      have b := aset_len (add1 m d.1 d.2.2) d.2.1 (gv (add1 m d.1 d.2.2) d.2.1 + -d.2.2)
      have c : (balM m d).length ≤ m.length + 2 := by unfold balM add1 at *; omega
      show (balF (balM m d) ds).length ≤ _
      simp only [List.length_cons]
      omega
  have := key ds []
  unfold RR balR
  rw [List.length_map]
  refine Nat.le_trans (List.length_filter_le _ _) ?_
  rw [(sortT_perm _).length_eq, aks_len]
  simp at this
  omega
theorem few_202 (h3 : G193 (Γ 193)) (h4 : B194 (Γ 194)) (h9 : F199 (Γ 199)) (h7 : M197 (Γ 197)) : W202 (runF 2 [] (mb_202 Γ)) := fun ds hd hl => by
  have c3 : ∀ S, callsV (Γ 193) [.lst (ds.map debtE)] S = .ok (.fz, .non) S := fun S => callsV_of (ds := [.lst (ds.map debtE)]) (h3.1 ds hd hl) S
  have c4 : ∀ S, callsV (Γ 194) [.lst (ds.map debtE)] S = .ok (.li .fz, .lst ((RR ds).map balE)) S := fun S => callsV_of (ds := [.lst (ds.map debtE)]) (h4 ds (fun d h => (hd d h).go) (by omega)) S
  by_cases q : (RR ds).length ≤ 8
  · rw [if_pos q]
    have c9 := h9.ok q
    have c7 : ∀ S, callsV (Γ 197) [.lst ((RR ds).map balE)] S = .ok (.fz, .lst ((tabP (valsOf (RR ds)) (RR ds).length (2 ^ (RR ds).length - 1)).map pairD)) S := fun S => callsV_of (ds := [.lst ((RR ds).map balE)]) (h7 _ q) S
    have lt := last_tab (RR ds)
    have ln : fLen [.lst ((RR ds).map balE)] = some (.fz, .int (RR ds).length) := by simp [fLen, kz]
    have sb : fSub (.int (RR ds).length) (.int (fFull ds)) = some (.fz, .int ((RR ds).length - fFull ds)) := rfl
    unfold fFull at sb ⊢
    refine FnP.eq (runF_wp (by rfl) ?_)
    simp [mb_202, c3, c4, c9, c7, ln, neg_1, lt, pair_0, sb, outsOf, Kd.isF, -Prod.exists, -Prod.forall]
  · rw [if_neg q]
    have c9 := h9.exc (by omega) (RR_len hl)
    refine exc_wp rfl (S := [some (.fz, .lst (ds.map debtE)), some (.fz, .lst ((RR ds).map balE))]) ?_ rfl
    simp [mb_202, c3, c4, c9, -Prod.exists, -Prod.forall]
theorem net_bd (ds : List Debt) (h : ∀ d ∈ ds, debtOk d) (x : Nm) : netX ds x ≤ 1000000000 * (ds.length : Int) ∧ -(1000000000 * (ds.length : Int)) ≤ netX ds x := by
  induction ds with
  | nil => simp [netX]
  | cons d ds ih =>
    obtain ⟨a, b⟩ := ih fun d hd => h d (List.mem_cons_of_mem _ hd)
    have q := h d List.mem_cons_self
    have e : netX (d :: ds) x = dX x d + netX ds x := by simp [netX]
    have c : dX x d ≤ 1000000000 ∧ -1000000000 ≤ dX x d := by
      unfold dX
      have h4 := q.2.2.2.1
      have h5 := q.2.2.2.2
      split <;> split <;> omega
    simp only [List.length_cons]
    omega
/-- what settled tells -/
structure SetOk (ds gs : List Debt) : Prop where
  net : ∀ x, netX gs x = netX ds x
  ok : ∀ d ∈ gs, goB2 d
  ct : (gs.length : Int) = (RR ds).length - fFull ds
  so : sortG gs = gs
  ln : gs.length ≤ 8
def S201 (F : Fn) : Prop := ∀ ds : List Debt, (∀ d ∈ ds, debtOk d) → ds.length ≤ 200 → if (RR ds).length ≤ 8 then (∃ gs, F [(.fz, .lst (ds.map debtE))] = .ret (.li .fz, .lst (gs.map debtE)) [] ∧ SetOk ds gs) else F [(.fz, .lst (ds.map debtE))] = .exc ⟨23, .int (RR ds).length⟩ []
/-- how far the lots are gone through -/
structure DInv (rows : List (Nm × Int)) (dn : List (List Nat)) (found : List Debt) : Prop where
  net : ∀ x, netX found x = (dn.map fun l => gv (lotR rows l) x).sum
  ok : ∀ d ∈ found, goB2 d ∧ d.1 ∈ aks rows ∧ d.2.1 ∈ aks rows
  ct : found.length + dn.length ≤ dn.flatten.length
def SI (rows : List (Nm × Int)) (L : List (List Nat)) (s0 : Slot) (xs : List D) (S : List Slot) : Prop := ∃ (dn rest : List (List Nat)) (found : List Debt) (x3 : Slot), L = dn ++ rest ∧ xs = rest.map (lotD rows) ∧ DInv rows dn found ∧ S = [s0, some (.fz, .lst (rows.map balE)), some (.li .fz, .lst (found.map debtE)), x3]
theorem settled_201 (h3 : G193 (Γ 193)) (h4 : B194 (Γ 194)) (h9 : F199 (Γ 199)) (h8 : L198 (Γ 198)) (h0 : G200 (Γ 200)) : S201 (runF 4 [] (mb_201 Γ)) := fun ds hd hl => by
  have c3 : ∀ S, callsV (Γ 193) [.lst (ds.map debtE)] S = .ok (.fz, .non) S := fun S => callsV_of (ds := [.lst (ds.map debtE)]) (h3.1 ds hd hl) S
  have c4 : ∀ S, callsV (Γ 194) [.lst (ds.map debtE)] S = .ok (.li .fz, .lst ((RR ds).map balE)) S := fun S => callsV_of (ds := [.lst (ds.map debtE)]) (h4 ds (fun d h => (hd d h).go) (by omega)) S
  by_cases q : (RR ds).length ≤ 8
  case neg =>
    rw [if_neg q]
    have c9 := h9.exc (by omega) (RR_len hl)
    refine exc_wp rfl (S := [some (.fz, .lst (ds.map debtE)), some (.fz, .lst ((RR ds).map balE)), none, none]) ?_ rfl
    simp [mb_201, c3, c4, c9, -Prod.exists, -Prod.forall]
  rw [if_pos q]
  have c9 := h9.ok q
  have rok := RR_ok fun d h => (hd d h).go
  have rgv := RR_gv fun d h => (hd d h).go
  have rbd : ∀ p ∈ RR ds, p.2 ≤ BD ∧ -BD ≤ p.2 := fun p hp => by
    have g := gv_of_mem rok.nd p hp
    rw [rgv] at g
    have := net_bd ds hd p.1
    unfold BD
    omega
  have main : FnP (runF 4 [] (mb_201 Γ)) [(.fz, .lst (ds.map debtE))] fun r o => (∃ gs, r = (.li .fz, .lst (gs.map debtE)) ∧ SetOk ds gs) ∧ o = [] := by
    obtain ⟨L, eL, pm, ct, ok⟩ := h8 (RR ds) q (by rw [sum_vals]; exact rok.t0)
    have ctF : (L.length : Int) = fFull ds := ct
    clear ct
    have hgs : ∀ gs : List Debt, (∀ x, netX gs x = gv (RR ds) x) → (∀ d ∈ gs, d.1 ∈ aks (RR ds) ∧ d.2.1 ∈ aks (RR ds)) → ((RR ds).length : Int) - fFull ds ≤ gs.length := fun gs e hg => goings_ge rok.nd q hg e
    have len0 := pm.length_eq
    rw [List.length_range] at len0
    have cL : ∀ S, callsV (Γ 198) [.lst ((RR ds).map balE)] S = .ok (.fz, .lst (L.map (lotD (RR ds)))) S := fun S => callsV_of (ds := [.lst ((RR ds).map balE)]) eL S
    have gvL := lots_gv rok.nd pm
    have bd : ∀ l ∈ L, ∀ k ∈ l, k < (RR ds).length := fun l hl k hk => List.mem_range.mp (pm.mem_iff.mp (List.mem_flatten.mpr ⟨l, hl, hk⟩))
    have nl : ∀ l ∈ L, l.Nodup := fun l hl => by
      have ndL : L.flatten.Nodup := pm.nodup_iff.mpr List.nodup_range
      obtain ⟨a, b, e⟩ := List.append_of_mem hl
      rw [e] at ndL
      simp only [List.flatten_append, List.flatten_cons] at ndL
      exact (List.nodup_append.mp (List.nodup_append.mp ndL).2.1).1
    have lotOk : ∀ l ∈ L, ∃ fd : List Debt, (∀ S, callsV (Γ 200) [lotD (RR ds) l] S = .ok (.fz, .lst (fd.map debtE)) S) ∧ (∀ x, netX fd x = gv (lotR (RR ds) l) x) ∧ (∀ d ∈ fd, goB2 d ∧ d.1 ∈ aks (RR ds) ∧ d.2.1 ∈ aks (RR ds)) ∧ fd.length + 1 ≤ l.length := fun l hl => by
      have sub : ∀ k ∈ aks (lotR (RR ds) l), k ∈ aks (RR ds) := fun k hk => by
        obtain ⟨p, hp, rfl⟩ := List.mem_map.mp hk
        obtain ⟨j, hj, rfl⟩ := List.mem_map.mp hp
        exact List.mem_map_of_mem (row_mem (bd l hl j hj))
      obtain ⟨s0, ne⟩ := ok l hl
      obtain ⟨fd, f1, f2, f3, f4⟩ := h0 (lotR (RR ds) l) (lot_keys rok.nd (nl l hl) (bd l hl)) (fun p hp => by
        obtain ⟨j, hj, rfl⟩ := List.mem_map.mp hp
        exact rok.nz _ (row_mem (bd l hl j hj))) (fun p hp => by
        obtain ⟨j, hj, rfl⟩ := List.mem_map.mp hp
        exact rbd _ (row_mem (bd l hl j hj))) (fun k hk => rok.nm k (sub k hk)) (by rw [lot_vals _ (bd l hl)]; exact s0) (by unfold lotR; simpa using ne) (by
        have := flat_one hl
        unfold lotR
        rw [List.length_map]
        omega)
      refine ⟨fd, fun S => by rw [lotD_eq]; exact callsV_of (ds := [.lst ((lotR (RR ds) l).map balE)]) f1 S, f2, fun d hd => ?_, by unfold lotR at f4; rw [List.length_map] at f4; exact f4⟩
      obtain ⟨g1, g2, g3⟩ := f3 d hd
      exact ⟨g1, sub _ g2, sub _ g3⟩
    clear pm
    generalize hR : RR ds = rows at *
    refine runF_wp (by rfl) ?_
    have e0 : fLst [] = some (.li .fz, .lst []) := rfl
    simp [mb_201, c3, c4, c9, cL, e0, itemsOf, -Prod.exists, -Prod.forall]
    refine loopG_wp (SI rows L (some (.fz, .lst (ds.map debtE)))) ?_ ?_ _ _ ⟨[], L, [], none, rfl, rfl, ⟨fun x => by simp [netX], fun d hd => absurd hd List.not_mem_nil, Nat.le_refl 0⟩, rfl⟩
    · rintro d xs S ⟨dn, rest, found, x3, e1, e2, inv, rfl⟩
      cases rest with
      | nil => cases e2
      | cons l rest =>
        cases e2
        have hl : l ∈ L := by rw [e1]; simp
        obtain ⟨fd, f1, f2, f3, f4⟩ := lotOk l hl
        have fl : dn.flatten.length + l.length ≤ 8 := by
          have : L.flatten.length = dn.flatten.length + (l.length + rest.flatten.length) := by rw [e1]; simp
          omega
        have ict := inv.ct
        have ex : fExtend (found.map debtE) [.lst (fd.map debtE)] = some (.non, (found ++ fd).map debtE) := by
          show (if _ ≤ sizeMax then _ else none) = _
          rw [if_pos (by rw [List.length_map, List.length_map]; unfold sizeMax; omega), List.map_append]
        refine ⟨_, put_nm (by simp), ?_⟩
        simp [f1, ex, ownL, -List.map_append, -Prod.exists, -Prod.forall]
        refine ⟨dn ++ [l], rest, found ++ fd, _, by rw [e1]; simp, rfl, ⟨fun x => ?_, fun d hd => ?_, ?_⟩, rfl⟩
        · rw [net_app, inv.net, f2]
          simp
        · rcases List.mem_append.mp hd with hd | hd
          · exact inv.ok d hd
          · exact f3 d hd
        · simp only [List.length_append, List.flatten_append, List.flatten_cons, List.flatten_nil, List.append_nil, List.length_cons, List.length_nil]
          omega
    · rintro S ⟨dn, rest, found, x3, e1, e2, inv, rfl⟩
      cases rest with
      | cons l rest => cases e2
      | nil =>
        rw [List.append_nil] at e1
        subst e1
        have fn : ∀ x, netX found x = gv rows x := fun x => by rw [inv.net, gvL]
        have ge := hgs found fn fun d hd => (inv.ok d hd).2
        have ict := inv.ct
        have so := sortB_go found (fun d hd => ⟨(inv.ok d hd).1.1.1, (inv.ok d hd).1.1.2.1⟩) (by omega)
        have im : D.imms ((sortG found).map debtE) = true := imms_all fun x hx => by obtain ⟨p, _, rfl⟩ := List.mem_map.mp hx; rfl
        have pl := (sortG_perm found).length_eq
        simp [frz, so, im, outsOf, Kd.isF]
        refine ⟨sortG found, rfl, ⟨fun x => ?_, fun d hd => (inv.ok d ((sortG_perm found).mem_iff.mp hd)).1, ?_, sortG_id found, by omega⟩⟩
        · rw [net_perm (sortG_perm found), fn, rgv]
        · rw [pl, hR]
          omega
  obtain ⟨r, o, e, ⟨gs, rfl, ok⟩, rfl⟩ := main
  exact ⟨gs, e, ok⟩
end
end LW
namespace LW
open TB
section
variable {Γ : Nat → Fn}
def DebtsN (q : Int) (r : KD) (o : List KD) : Prop := ∃ (ds : List Debt) (kd : KD), r = (.fz, .lst (ds.map debtE)) ∧ o = [kd] ∧ DI kd ∧ (∀ d ∈ ds, debtOk d) ∧ ds.length ≤ 20 ∧ ∃ names : List Nm, (names.length : Int) ≤ q ∧ ∀ d ∈ ds, d.1 ∈ names ∧ d.2.1 ∈ names
def EN (q : Int) (names : List Nm) (xs : List D) (S : List Slot) : Prop := ∃ (ds : List Debt) (kd : KD) (x4 x5 x6 : Slot), DI kd ∧ (∀ d ∈ ds, debtOk d) ∧ (∀ d ∈ ds, d.1 ∈ names ∧ d.2.1 ∈ names) ∧ ds.length + xs.length ≤ 20 ∧ S = [some kd, some (.fz, .int q), some (.fz, .lst (names.map D.str)), some (.li .fz, .lst (ds.map debtE)), x4, x5, x6]
theorem pick_nameM {names : List Nm} (hn : ∀ s ∈ names, nameS s = true) {r : Int} (h0 : 0 ≤ r) (h1 : r < names.length) : ∃ s, fIx (.lst (names.map D.str)) (.int r) = some (.fz, .str s) ∧ nameS s = true ∧ s ∈ names := by
  obtain ⟨x, hx, e⟩ := fIx_lst (xs := names.map D.str) h0 (by simpa using h1)
  obtain ⟨s, hs, rfl⟩ := List.mem_map.mp hx
  exact ⟨s, e, hn s hs, hs⟩
theorem pow_9g : fPow (.int 10) (.int 9) = some (.fz, .int 1000000000) := rfl
theorem debts_204n {q : Int} (q1 : 3 ≤ q) (q2 : q ≤ 9) (hF : DrawOk (Γ 7)) (hN : NamesOk (Γ 37)) {kd : KD} (hd : DI kd) : FnP (runF 7 [0] (mb_204 Γ)) [kd, (.fz, .int q)] (DebtsN q) := by
  refine runF_wp (by obtain ⟨a, b, rfl, _⟩ := hd; rfl) ?_
  have e8 : fSub (.int q) (.int 1) = some (.fz, .int (q - 1)) := rfl
  have eS : ∀ i : Int, fAdd (.int 2) (.int i) = some (.fz, .int (2 + i)) := fun i => rfl
  simp [mb_204, -cb1, -Prod.exists, -Prod.forall]
  refine call1_wp rfl ?_
  simp [-cb1, -Prod.exists, -Prod.forall]
  refine draw_wp hF rfl ?_
  simp [hd, e8, -cb1, -Prod.exists, -Prod.forall]
  refine ⟨by omega, by omega, ?_⟩
  intro r0 k0 h0 r0a r0b
  simp [h0, eS, -cb1, -Prod.exists, -Prod.forall]
  refine (hN k0 (2 + r0) h0 (by omega) (by omega)).mono ?_
  rintro _ _ ⟨names, k1, rfl, rfl, h1, l1, n1, z1, u1⟩
  refine ⟨k1, rfl, h1, ?_⟩
  have e0 : fLst [] = some (.li .fz, .lst []) := rfl
  have e2 : fLst [.int 6, .int 20] = some (.li .fz, .lst [.int 6, .int 20]) := rfl
  refine draw_wp hF rfl ?_
  simp [e2, -cb1, -Prod.exists, -Prod.forall]
  refine draw_wp hF rfl ?_
  simp [h1, -cb1, -Prod.exists, -Prod.forall]
  intro r2 k2 h2 r2a r2b
  obtain ⟨m, em, m0, m1⟩ := pick_int (xs := [.int 6, .int 20]) (r := r2) (lo := 1) (hi := 20) r2a (by simpa using r2b) (by simp)
  simp [em, h2, -cb1, -Prod.exists, -Prod.forall]
  refine ⟨by omega, by omega, ?_⟩
  intro r3 k3 h3 r3a r3b
  have hr3 : r3.natAbs < limN := by unfold limN; omega
  simp [hr3, -cb1, -Prod.exists, -Prod.forall]
  have nl : 2 ≤ names.length := by omega
  have nl2 : names.length ≤ 10 := by omega
  have ln : fLen [.lst (names.map D.str)] = some (.fz, .int names.length) := by simp [fLen, kz]
  refine loop_wp (EN q names) ?_ ?_ ?_ ?_
  · rintro ds S ⟨_, _, _, _, _, _, _, _, _, rfl⟩; simp
  · exact ⟨[], k3, none, none, none, h3, by simp, by simp, by rw [rangeL_length]; simp; omega, rfl⟩
  · rintro d xs S ⟨ds, k4, x4, x5, x6, h4, ok, om, hl, rfl⟩
    simp [ln, -cb1, -Prod.exists, -Prod.forall]
    refine draw_wp hF rfl ?_
    simp [ln, h4, -cb1, -Prod.exists, -Prod.forall]
    refine ⟨by omega, by omega, ?_⟩
    intro r5 k5 h5 r5a r5b
    obtain ⟨a, ea, na, ma⟩ := pick_nameM n1 r5a r5b
    simp [ea, ln, -cb1, -Prod.exists, -Prod.forall]
    refine draw_wp hF rfl ?_
    simp [ln, h5, -cb1, -Prod.exists, -Prod.forall]
    refine ⟨by omega, by omega, ?_⟩
    intro r6 k6 h6 r6a r6b
    obtain ⟨b, eb, nb, mb⟩ := pick_nameM n1 r6a r6b
    simp at hl
    by_cases qq : a = b
    · have ne : fNe (.str a) (.str b) = some (.fz, .bl false) := by
        subst qq
        show (if eqOk (.str a) (.str a) = true then kz (.bl (!D.eqv (.str a) (.str a))) else none) = _
        rw [eqv_str]
        simp [eqOk, D.flat, kz]
      simp [eb, ne, -cb1, -Prod.exists, -Prod.forall]
      exact ⟨ds, k6, _, _, _, h6, ok, om, by omega, rfl⟩
    · have ne : fNe (.str a) (.str b) = some (.fz, .bl true) := fNe_str qq
      have e3 : fLst [.int 3, .int 9, .int 1000000000] = some (.li .fz, .lst [.int 3, .int 9, .int 1000000000]) := rfl
      simp [eb, ne, ownL, e3, pow_9g, -cb1, -Prod.exists, -Prod.forall]
      refine draw_wp hF rfl ?_
      simp [e3, pow_9g, -cb1, -Prod.exists, -Prod.forall]
      refine draw_wp hF rfl ?_
      simp [h6, -cb1, -Prod.exists, -Prod.forall]
      intro r7 k7 h7 r7a r7b
      obtain ⟨c, ec, c0, c1⟩ := pick_int (xs := [.int 3, .int 9, .int 1000000000]) (r := r7) (lo := 1) (hi := 1000000000) r7a (by simpa using r7b) (by simp)
      simp [ec, h7, -cb1, -Prod.exists, -Prod.forall]
      refine ⟨by omega, by omega, ?_⟩
      intro r8 k8 h8 r8a r8b
      have e1 : fAdd (.int 1) (.int r8) = some (.fz, .int (1 + r8)) := rfl
      have ap : fAppend (ds.map debtE) [.tup [.str a, .str b, .int (1 + r8)]] = some (.non, (ds ++ [(a, b, 1 + r8)]).map debtE) := by
        show (if _ < sizeMax then _ else none) = _
        rw [if_pos (by rw [List.length_map]; unfold sizeMax; omega), List.map_append]
        rfl
      simp [e1, tup_f, ap, ownL, -List.map_append, -cb1, -Prod.exists, -Prod.forall]
      refine ⟨ds ++ [(a, b, 1 + r8)], k8, _, _, _, h8, fun d hd => ?_, fun d hd => ?_, by simp; omega, rfl⟩
      · rcases List.mem_append.mp hd with hd | hd
        · exact ok d hd
        · have e : d = (a, b, 1 + r8) := by simpa using hd
          subst e
          exact ⟨na, nb, qq, by show 1 ≤ 1 + r8; omega, by show 1 + r8 ≤ 1000000000; omega⟩
      · rcases List.mem_append.mp hd with hd | hd
        · exact om d hd
        · have e : d = (a, b, 1 + r8) := by simpa using hd
          subst e
          exact ⟨ma, mb⟩
  · rintro S ⟨ds, k4, x4, x5, x6, h4, ok, om, hl, rfl⟩
    simp [isF_fz, hd.own, h4.own, outsOf, -cb1, -Prod.exists, -Prod.forall]
    exact ⟨ds, k4, rfl, rfl, h4, ok, by simpa using hl, names, by omega, om⟩
theorem RR_names {ds : List Debt} (h : ∀ d ∈ ds, goOk d) {names : List Nm} (hm : ∀ d ∈ ds, d.1 ∈ names ∧ d.2.1 ∈ names) : (RR ds).length ≤ names.length := by
  rw [← aks_len]
  refine (RR_ok h).nd.length_le_of_subset fun x hx => ?_
  refine Classical.byContradiction fun n => ?_
  have g := RR_gv h x
  have z : netX ds x = 0 := by
    clear h g
    induction ds with
    | nil => rfl
    | cons d ds ih =>
      obtain ⟨a, b⟩ := hm d List.mem_cons_self
      have e : netX (d :: ds) x = dX x d + netX ds x := by simp [netX]
      have n1 : d.1 ≠ x := fun e => n (e ▸ a)
      have n2 : d.2.1 ≠ x := fun e => n (e ▸ b)
      have i0 : netX ds x = 0 := by
        have key : ∀ l : List Debt, (∀ d ∈ l, d.1 ∈ names ∧ d.2.1 ∈ names) → netX l x = 0 := fun l => by
          induction l with
          | nil => intro _; rfl
          | cons d l ih =>
            intro h
            obtain ⟨a, b⟩ := h d List.mem_cons_self
            have e : netX (d :: l) x = dX x d + netX l x := by simp [netX]
            have n1 : d.1 ≠ x := fun e => n (e ▸ a)
            have n2 : d.2.1 ≠ x := fun e => n (e ▸ b)
            rw [e, ih fun d hd => h d (List.mem_cons_of_mem _ hd)]
            simp [dX, n1, n2]
        exact key ds fun d hd => hm d (List.mem_cons_of_mem _ hd)
      rw [e, i0]
      simp [dX, n1, n2]
  rw [z] at g
  obtain ⟨p, hp, rfl⟩ := List.mem_map.mp hx
  rw [gv_of_mem (RR_ok h).nd p hp] at g
  exact (RR_ok h).nz p hp g
end
end LW
namespace LW
open TB
def unG : D → Debt
  | .tup [.str a, .str b, .int c] => (a, b, c)
  | _ => ([], [], 0)
theorem goB_un {d : D} (h : goB d = true) : d = debtE (unG d) ∧ goOk (unG d) := by
  unfold goB at h
  split at h
  · rename_i a b c
    simp only [Bool.and_eq_true, Bool.not_eq_true', beq_eq_false_iff_ne, decide_eq_true_eq] at h
    exact ⟨rfl, h.1, h.2.1, h.2.2.1, by show 1 ≤ c; omega⟩
  · cases h
def lstOf : D → List Debt
  | .lst xs => xs.map unG
  | _ => []
theorem gosB_un {d : D} (h : gosB d = true) : d = .lst ((lstOf d).map debtE) ∧ (∀ x ∈ lstOf d, goOk x) ∧ (lstOf d).length ≤ 200 := by
  unfold gosB at h
  split at h
  · rename_i ds
    simp only [Bool.and_eq_true, decide_eq_true_eq, List.all_eq_true] at h
    obtain ⟨h1, h2⟩ := h
    refine ⟨?_, fun x hx => ?_, by show (ds.map unG).length ≤ 200; rw [List.length_map]; exact h1⟩
    · show D.lst ds = .lst ((ds.map unG).map debtE)
      rw [List.map_map]
      congr 1
      conv => lhs; rw [← List.map_id ds]
      exact List.map_congr_left fun d hd => (goB_un (h2 d hd)).1
    · obtain ⟨d, hd, rfl⟩ := List.mem_map.mp hx
      exact (goB_un (h2 d hd)).2
  · cases h
def rrD (ds : List Debt) : D := .lst ((RR ds).map balE)
def setB (d : D) (ds : List Debt) : Bool := gosB d && D.eqv (rrD (lstOf d)) (rrD ds)
theorem rr_lay {ds : List Debt} (h : ∀ d ∈ ds, goOk d) : (rrD ds).lay 60 = true := by
  show D.lays 59 ((RR ds).map balE) = true
  refine lays_all fun x hx => ?_
  obtain ⟨p, hp, rfl⟩ := List.mem_map.mp hx
  exact balE_lay ((RR_ok h).nm _ (List.mem_map_of_mem hp))
theorem rr_eq {ds ds' : List Debt} (h : ∀ d ∈ ds, goOk d) (h' : ∀ d ∈ ds', goOk d) : fEq (rrD ds) (rrD ds') = some (.fz, .bl (D.eqv (rrD ds) (rrD ds'))) := by
  show (if eqOk (rrD ds) (rrD ds') = true then kz (.bl (D.eqv (rrD ds) (rrD ds'))) else none) = _
  rw [if_pos (by unfold eqOk; rw [rr_lay h, rr_lay h']; simp)]
  rfl
section
variable {Γ : Nat → Fn}
def S196 (F : Fn) : Prop := ∀ (ds : List Debt) (d : D) (n : Nat), n ≤ 50 → (∀ x ∈ ds, debtOk x) → ds.length ≤ 200 → good 1000 n d → F [(.fz, .lst (ds.map debtE)), (.fz, d)] = .ret (.fz, .bl (setB d ds)) []
theorem settles_196 (h3 : G193 (Γ 193)) (h4 : B194 (Γ 194)) (h2 : P1g 1000 (Γ 192) gosB) : S196 (runF 2 [] (mb_196 Γ)) := fun ds d n hn hd hl hg => by
  have c3 : ∀ S, callsV (Γ 193) [.lst (ds.map debtE)] S = .ok (.fz, .non) S := fun S => callsV_of (ds := [.lst (ds.map debtE)]) (h3.1 ds hd hl) S
  have c2 := h2.cv hn hg
  refine FnP.eq (runF_wp (by rfl) ?_)
  cases q : gosB d with
  | false =>
    rw [q] at c2
    have : setB d ds = false := by unfold setB; rw [q]; rfl
    simp [mb_196, c3, c2, this, outsOf, Kd.isF, -Prod.exists, -Prod.forall]
  | true =>
    rw [q] at c2
    obtain ⟨e1, e2, e3⟩ := gosB_un q
    have sb : setB d ds = D.eqv (rrD (lstOf d)) (rrD ds) := by unfold setB; rw [q]; rfl
    have c4 : ∀ S, callsV (Γ 194) [d] S = .ok (.li .fz, rrD (lstOf d)) S := fun S => by
      have := callsV_of (ds := [.lst ((lstOf d).map debtE)]) (h4 (lstOf d) e2 (by omega)) S
      rw [← e1] at this
      exact this
    have c5 : ∀ S, callsV (Γ 194) [.lst (ds.map debtE)] S = .ok (.li .fz, rrD ds) S := fun S => callsV_of (ds := [.lst (ds.map debtE)]) (h4 ds (fun d h => (hd d h).go) (by omega)) S
    have fe := rr_eq e2 fun d h => (hd d h).go
    simp [mb_196, c3, c2, c4, c5, fe, sb, outsOf, Kd.isF, -Prod.exists, -Prod.forall]
end
end LW
namespace LW
open TB
theorem nm_good {s : Nm} (h : nameS s = true) (n : Nat) : good 1000 n (.str s) := good_mono (by omega) (Nat.le_refl _) (name_good h n)
theorem tri_good {a b : Nm} (c : Int) (ha : nameS a = true) (hb : nameS b = true) (n : Nat) : good 1000 (n + 1) (.tup [.str a, .str b, .int c]) := by
  refine ⟨by simp, fun x hx => ?_⟩
  simp only [List.mem_cons, List.not_mem_nil, or_false] at hx
  rcases hx with rfl | rfl | rfl
  · exact nm_good ha n
  · exact nm_good hb n
  · cases n <;> exact trivial
theorem debt_good {d : Debt} (h : goOk d) (n : Nat) : good 1000 (n + 1) (debtE d) := tri_good _ h.1 h.2.1 n
theorem list_good {ys : List D} {n : Nat} (hl : ys.length ≤ 1000) (h : ∀ x ∈ ys, good 1000 n x) : good 1000 (n + 1) (.lst ys) := ⟨hl, h⟩
theorem cut_1 (x : D) (xs : List D) : cutL (x :: xs) none (some 1) = [x] := by
  unfold cutL ixS
  simp
section
end
end LW
namespace LW
open TB
theorem exists_num : ∀ (n : Nat) (p : Nat → Bool), ∃ N, N < 2 ^ n ∧ ∀ k, k < n → (N / 2 ^ k % 2 == 1) = p k
  | 0, p => ⟨0, by simp, fun k h => absurd h (Nat.not_lt_zero _)⟩
  | n + 1, p => by
    obtain ⟨N, h1, h2⟩ := exists_num n p
    have pw := Nat.two_pow_pos n
    have e2 : 2 ^ (n + 1) = 2 ^ n + 2 ^ n := by rw [Nat.pow_succ]; omega
    cases q : p n with
    | false =>
      refine ⟨N, by omega, fun k hk => ?_⟩
      by_cases e : k = n
      · subst e
        rw [Nat.div_eq_of_lt h1, q]; rfl
      · exact h2 k (by omega)
    | true =>
      refine ⟨N + 2 ^ n, by omega, fun k hk => ?_⟩
      by_cases e : k = n
      · subst e
        rw [Nat.add_div_right _ pw, Nat.div_eq_of_lt h1, q]; rfl
      · have hk : k < n := by omega
        have e3 : 2 ^ n = 2 ^ k * (2 * 2 ^ (n - k - 1)) := by
          rw [← Nat.mul_assoc, Nat.mul_comm _ 2, Nat.mul_assoc, ← Nat.pow_add, ← Nat.pow_succ']
          congr 1
          omega
        have : (N + 2 ^ n) / 2 ^ k = N / 2 ^ k + 2 * 2 ^ (n - k - 1) := by
          rw [e3, Nat.add_mul_div_left _ _ (Nat.two_pow_pos k)]
        rw [this, Nat.add_mul_mod_self_left]
        exact h2 k hk
abbrev PR := Nm × Int
/-- lots of rows that come to 0, none empty, none sharing -/
structure Fam (rows : List PR) (P : List (List PR)) : Prop where
  nd : P.flatten.Nodup
  sub : ∀ x ∈ P.flatten, x ∈ rows
  z : ∀ l ∈ P, l ≠ [] ∧ tot l = 0
def MaxF (rows : List PR) (r : Nat) : Prop := (∃ P, Fam rows P ∧ P.length = r) ∧ ∀ P, Fam rows P → P.length ≤ r
/-- the lot of the first row and those that a number tells -/
def lotN (rows : List PR) (N : Nat) : List PR := rows.take 1 ++ (bitsL (rows.length - 1) N).map fun k => rowN rows (k + 1)
def restN (rows : List PR) (N : Nat) : List PR := rows.filter fun x => decide (x ∉ lotN rows N)
theorem rows_nodup {rows : List PR} (nd : (aks rows).Nodup) : rows.Nodup := by
  refine List.Pairwise.imp_of_mem ?_ (List.pairwise_map.mp nd)
  intro a b _ _ h e
  exact h (by rw [e])
theorem lotN_mem {r0 : PR} {rest : List PR} {N : Nat} {x : PR} : x ∈ lotN (r0 :: rest) N ↔ x = r0 ∨ ∃ k, k < rest.length ∧ (N / 2 ^ k % 2 == 1) = true ∧ rest[k]? = some x := by
  unfold lotN
  simp only [List.take_succ_cons, List.take_zero, List.length_cons, Nat.add_sub_cancel, List.cons_append, List.nil_append, List.mem_cons, List.mem_map]
  constructor
  · rintro (e | ⟨k, hk, e⟩)
    · exact .inl e
    · have kn := bits_lt hk
      refine .inr ⟨k, kn, (List.mem_filter.mp hk).2, ?_⟩
      rw [← e]
      simp [rowN, List.getD_eq_getElem?_getD, kn]
  · rintro (e | ⟨k, hk, b, e⟩)
    · exact .inl e
    · refine .inr ⟨k, List.mem_filter.mpr ⟨List.mem_range.mpr hk, b⟩, ?_⟩
      simp [rowN, List.getD_eq_getElem?_getD, e]
theorem lotN_nodup {rows : List PR} (nd : rows.Nodup) (N : Nat) : (lotN rows N).Nodup := by
  cases rows with
  | nil => unfold lotN bitsL; simp
  | cons r0 rest =>
    obtain ⟨n1, n2⟩ := List.nodup_cons.mp nd
    have e : lotN (r0 :: rest) N = r0 :: (bitsL rest.length N).map fun k => rowN (r0 :: rest) (k + 1) := rfl
    rw [e]
    refine List.nodup_cons.mpr ⟨fun h => ?_, ?_⟩
    · obtain ⟨k, hk, e⟩ := List.mem_map.mp h
      have kn := bits_lt hk
      refine n1 ?_
      rw [← e]
      simp [rowN, List.getD_eq_getElem?_getD, kn]
    · refine List.pairwise_map.mpr ((bits_nodup _ _).imp_of_mem fun {a b} ha hb ne q => ne ?_)
      have la := bits_lt ha
      have lb := bits_lt hb
      simp only [rowN, List.getD_eq_getElem?_getD, List.getElem?_cons_succ, List.getElem?_eq_getElem la, List.getElem?_eq_getElem lb, Option.getD_some] at q
      exact nd_inj n2 la lb q
theorem lotN_sub {r0 : PR} {rest : List PR} {N : Nat} : ∀ x ∈ lotN (r0 :: rest) N, x ∈ r0 :: rest := fun x hx => by
  rcases lotN_mem.mp hx with e | ⟨k, _, _, e⟩
  · rw [e]; exact List.mem_cons_self
  · exact List.mem_cons_of_mem _ (List.mem_of_getElem? e)
theorem exists_lot {r0 : PR} {rest : List PR} (nd : (r0 :: rest).Nodup) {T : List PR} (h0 : r0 ∈ T) (nT : T.Nodup) (sub : ∀ x ∈ T, x ∈ r0 :: rest) : ∃ N, N < 2 ^ rest.length ∧ (lotN (r0 :: rest) N).Perm T := by
  obtain ⟨N, h1, h2⟩ := exists_num rest.length fun k => decide (rowN rest k ∈ T)
  refine ⟨N, h1, (List.perm_ext_iff_of_nodup (lotN_nodup nd N) nT).mpr fun x => ?_⟩
  rw [lotN_mem]
  constructor
  · rintro (e | ⟨k, hk, b, e⟩)
    · rw [e]; exact h0
    · rw [h2 k hk] at b
      have := of_decide_eq_true b
      simpa [rowN, List.getD_eq_getElem?_getD, e] using this
  · intro hx
    rcases List.mem_cons.mp (sub x hx) with e | hr
    · exact .inl e
    · obtain ⟨k, hk, e⟩ := List.getElem_of_mem hr
      refine .inr ⟨k, hk, ?_, by rw [List.getElem?_eq_getElem hk, e]⟩
      rw [h2 k hk]
      refine decide_eq_true ?_
      simp only [rowN, List.getD_eq_getElem?_getD, List.getElem?_eq_getElem hk, Option.getD_some]
      rw [e]; exact hx
theorem tot_perm {a b : List PR} (h : a.Perm b) : tot a = tot b := sum_perm (h.map _)
theorem tot_app (a b : List PR) : tot (a ++ b) = tot a + tot b := by simp [tot]
theorem tot_flat : ∀ {P : List (List PR)}, (∀ l ∈ P, tot l = 0) → tot P.flatten = 0
  | [], _ => rfl
  | l :: P, h => by
    rw [List.flatten_cons, tot_app, h l List.mem_cons_self, tot_flat fun l' hl' => h l' (List.mem_cons_of_mem _ hl')]
    rfl
/-- the rows, parted by a list of some of them -/
theorem part_perm {rows T : List PR} (nr : rows.Nodup) (nT : T.Nodup) (sub : ∀ x ∈ T, x ∈ rows) : rows.Perm (T ++ rows.filter fun x => decide (x ∉ T)) := by
  refine (List.perm_ext_iff_of_nodup nr ?_).mpr fun x => ?_
  · refine List.nodup_append.mpr ⟨nT, nr.filter _, fun a ha b hb e => ?_⟩
    have := (List.mem_filter.mp hb).2
    simp at this
    exact this (e ▸ ha)
  · rw [List.mem_append, List.mem_filter]
    by_cases q : x ∈ T
    · simp [q, sub x q]
    · simp [q]
theorem rest_tot {rows : List PR} (nr : rows.Nodup) {N : Nat} (h : rows ≠ []) (t0 : tot rows = 0) (l0 : tot (lotN rows N) = 0) : tot (restN rows N) = 0 := by
  cases rows with
  | nil => exact absurd rfl h
  | cons r0 rest =>
    have := tot_perm (part_perm nr (lotN_nodup nr N) lotN_sub)
    rw [tot_app, l0, t0] at this
    unfold restN
    omega
/-- put together: what the numbers tell is the most -/
structure LBest (rows : List PR) (j b : Nat) : Prop where
  pos : 1 ≤ b
  ex : ∃ P, Fam rows P ∧ P.length = b
  up : ∀ N, N < j → tot (lotN rows N) = 0 → (lotN rows N).length < rows.length → ∀ r, MaxF (restN rows N) r → 1 + r ≤ b
theorem best_start {rows : List PR} (nr : rows.Nodup) (ne : rows ≠ []) (t0 : tot rows = 0) : LBest rows 0 1 :=
  ⟨Nat.le_refl _, ⟨[rows], ⟨by simpa using nr, by simp, fun l hl => by simp at hl; subst hl; exact ⟨ne, t0⟩⟩, rfl⟩, fun N h => absurd h (Nat.not_lt_zero _)⟩
theorem fam_cons {r0 : PR} {rest : List PR} (nr : (r0 :: rest).Nodup) {N : Nat} (l0 : tot (lotN (r0 :: rest) N) = 0) {P : List (List PR)} (h : Fam (restN (r0 :: rest) N) P) : Fam (r0 :: rest) (lotN (r0 :: rest) N :: P) := by
  have ni : ∀ x ∈ P.flatten, x ∉ lotN (r0 :: rest) N := fun x hx => by
    have := (List.mem_filter.mp (h.sub x hx)).2
    simpa using this
  refine ⟨?_, fun x hx => ?_, fun l hl => ?_⟩
  · rw [List.flatten_cons]
    exact List.nodup_append.mpr ⟨lotN_nodup nr N, h.nd, fun a ha b hb e => ni b hb (e ▸ ha)⟩
  · rw [List.flatten_cons] at hx
    rcases List.mem_append.mp hx with hx | hx
    · exact lotN_sub x hx
    · exact (List.mem_filter.mp (h.sub x hx)).1
  · rcases List.mem_cons.mp hl with rfl | hl
    · refine ⟨fun e => ?_, l0⟩
      have m : r0 ∈ lotN (r0 :: rest) N := lotN_mem.mpr (.inl rfl)
      rw [e] at m
      cases m
    · exact h.z l hl
theorem maxF_uniq {rows : List PR} {r s : Nat} (h : MaxF rows r) (h' : MaxF rows s) : r = s := by
  obtain ⟨⟨P, f1, e1⟩, u1⟩ := h
  obtain ⟨⟨Q, f2, e2⟩, u2⟩ := h'
  have := u1 Q f2
  have := u2 P f1
  omega
theorem best_step {r0 : PR} {rest : List PR} (nr : (r0 :: rest).Nodup) {j b : Nat} (h : LBest (r0 :: rest) j b) (l0 : tot (lotN (r0 :: rest) j) = 0) {r : Nat} (hr : MaxF (restN (r0 :: rest) j) r) : LBest (r0 :: rest) (j + 1) (if 1 + r > b then 1 + r else b) := by
  refine ⟨?_, ?_, fun N hN t l r' hr' => ?_⟩
  · have := h.pos; split <;> omega
  · by_cases q : 1 + r > b
    · rw [if_pos q]
      obtain ⟨⟨P, f, e⟩, _⟩ := hr
      exact ⟨_, fam_cons nr l0 f, by simp; omega⟩
    · rw [if_neg q]
      exact h.ex
  · by_cases e : N = j
    · subst e
      rw [maxF_uniq hr' hr]
      split <;> omega
    · have := h.up N (by omega) t l r' hr'
      split <;> omega
theorem best_skip {rows : List PR} {j b : Nat} (h : LBest rows j b) (q : ¬ (tot (lotN rows j) = 0 ∧ (lotN rows j).length < rows.length)) : LBest rows (j + 1) b :=
  ⟨h.pos, h.ex, fun N hN t l r' hr' => by
    by_cases e : N = j
    · subst e; exact absurd ⟨t, l⟩ q
    · exact h.up N (by omega) t l r' hr'⟩
theorem best_end {r0 : PR} {rest : List PR} (nr : (r0 :: rest).Nodup) (t0 : tot (r0 :: rest) = 0) {b : Nat} (h : LBest (r0 :: rest) (2 ^ rest.length) b) (ex : ∀ N, N < 2 ^ rest.length → tot (lotN (r0 :: rest) N) = 0 → (lotN (r0 :: rest) N).length < (r0 :: rest).length → ∃ r, MaxF (restN (r0 :: rest) N) r) : MaxF (r0 :: rest) b := by
  refine ⟨h.ex, fun P f => ?_⟩
  by_cases k1 : P.length ≤ 1
  · exact Nat.le_trans k1 h.pos
  -- the lot with the first row, and the others
  have go : ∀ (T : List PR) (R : List (List PR)), r0 ∈ T → T.Nodup → (∀ x ∈ T, x ∈ r0 :: rest) → tot T = 0 → Fam (r0 :: rest) R → (∀ x ∈ R.flatten, x ∉ T) → R ≠ [] → 1 + R.length ≤ b := fun T R h0 nT sT tT fR dj ne => by
    obtain ⟨N, hN, pm⟩ := exists_lot nr h0 nT sT
    have t1 : tot (lotN (r0 :: rest) N) = 0 := by rw [tot_perm pm, tT]
    have fR2 : Fam (restN (r0 :: rest) N) R := ⟨fR.nd, fun x hx => List.mem_filter.mpr ⟨fR.sub x hx, by simpa using fun m => dj x hx (pm.mem_iff.mp m)⟩, fR.z⟩
    have lt : (lotN (r0 :: rest) N).length < (r0 :: rest).length := by
      have pp := (part_perm nr (lotN_nodup nr N) lotN_sub).length_eq
      rw [List.length_append] at pp
      cases R with
      | nil => exact absurd rfl ne
      | cons l R =>
        obtain ⟨q1, _⟩ := fR2.z l List.mem_cons_self
        cases l with
        | nil => exact absurd rfl q1
        | cons x l =>
          have hx := fR2.sub x (by simp)
          have := List.length_pos_of_mem hx
          unfold restN at this
          omega
    obtain ⟨r, hr⟩ := ex N hN t1 lt
    have := h.up N hN t1 lt r hr
    have := hr.2 R fR2
    omega
  by_cases m0 : r0 ∈ P.flatten
  · obtain ⟨l, hl, ml⟩ := List.mem_flatten.mp m0
    obtain ⟨R, pr⟩ := mem_split_perm hl
    have ndR : (l ++ R.flatten).Nodup := by
      have := (flat_perm pr).nodup_iff.mp f.nd
      simpa using this
    obtain ⟨nl, nR, dj⟩ := List.nodup_append.mp ndR
    have pl := pr.length_eq
    simp only [List.length_cons] at pl
    have inP : ∀ l' ∈ R, l' ∈ P := fun l' hl' => pr.mem_iff.mpr (List.mem_cons_of_mem _ hl')
    have := go l R ml nl (fun x hx => f.sub x (List.mem_flatten.mpr ⟨l, hl, hx⟩)) (f.z l hl).2 ⟨nR, fun x hx => by
      obtain ⟨l', hl', hx'⟩ := List.mem_flatten.mp hx
      exact f.sub x (List.mem_flatten.mpr ⟨l', inP l' hl', hx'⟩), fun l' hl' => f.z l' (inP l' hl')⟩ (fun x hx n => dj x n x hx rfl) (fun e => by rw [e] at pl; simp at pl; omega)
    omega
  · have pp := part_perm nr f.nd f.sub
    have tp := tot_perm pp
    rw [tot_app, tot_flat fun l hl => (f.z l hl).2, t0] at tp
    have := go ((r0 :: rest).filter fun x => decide (x ∉ P.flatten)) P (List.mem_filter.mpr ⟨List.mem_cons_self, by simpa using m0⟩) (nr.filter _) (fun x hx => (List.mem_filter.mp hx).1) (by omega) f (fun x hx n => by
      have := (List.mem_filter.mp n).2
      simp only [decide_eq_true_eq] at this
      exact this hx) (fun e => by rw [e] at k1; simp at k1)
    omega
end LW
namespace LW
open TB
theorem rowN_K (rows : List PR) (k : Nat) : rowN rows k = rowK rows k := rfl
theorem take1_D (rows : List PR) : cutL (rows.map balE) none (some 1) = (rows.take 1).map balE := by
  cases rows with
  | nil => rfl
  | cons r rows => rw [List.map_cons, cut_1]; simp
theorem eqv_bal (p q : PR) : D.eqv (balE p) (balE q) = decide (p = q) := by
  show (D.eqv (.str p.1) (.str q.1) && (D.eqv (.int p.2) (.int q.2) && true)) = _
  rw [eqv_str]
  show (decide (p.1 = q.1) && ((p.2 == q.2) && true)) = _
  by_cases a : p.1 = q.1
  · by_cases b : p.2 = q.2
    · simp [a, b, Prod.ext_iff]
    · simp [a, b, Prod.ext_iff]
  · simp [a, Prod.ext_iff]
theorem lays_bal {rows : List PR} (h : ∀ k ∈ aks rows, nameS k = true) (n : Nat) : D.lays (n + 1) (rows.map balE) = true := lays_all fun x hx => by
  obtain ⟨p, hp, rfl⟩ := List.mem_map.mp hx
  have := name_lay (h p.1 (List.mem_map_of_mem hp)) n
  show D.lays n [.str p.1, .int p.2] = true
  simp only [D.lays, this, Bool.true_and, Bool.and_true]
  cases n <;> simp [D.lay]
theorem notin_bal {rows : List PR} {p : PR} (hp : nameS p.1 = true) (h : ∀ k ∈ aks rows, nameS k = true) : fNotInB (balE p) (.lst (rows.map balE)) = some (.fz, .bl (decide (p ∉ rows))) := by
  have l1 : D.lays 60 (rows.map balE) = true := lays_bal h 59
  have l2 : (balE p).lay 60 = true := by
    have := lays_bal (rows := [p]) (fun k hk => by simp [aks] at hk; subst hk; exact hp) 59
    simpa [D.lays] using this
  show (match (none : Option KD) with | some a => some a | none => (if ((balE p).lay 60 && D.lays 60 (rows.map balE)) = true then kz (.bl (!(rows.map balE).any fun y => D.eqv y (balE p))) else none)) = _
  rw [l1, l2]
  simp only [Bool.and_self, if_true]
  show kz _ = _
  congr 2
  rw [List.any_map]
  by_cases m : p ∈ rows
  · have : (rows.any ((fun y => D.eqv y (balE p)) ∘ balE)) = true := List.any_eq_true.mpr ⟨p, m, by show D.eqv (balE p) (balE p) = true; rw [eqv_bal]; simp⟩
    rw [this]; simp [m]
  · have : (rows.any ((fun y => D.eqv y (balE p)) ∘ balE)) = false := List.any_eq_false.mpr fun q hq => by
      show ¬ D.eqv (balE q) (balE p) = true
      rw [eqv_bal]
      simp
      intro e; exact m (e ▸ hq)
    rw [this]; simp [m]
def unB : D → PR
  | .tup [.str a, .int c] => (a, c)
  | _ => ([], 0)
section
variable {Γ : Nat → Fn}
def mB (Γ : Nat → Fn) : St := (sSeq (sSet 3 (eFr (eOp fAdd (eSl (eVar 0) none (some (eCon (.int 1)))) (eLc (itRange1 (eOp fSub (eApp fLen [(eVar 0)]) (eCon (.int 1)))) (.nm 4) [4] (eBool (eOp fEq (eOp fAnd1 (eOp fShr (eVar 2) (eVar 4)) (eCon (.int 1))) (eCon (.int 1)))) (eOp fIx (eVar 0) (eOp fAdd (eVar 4) (eCon (.int 1)))))))) (sIf (tAnd (eBool (eOp fEq (eApp fSum [(eLc (itSeq (eVar 3)) (.nm 5) [5] tTrue (eOp fIx (eVar 5) (eCon (.int 1))))]) (eCon (.int 0)))) (eBool (eOp fLt (eApp fLen [(eVar 3)]) (eApp fLen [(eVar 0)])))) (sSet 1 (eApp fMax2 [(eVar 1), (eOp fAdd (eCon (.int 1)) (eCall (Γ 212) [.v (eLc (itSeq (eVar 0)) (.nm 5) [5] (eBool (eOp fNotInB (eVar 5) (eVar 3))) (eVar 5))]))])) sNx))
def M212 (n : Nat) (F : Fn) : Prop := ∀ rows : List PR, rows.length ≤ n → rows.length ≤ 8 → (aks rows).Nodup → (∀ k ∈ aks rows, nameS k = true) → tot rows = 0 → ∃ r : Nat, F [(.fz, .lst (rows.map balE))] = .ret (.fz, .int (r : Int)) [] ∧ MaxF rows r
/-- the lot that a number tells -/
theorem lot_lc {r0 : PR} {rest : List PR} {s1 s3 s5 : Slot} {j : Nat} (hl : rest.length ≤ 7) :
    eLc (itRange1 (eOp fSub (eApp fLen [(eVar 0)]) (eCon (.int 1)))) (.nm 4) [4] (eBool (eOp fEq (eOp fAnd1 (eOp fShr (eVar 2) (eVar 4)) (eCon (.int 1))) (eCon (.int 1)))) (eOp fIx (eVar 0) (eOp fAdd (eVar 4) (eCon (.int 1)))) [some (.fz, .lst ((r0 :: rest).map balE)), s1, some (.fz, .int (j : Int)), s3, none, s5] = .ok (.li .fz, .lst ((bitsL rest.length j).map fun k => balE (rowN (r0 :: rest) (k + 1)))) [some (.fz, .lst ((r0 :: rest).map balE)), s1, some (.fz, .int (j : Int)), s3, none, s5] := by
  have ln : fLen [.lst ((r0 :: rest).map balE)] = some (.fz, .int ((rest.length : Int) + 1)) := by simp [fLen, kz]
  have sb : fSub (.int ((rest.length : Int) + 1)) (.int 1) = some (.fz, .int (rest.length : Int)) := by show kz (.int ((rest.length : Int) + 1 - 1)) = _; rw [Int.add_sub_cancel]; rfl
  have lm : rest.length < limN := by unfold limN; omega
  have z := lc_pure (v := 4) (S0 := [some (.fz, .lst ((r0 :: rest).map balE)), s1, some (.fz, .int (j : Int)), s3, none, s5]) (S := [some (.fz, .lst ((r0 :: rest).map balE)), s1, some (.fz, .int (j : Int)), s3, none, s5]) (it := itRange1 (eOp fSub (eApp fLen [(eVar 0)]) (eCon (.int 1)))) (c := eBool (eOp fEq (eOp fAnd1 (eOp fShr (eVar 2) (eVar 4)) (eCon (.int 1))) (eCon (.int 1)))) (e := eOp fIx (eVar 0) (eOp fAdd (eVar 4) (eCon (.int 1)))) (ds := (List.range rest.length).map natD) (isBit j) (fun d => match d with | .int k => balE (rowN (r0 :: rest) (k.toNat + 1)) | _ => .non)
    (by simp [ln, sb, lm, rangeL_0, -List.map_cons]) (by simp) rfl (fun d hd => by
      obtain ⟨k, hk, rfl⟩ := mem_nat hd
      have kn := List.mem_range.mp hk
      have eb : isBit j (.int (k : Int)) = decide (bit1 j k = 1) := by
        unfold bit1
        show (j / 2 ^ (k : Int).toNat % 2 == 1) = _
        rw [Int.toNat_natCast]
        by_cases q : j / 2 ^ k % 2 = 1
        · rw [q]; rfl
        · have : j / 2 ^ k % 2 = 0 := by omega
          rw [this]; rfl
      rw [eb]
      simp [shr_n (show k ≤ 1000 by omega), and_1, fEq_int, -List.map_cons])
    (fun d hd _ => ⟨.fz, by
      obtain ⟨k, hk, rfl⟩ := mem_nat hd
      have kn := List.mem_range.mp hk
      have ad : fAdd (.int (k : Int)) (.int 1) = some (.fz, .int ((k + 1 : Nat) : Int)) := rfl
      have rk := rowK_at (rows := r0 :: rest) (k := k + 1) (by simp; omega)
      rw [← rowN_K] at rk
      simp only [Int.toNat_natCast]
      generalize rowN (r0 :: rest) (k + 1) = p at *
      simp [ad, rk, -List.map_cons, -Int.natCast_add]⟩) (by rw [List.length_map, List.length_range]; unfold sizeMax; omega)
  rw [z]
  congr 3
  have e : ((List.range rest.length).map natD).filter (isBit j) = (bitsL rest.length j).map natD := by
    unfold bitsL
    rw [List.filter_map]
    rfl
  rw [e, List.map_map]
  rfl
theorem tot_lc {l : List PR} (S : List Slot) (h3 : S[3]? = some (some (.fz, .lst (l.map balE)))) (hv : 5 < S.length) (hz : fzAt S 5 = true) (hl : l.length ≤ 1000) : ∃ ys, eLc (itSeq (eVar 3)) (.nm 5) [5] tTrue (eOp fIx (eVar 5) (eCon (.int 1))) S = .ok (.li .fz, .lst ys) S ∧ fSum [.lst ys] = some (.fz, .int (tot l)) := by
  have z := lc_pure (v := 5) (S0 := S) (S := S) (it := itSeq (eVar 3)) (c := tTrue) (e := eOp fIx (eVar 5) (eCon (.int 1))) (ds := l.map balE) (fun _ => true) (fun d => match d with | .tup [_, x] => x | _ => .non) (by simp [h3, itemsOf]) hv hz (fun _ _ => rfl) (fun d hd _ => by
    obtain ⟨p, hp, rfl⟩ := List.mem_map.mp hd
    have i1 : fIx (balE p) (.int 1) = some (.fz, .int p.2) := rfl
    exact ⟨.fz, by simp [hv, i1]; rfl⟩) (by rw [List.length_map]; unfold sizeMax; omega)
  rw [filter_true, List.map_map] at z
  refine ⟨_, z, ?_⟩
  have e : l.map ((fun d => match d with | .tup [_, x] => x | _ => .non) ∘ balE) = l.map fun p => D.int p.2 := rfl
  rw [e]
  show ((intsOf (l.map fun p => D.int p.2)).bind fun is => kz (.int is.sum)) = _
  rw [intsOf_vals]
  rfl
theorem rest_lc {rows T : List PR} {s1 s2 s4 : Slot} (hr : ∀ k ∈ aks rows, nameS k = true) (hT : ∀ x ∈ T, x ∈ rows) (hl : rows.length ≤ 1000) :
    eLc (itSeq (eVar 0)) (.nm 5) [5] (eBool (eOp fNotInB (eVar 5) (eVar 3))) (eVar 5) [some (.fz, .lst (rows.map balE)), s1, s2, some (.fz, .lst (T.map balE)), s4, none] = .ok (.li .fz, .lst ((rows.filter fun x => decide (x ∉ T)).map balE)) [some (.fz, .lst (rows.map balE)), s1, s2, some (.fz, .lst (T.map balE)), s4, none] := by
  have hTn : ∀ k ∈ aks T, nameS k = true := fun k hk => by
    obtain ⟨p, hp, rfl⟩ := List.mem_map.mp hk
    exact hr _ (List.mem_map_of_mem (hT p hp))
  have unb : ∀ p : PR, unB (balE p) = p := fun _ => rfl
  have z := lc_pure (v := 5) (S0 := [some (.fz, .lst (rows.map balE)), s1, s2, some (.fz, .lst (T.map balE)), s4, none]) (S := [some (.fz, .lst (rows.map balE)), s1, s2, some (.fz, .lst (T.map balE)), s4, none]) (it := itSeq (eVar 0)) (c := eBool (eOp fNotInB (eVar 5) (eVar 3))) (e := eVar 5) (ds := rows.map balE) (fun d => decide (unB d ∉ T)) (fun d => d) (by simp [itemsOf]) (by simp) rfl (fun d hd => by
    obtain ⟨p, hp, rfl⟩ := List.mem_map.mp hd
    have ni := notin_bal (rows := T) (p := p) (hr _ (List.mem_map_of_mem hp)) hTn
    rw [unb]
    simp [ni]) (fun d hd _ => ⟨.fz, by simp⟩) (by rw [List.length_map]; unfold sizeMax; omega)
  rw [z, show (fun d : D => d) = id from rfl, List.map_id, List.filter_map]
  rfl
def mS (rows : List PR) (b : Nat) (x2 x3 : Slot) : List Slot := [some (.fz, .lst (rows.map balE)), some (.fz, .int (b : Int)), x2, x3, none, none]
theorem body_212 {n : Nat} (h : M212 n (Γ 212)) {r0 : PR} {rest : List PR} (hn : rest.length ≤ n) (hl : rest.length ≤ 7) (nd : (aks (r0 :: rest)).Nodup) (nm : ∀ k ∈ aks (r0 :: rest), nameS k = true) (t0 : tot (r0 :: rest) = 0) {j b : Nat} {x3 : Slot} (inv : LBest (r0 :: rest) j b) :
    ∃ b' y3, mB Γ (mS (r0 :: rest) b (some (.fz, .int (j : Int))) x3) = .ok .nx (mS (r0 :: rest) b' (some (.fz, .int (j : Int))) y3) ∧ LBest (r0 :: rest) (j + 1) b' := by
  have nr := rows_nodup nd
  have z1 := lot_lc (r0 := r0) (rest := rest) (s1 := some (.fz, .int (b : Int))) (s3 := x3) (s5 := none) (j := j) hl
  have eL : [balE r0] ++ (bitsL rest.length j).map (fun k => balE (rowN (r0 :: rest) (k + 1))) = (lotN (r0 :: rest) j).map balE := by
    unfold lotN
    rw [List.map_append, List.map_map]
    rfl
  have sl : fSl (.lst ((r0 :: rest).map balE)) none (some 1) = some (.li .fz, .lst [balE r0]) := by
    show some ((.li .fz, .lst (cutL ((r0 :: rest).map balE) none (some 1))) : KD) = _
    rw [take1_D]
    rfl
  have bl := bits_len rest.length j
  have ad : fAdd (.lst [balE r0]) (.lst ((bitsL rest.length j).map fun k => balE (rowN (r0 :: rest) (k + 1)))) = some (.li .fz, .lst ((lotN (r0 :: rest) j).map balE)) := by
    rw [← eL]
    show (if _ ≤ sizeMax then _ else none) = _
    rw [if_pos (by rw [List.length_map]; simp; unfold sizeMax; omega)]
  have lsub := lotN_sub (r0 := r0) (rest := rest) (N := j)
  have llen : (lotN (r0 :: rest) j).length ≤ 8 := by
    have : (lotN (r0 :: rest) j).length = 1 + (bitsL rest.length j).length := by unfold lotN; simp; omega
    omega
  have ne : lotN (r0 :: rest) j ≠ [] := fun e => by
    have m : r0 ∈ lotN (r0 :: rest) j := lotN_mem.mpr (.inl rfl)
    rw [e] at m
    cases m
  have rt := rest_tot nr (N := j) (by simp) t0
  have z3 := fun s2 => rest_lc (rows := r0 :: rest) (T := lotN (r0 :: rest) j) (s1 := some (.fz, .int (b : Int))) (s2 := s2) (s4 := none) nm lsub (by simp; omega)
  have pl := (part_perm nr (lotN_nodup nr j) lsub).length_eq
  rw [List.length_append] at pl
  have eR : ((r0 :: rest).filter fun x => decide (x ∉ lotN (r0 :: rest) j)) = restN (r0 :: rest) j := rfl
  rw [eR] at pl
  have z3 : ∀ s2, _ = R.ok ((.li .fz, .lst ((restN (r0 :: rest) j).map balE)) : KD) _ := z3
  have rlen : (r0 :: rest).length ≤ 8 := by simp; omega
  have skip := best_skip inv
  have step := fun l0 r hr => best_step (r := r) nr inv l0 hr
  have sn : (aks (restN (r0 :: rest) j)).Sublist (aks (r0 :: rest)) := (List.filter_sublist).map _
  generalize lotN (r0 :: rest) j = T at *
  obtain ⟨ys, z2, z2s⟩ := tot_lc (l := T) [some (.fz, .lst ((r0 :: rest).map balE)), some (.fz, .int (b : Int)), some (.fz, .int (j : Int)), some (.fz, .lst (T.map balE)), none, none] rfl (by simp) rfl (by omega)
  have fq : fEq (.int (tot T)) (.int 0) = some (.fz, .bl (decide (tot T = 0))) := fEq_int _ _
  have lT : fLen [.lst (T.map balE)] = some (.fz, .int T.length) := by simp [fLen, kz]
  have lR : fLen [.lst ((r0 :: rest).map balE)] = some (.fz, .int (r0 :: rest).length) := by rw [show fLen [.lst ((r0 :: rest).map balE)] = some (.fz, .int ((r0 :: rest).map balE).length) from rfl, List.length_map]
  have lt : fLt (.int T.length) (.int (r0 :: rest).length) = some (.fz, .bl (decide (T.length < (r0 :: rest).length))) := by
    show kz (.bl (decide ((T.length : Int) < ((r0 :: rest).length : Int)))) = _
    congr 2
    by_cases q : T.length < (r0 :: rest).length
    · have : (T.length : Int) < ((r0 :: rest).length : Int) := by omega
      rw [decide_eq_true this, decide_eq_true q]
    · have : ¬ (T.length : Int) < ((r0 :: rest).length : Int) := by omega
      rw [decide_eq_false this, decide_eq_false q]
  have mSe : ∀ b' y3, mS (r0 :: rest) b' (some (.fz, .int (j : Int))) y3 = [some (.fz, .lst ((r0 :: rest).map balE)), some (.fz, .int (b' : Int)), some (.fz, .int (j : Int)), y3, none, none] := fun _ _ => rfl
  simp only [mSe]
  have hh : M212 n (Γ 212) := h
  generalize (r0 :: rest).map balE = RD at *
  by_cases q0 : tot T = 0
  case neg =>
    refine ⟨b, some (.fz, .lst (T.map balE)), ?_, skip fun h => q0 h.1⟩
    unfold mB
    simp [z1, sl, ad, z2, z2s, fq, q0]
  by_cases q1 : T.length < (r0 :: rest).length
  case neg =>
    refine ⟨b, some (.fz, .lst (T.map balE)), ?_, skip fun h => q1 h.2⟩
    generalize (r0 :: rest).length = RL at *
    unfold mB
    simp [z1, sl, ad, z2, z2s, fq, q0, lT, lR, lt, q1]
  have tl : 0 < T.length := List.length_pos_iff.mpr ne
  obtain ⟨r, er, mr⟩ := h (restN (r0 :: rest) j) (by simp at pl; omega) (by simp at pl; omega) (nd.sublist sn) (fun k hk => nm k (sn.subset hk)) (rt q0)
  have cv : ∀ S, callsV (Γ 212) [.lst ((restN (r0 :: rest) j).map balE)] S = .ok (.fz, .int (r : Int)) S := fun S => callsV_of (ds := [.lst ((restN (r0 :: rest) j).map balE)]) er S
  have ad1 : fAdd (.int 1) (.int (r : Int)) = some (.fz, .int ((1 + r : Nat) : Int)) := by show kz (.int (1 + (r : Int))) = _; rfl
  have mx : fMax2 [.int (b : Int), .int ((1 + r : Nat) : Int)] = some (.fz, .int ((if 1 + r > b then 1 + r else b : Nat) : Int)) := by
    show kz (.int (if ((1 + r : Nat) : Int) > (b : Int) then ((1 + r : Nat) : Int) else (b : Int))) = _
    congr 2
    by_cases q : 1 + r > b
    · rw [if_pos q, if_pos (by omega)]
    · rw [if_neg q, if_neg (by omega)]
  refine ⟨if 1 + r > b then 1 + r else b, some (.fz, .lst (T.map balE)), ?_, step q0 r mr⟩
  generalize (if 1 + r > b then 1 + r else b) = b' at *
  generalize 1 + r = r1 at *
  generalize restN (r0 :: rest) j = RS at *
  generalize (r0 :: rest).length = RL at *
  unfold mB
  simp [z1, sl, ad, z2, z2s, fq, q0, lT, lR, lt, q1, z3, cv, ad1, mx, -Int.natCast_add]
end
end LW
namespace LW
open TB
theorem eq_nil_bal {rows : List PR} (h : ∀ k ∈ aks rows, nameS k = true) : fEq (.lst (rows.map balE)) (.lst []) = some (.fz, .bl rows.isEmpty) := by
  show (if eqOk (.lst (rows.map balE)) (.lst []) = true then kz (.bl (D.eqv (.lst (rows.map balE)) (.lst []))) else none) = _
  have l1 : (D.lst (rows.map balE)).lay 60 = true := lays_bal h 58
  have l2 : (D.lst []).lay 60 = true := rfl
  rw [if_pos (by unfold eqOk; rw [l1, l2]; simp)]
  cases rows <;> rfl
theorem maxF_nil : MaxF [] 0 := ⟨⟨[], ⟨by simp, fun x hx => absurd hx List.not_mem_nil, fun l hl => absurd hl List.not_mem_nil⟩, rfl⟩, fun P f => by
  cases P with
  | nil => exact Nat.le_refl _
  | cons l P =>
    obtain ⟨q, _⟩ := f.z l List.mem_cons_self
    cases l with
    | nil => exact absurd rfl q
    | cons x l => have := f.sub x (by simp); cases this⟩
section
variable {Γ : Nat → Fn}
def MJ (r0 : PR) (rest : List PR) (xs : List D) (S : List Slot) : Prop := ∃ (j b : Nat) (x2 x3 : Slot), j ≤ 2 ^ rest.length ∧ xs = rangeL (j : Int) (2 ^ rest.length - j) ∧ LBest (r0 :: rest) j b ∧ S = mS (r0 :: rest) b x2 x3
theorem most_212 {n : Nat} (h : M212 n (Γ 212)) : M212 (n + 1) (runF 6 [] (mb_212 Γ)) := fun rows hn h8 nd nm t0 => by
  have e0 : fLst [] = some (.li .fz, .lst []) := rfl
  have en := eq_nil_bal nm
  cases rows with
  | nil =>
    refine ⟨0, FnP.eq (runF_wp (by rfl) ?_), maxF_nil⟩
    have en : fEq (.lst []) (.lst []) = some (.fz, .bl true) := en
    simp [mb_212, e0, en, outsOf, Kd.isF, -Prod.exists, -Prod.forall]
  | cons r0 rest =>
    have nr := rows_nodup nd
    have hl : rest.length ≤ 7 := by simp at h8; omega
    have hn' : rest.length ≤ n := by simp at hn; omega
    have p := Nat.two_pow_pos rest.length
    have p8 : 2 ^ rest.length ≤ 128 := Nat.pow_le_pow_right (n := 2) (by omega) hl
    have main : FnP (runF 6 [] (mb_212 Γ)) [(.fz, .lst ((r0 :: rest).map balE))] fun r o => (∃ b : Nat, r = (.fz, .int (b : Int)) ∧ LBest (r0 :: rest) (2 ^ rest.length) b) ∧ o = [] := by
      refine runF_wp (by rfl) ?_
      have lR : fLen [.lst ((r0 :: rest).map balE)] = some (.fz, .int ((rest.length : Int) + 1)) := by simp [fLen, kz]
      have sb : fSub (.int ((rest.length : Int) + 1)) (.int 1) = some (.fz, .int (rest.length : Int)) := by show kz (.int ((rest.length : Int) + 1 - 1)) = _; rw [Int.add_sub_cancel]; rfl
      have lm : (2 ^ rest.length : Nat) < limN := by unfold limN; omega
      have en : fEq (.lst ((r0 :: rest).map balE)) (.lst []) = some (.fz, .bl false) := en
      have body := fun j b x3 => body_212 (x3 := x3) (j := j) (b := b) h hn' hl nd nm t0
      have st := best_start nr (by simp) t0
      unfold mB mS at body
      show okP (mb_212 Γ [some (.fz, .lst ((r0 :: rest).map balE)), none, none, none, none, none]) _
      have mj : ∀ xs S, MJ r0 rest xs S ↔ ∃ (j b : Nat) (x2 x3 : Slot), j ≤ 2 ^ rest.length ∧ xs = rangeL (j : Int) (2 ^ rest.length - j) ∧ LBest (r0 :: rest) j b ∧ S = [some (.fz, .lst ((r0 :: rest).map balE)), some (.fz, .int (b : Int)), x2, x3, none, none] := fun xs S => Iff.rfl
      have oo : outsOf [(.fz, .lst ((r0 :: rest).map balE))] [some (.fz, .lst ((r0 :: rest).map balE)), none, none, none, none, none] = some [] := rfl
      generalize (r0 :: rest).map balE = RD at *
      simp [mb_212, e0, en, lR, sb, shl_1 (show rest.length ≤ 1000 by omega), lm, -Int.natCast_pow, -Prod.exists, -Prod.forall]
      refine loopG_wp (MJ r0 rest) ?_ ?_ _ _ ((mj _ _).mpr ⟨0, 1, none, none, by omega, by simp, st, rfl⟩)
      · intro d xs S hI
        obtain ⟨j, b, x2, x3, hj, hx, inv, rfl⟩ := (mj _ _).mp hI
        cases q : 2 ^ rest.length - j with
        | zero => rw [q] at hx; cases hx
        | succ r =>
          rw [q, rangeL_succ] at hx
          cases hx
          refine ⟨_, put_nm (by simp), ?_⟩
          obtain ⟨b', y3, e, inv'⟩ := body j b x3 inv
          refine okP.of e ?_
          exact (mj _ _).mpr ⟨j + 1, b', _, y3, by omega, by rw [show r = 2 ^ rest.length - (j + 1) by omega]; rfl, inv', rfl⟩
      · intro S hI
        obtain ⟨j, b, x2, x3, hj, hx, inv, rfl⟩ := (mj _ _).mp hI
        have ej : j = 2 ^ rest.length := by
          cases q : 2 ^ rest.length - j with
          | zero => omega
          | succ r => rw [q, rangeL_succ] at hx; cases hx
        subst ej
        simp [outsOf, Kd.isF]
        exact ⟨b, rfl, inv⟩
    obtain ⟨r, o, e, ⟨b, rfl, inv⟩, rfl⟩ := main
    refine ⟨b, e, best_end nr t0 inv fun N hN l0 lt => ?_⟩
    have lsub := lotN_sub (r0 := r0) (rest := rest) (N := N)
    have pl := (part_perm nr (lotN_nodup nr N) lsub).length_eq
    rw [List.length_append] at pl
    have eR : ((r0 :: rest).filter fun x => decide (x ∉ lotN (r0 :: rest) N)) = restN (r0 :: rest) N := rfl
    rw [eR] at pl
    have ne : lotN (r0 :: rest) N ≠ [] := fun e => by
      have m : r0 ∈ lotN (r0 :: rest) N := lotN_mem.mpr (.inl rfl)
      rw [e] at m
      cases m
    have tl : 0 < (lotN (r0 :: rest) N).length := List.length_pos_iff.mpr ne
    have sn : (aks (restN (r0 :: rest) N)).Sublist (aks (r0 :: rest)) := (List.filter_sublist).map _
    obtain ⟨r, _, mr⟩ := h (restN (r0 :: rest) N) (by simp at pl; omega) (by simp at pl; omega) (nd.sublist sn) (fun k hk => nm k (sn.subset hk)) (rest_tot nr (by simp) t0 l0)
    exact ⟨r, mr⟩
end
end LW
namespace LW
open TB
theorem lots_pure {vs : List Int} {n : Nat} (hn : n ≤ 8) : ∀ (c m : Nat) (L : List (List Nat)), (bitsL n m).length ≤ c → m < 2 ^ n → LInv vs n m L → ∃ L', LInv vs n 0 L'
  | 0, m, L, hc, hm, h => by
    have : bitsL n m = [] := List.length_eq_zero_iff.mp (by omega)
    rw [bits_nil hn hm] at this
    subst this
    exact ⟨L, h⟩
  | c + 1, m, L, hc, hm, h => by
    by_cases q : m = 0
    · subst q; exact ⟨L, h⟩
    · obtain ⟨k, ini, cur, hk, _, d1, _, inv, lt⟩ := lots_step hn hm q h
      exact lots_pure hn c (m - 2 ^ k) _ (by omega) (Nat.lt_of_le_of_lt (Nat.sub_le _ _) hm) inv
theorem exists_lots (vs : List Int) {n : Nat} (hn : n ≤ 8) (s0 : sumK vs (List.range n) = 0) : ∃ L : List (List Nat), L.flatten.Perm (List.range n) ∧ (L.length : Int) = (fE vs n (2 ^ n - 1)).1 ∧ ∀ l ∈ L, sumK vs l = 0 ∧ l ≠ [] := by
  have p := Nat.two_pow_pos n
  obtain ⟨L, inv⟩ := lots_pure hn _ (2 ^ n - 1) [] (Nat.le_refl _) (by omega) (lots_start hn s0)
  exact ⟨L, lots_end inv⟩
theorem sum_range (rows : List PR) : sumK (rows.map (·.2)) (List.range rows.length) = tot rows := by
  have := lot_vals rows (l := List.range rows.length) fun k hk => List.mem_range.mp hk
  rw [rows_range] at this
  exact this.symm
theorem maxF_full {rows : List PR} (nd : (aks rows).Nodup) (h8 : rows.length ≤ 8) (t0 : tot rows = 0) {r : Nat} (h : MaxF rows r) : (r : Int) = (fE (rows.map (·.2)) rows.length (2 ^ rows.length - 1)).1 := by
  have nr := rows_nodup nd
  obtain ⟨⟨P, f, e⟩, up⟩ := h
  refine Int.le_antisymm ?_ ?_
  · let ix : PR → Nat := fun x => rows.idxOf x
    have ixl : ∀ x ∈ rows, ix x < rows.length := fun x hx => List.idxOf_lt_length_of_mem hx
    have ixg : ∀ x (hx : x ∈ rows), rows[ix x]'(ixl x hx) = x := fun x hx => List.getElem_idxOf (ixl x hx)
    have inj : ∀ x ∈ rows, ∀ y ∈ rows, ix x = ix y → x = y := fun x hx y hy q => by
      have a := ixg x hx
      have b := ixg y hy
      rw [← a, ← b]
      simp only [q]
    have fl : (P.map fun l => l.map ix).flatten = P.flatten.map ix := by rw [List.map_flatten]
    have mx := fam_max (rows.map (·.2)) h8 (P.map fun l => l.map ix) (by
      rw [fl]
      exact List.pairwise_map.mpr (f.nd.imp_of_mem fun {a b} ha hb ne q => ne (inj a (f.sub a ha) b (f.sub b hb) q))) (fun k hk => by
      rw [fl] at hk
      obtain ⟨x, hx, rfl⟩ := List.mem_map.mp hk
      exact ixl x (f.sub x hx)) fun l hl => by
      obtain ⟨l', hl', rfl⟩ := List.mem_map.mp hl
      obtain ⟨q1, q2⟩ := f.z l' hl'
      refine ⟨by simpa using q1, ?_⟩
      unfold tot at q2
      unfold sumK
      rw [List.map_map]
      refine Eq.trans ?_ q2
      congr 1
      refine List.map_congr_left fun x hx => ?_
      have hxr := f.sub x (List.mem_flatten.mpr ⟨l', hl', hx⟩)
      have lx := ixl x hxr
      show (rows.map (·.2)).getD (ix x) 0 = x.2
      rw [List.getD_eq_getElem?_getD]
      simp only [List.getElem?_map, List.getElem?_eq_getElem lx, Option.map_some, Option.getD_some, ixg x hxr]
    rw [List.length_map, e] at mx
    exact mx
  · obtain ⟨L, pm, ct, ok⟩ := exists_lots (rows.map (·.2)) h8 (by rw [sum_range]; exact t0)
    have bd : ∀ l ∈ L, ∀ k ∈ l, k < rows.length := fun l hl k hk => List.mem_range.mp (pm.mem_iff.mp (List.mem_flatten.mpr ⟨l, hl, hk⟩))
    have fl : (L.map (lotR rows)).flatten = lotR rows L.flatten := by unfold lotR; rw [List.map_flatten]
    have pr : (lotR rows L.flatten).Perm rows := by
      have := pm.map (rowN rows)
      have e2 := rows_range rows
      unfold lotR at e2 ⊢
      rw [e2] at this
      exact this
    have fam : Fam rows (L.map (lotR rows)) := ⟨by rw [fl]; exact pr.nodup_iff.mpr nr, fun x hx => by rw [fl] at hx; exact pr.mem_iff.mp hx, fun l hl => by
      obtain ⟨l', hl', rfl⟩ := List.mem_map.mp hl
      obtain ⟨s0, ne⟩ := ok l' hl'
      exact ⟨by unfold lotR; simpa using ne, by rw [lot_vals rows (bd l' hl')]; exact s0⟩⟩
    have := up _ fam
    rw [List.length_map] at this
    rw [← ct]
    omega
end LW
namespace LW
open TB
section
variable {Γ : Nat → Fn}
theorem nm_at2 {names : List Nm} {i : Nat} (h : i < names.length) : fIx (.lst (names.map D.str)) (.int (i : Int)) = some (.fz, .str (names.getD i [])) := by
  rw [fIx_nat (by simpa using h), List.getElem_map]
  simp [List.getD_eq_getElem?_getD, h]
def RingsQ (names : List Nm) (r : KD) (o : List KD) : Prop := ∃ (ds : List Debt) (kd : KD), r = (.fz, .lst (ds.map debtE)) ∧ o = [kd] ∧ DI kd ∧ (∀ d ∈ ds, debtOk d) ∧ ds.length ≤ 20 ∧ ∀ d ∈ ds, d.1 ∈ names ∧ d.2.1 ∈ names
def Dn (names : List Nm) (ds : List Debt) : Prop := (∀ d ∈ ds, debtOk d) ∧ ∀ d ∈ ds, d.1 ∈ names ∧ d.2.1 ∈ names
theorem Dn.add {names : List Nm} {ds : List Debt} (h : Dn names ds) {a b : Nm} {c : Int} (ha : a ∈ names) (hb : b ∈ names) (na : nameS a = true) (nb : nameS b = true) (ne : a ≠ b) (c1 : 1 ≤ c) (c2 : c ≤ 1000000000) : Dn names (ds ++ [(a, b, c)]) := by
  refine ⟨fun d hd => ?_, fun d hd => ?_⟩
  · rcases List.mem_append.mp hd with hd | hd
    · exact h.1 d hd
    · have e : d = (a, b, c) := by simpa using hd
      subst e
      exact ⟨na, nb, ne, c1, c2⟩
  · rcases List.mem_append.mp hd with hd | hd
    · exact h.2 d hd
    · have e : d = (a, b, c) := by simpa using hd
      subst e
      exact ⟨ha, hb⟩
def RA (names : List Nm) (kd : KD) (pc : Int) (xs : List D) (S : List Slot) : Prop := ∃ (ds : List Debt) (x4 : Slot) (j : Nat), Dn names ds ∧ ds.length + xs.length ≤ 8 ∧ xs.length + j ≤ names.length ∧ xs = rangeL (j : Int) xs.length ∧ S = [some kd, some (.fz, .lst (names.map D.str)), some (.li .fz, .lst (ds.map debtE)), some (.fz, .int pc), x4, none, none, none]
def RB (names : List Nm) (pc : Int) (xs : List D) (S : List Slot) : Prop := ∃ (ds : List Debt) (kd : KD) (x4 x5 x6 x7 : Slot), DI kd ∧ Dn names ds ∧ ds.length + xs.length ≤ 20 ∧ S = [some kd, some (.fz, .lst (names.map D.str)), some (.li .fz, .lst (ds.map debtE)), some (.fz, .int pc), x4, x5, x6, x7]
theorem rings_213 (hF : DrawOk (Γ 7)) {names : List Nm} {kd : KD} (hd : DI kd) (n2 : 2 ≤ names.length) (n8 : names.length ≤ 8) (hn : ∀ s ∈ names, nameS s = true) (nd : names.Nodup) : FnP (runF 8 [0] (mb_213 Γ)) [kd, (.fz, .lst (names.map D.str))] (RingsQ names) := by
  refine runF_wp (by obtain ⟨a, b, rfl, _⟩ := hd; rfl) ?_
  have e0 : fLst [] = some (.li .fz, .lst []) := rfl
  have e1 : ∀ i : Int, fAdd (.int 1) (.int i) = some (.fz, .int (1 + i)) := fun i => rfl
  have ln : fLen [.lst (names.map D.str)] = some (.fz, .int names.length) := by simp [fLen, kz]
  simp [mb_213, e0, -cb1, -Prod.exists, -Prod.forall]
  refine draw_wp hF rfl ?_
  simp [hd, -cb1, -Prod.exists, -Prod.forall]
  intro r0 k0 h0 r0a r0b
  simp [e1, ln, -cb1, -Prod.exists, -Prod.forall]
  refine draw_wp hF rfl ?_
  simp [h0, -cb1, -Prod.exists, -Prod.forall]
  intro r1 k1 h1 r1a r1b
  have mu : ∃ c : Nat, fMul (.int names.length) (.int r1) = some (.fz, .int (c : Int)) ∧ c ≤ names.length := by
    have rr : r1 = 0 ∨ r1 = 1 := by omega
    have sm : small (names.length : Int) := by unfold small; omega
    rcases rr with rfl | rfl
    · refine ⟨0, ?_, by omega⟩
      show (if small (names.length : Int) ∧ small 0 then kz (.int ((names.length : Int) * 0)) else none) = _
      rw [if_pos ⟨sm, by unfold small; omega⟩, Int.mul_zero]
      rfl
    · refine ⟨names.length, ?_, Nat.le_refl _⟩
      show (if small (names.length : Int) ∧ small 1 then kz (.int ((names.length : Int) * 1)) else none) = _
      rw [if_pos ⟨sm, by unfold small; omega⟩, Int.mul_one]
      rfl
  obtain ⟨c, mu, hc⟩ := mu
  have cl : c < limN := by unfold limN; omega
  simp [mu, cl, -cb1, -Prod.exists, -Prod.forall]
  refine loopG_wp (RA names k1 (1 + r0)) ?_ ?_ _ _ ⟨[], none, 0, ⟨fun d hd => absurd hd List.not_mem_nil, fun d hd => absurd hd List.not_mem_nil⟩, by rw [rangeL_length]; simp; omega, by rw [rangeL_length]; omega, by rw [rangeL_length]; rfl, rfl⟩
  · rintro d xs S ⟨ds, x4, j, dn, hl, hj, hx, rfl⟩
    rw [List.length_cons, rangeL_succ] at hx
    injection hx with hd1 hx
    subst hd1
    simp only [List.length_cons] at hl hj
    refine ⟨_, put_nm (by simp), ?_⟩
    have j1 : j < names.length := by omega
    obtain ⟨a, ea, na, ma⟩ := pick_nameM hn (r := (j : Int)) (by omega) (by omega)
    have aj : a = names[j] := by
      have := nm_at2 (names := names) j1
      rw [ea] at this
      simp [List.getD_eq_getElem?_getD, j1] at this
      exact this
    have md : fMod (.int ((j : Int) + 1)) (.int names.length) = some (.fz, .int (((j + 1) % names.length : Nat) : Int)) := by
      show (if (0 : Int) < names.length then kz (.int (((j : Int) + 1) % (names.length : Int))) else none) = _
      rw [if_pos (by omega)]
      rfl
    have lt : (j + 1) % names.length < names.length := Nat.mod_lt _ (by omega)
    obtain ⟨b, eb, nb, mb⟩ := pick_nameM hn (r := (((j + 1) % names.length : Nat) : Int)) (by omega) (by omega)
    have bj : b = names[(j + 1) % names.length] := by
      have := nm_at2 (names := names) lt
      rw [eb] at this
      simp only [List.getD_eq_getElem?_getD, List.getElem?_eq_getElem lt, Option.getD_some] at this
      injection this with this
      injection this with _ this
      injection this
    have ne : a ≠ b := fun e => by
      rw [aj, bj] at e
      have := nd_inj nd j1 lt e
      by_cases q : j + 1 < names.length
      · rw [Nat.mod_eq_of_lt q] at this; omega
      · have q2 : j + 1 = names.length := by omega
        have q3 : (j + 1) % names.length = 0 := by rw [q2]; exact Nat.mod_self _
        omega
    have ad : fAdd (.int (j : Int)) (.int 1) = some (.fz, .int ((j : Int) + 1)) := rfl
    have ap : fAppend (ds.map debtE) [.tup [.str a, .str b, .int (1 + r0)]] = some (.non, (ds ++ [(a, b, 1 + r0)]).map debtE) := by
      show (if _ < sizeMax then _ else none) = _
      rw [if_pos (by rw [List.length_map]; unfold sizeMax; omega), List.map_append]
      rfl
    generalize (((j + 1) % names.length : Nat) : Int) = jj at *
    simp [ea, ad, ln, md, eb, tup_f, ap, ownL, -List.map_append, -Prod.exists, -Prod.forall]
    exact ⟨ds ++ [(a, b, 1 + r0)], _, j + 1, dn.add ma mb na nb ne (by omega) (by omega), by simp; omega, by omega, hx, rfl⟩
  · rintro S ⟨ds, x4, j, dn, hl, hj, hx, rfl⟩
    simp [-cb1, -Prod.exists, -Prod.forall]
    refine draw_wp hF rfl ?_
    simp [h1, -cb1, -Prod.exists, -Prod.forall]
    intro r2 k2 h2 r2a r2b
    have l2 : r2.natAbs < limN := by unfold limN; omega
    simp [l2, -cb1, -Prod.exists, -Prod.forall]
    refine loopG_wp (RB names (1 + r0)) ?_ ?_ _ _ ⟨ds, k2, x4, none, none, none, h2, dn, by rw [rangeL_length]; simp at hl; omega, rfl⟩
    · rintro d xs S ⟨ds, k3, x4, x5, x6, x7, h3, dn, hl, rfl⟩
      simp only [List.length_cons] at hl
      refine ⟨_, put_nm (by simp), ?_⟩
      simp [ln, -cb1, -Prod.exists, -Prod.forall]
      refine draw_wp hF rfl ?_
      simp [ln, h3, -cb1, -Prod.exists, -Prod.forall]
      refine ⟨by omega, by omega, ?_⟩
      intro r5 k5 h5 r5a r5b
      obtain ⟨a, ea, na, ma⟩ := pick_nameM hn r5a r5b
      refine draw_wp hF rfl ?_
      simp [ln, h5, -cb1, -Prod.exists, -Prod.forall]
      refine ⟨by omega, by omega, ?_⟩
      intro r6 k6 h6 r6a r6b
      obtain ⟨b, eb, nb, mb⟩ := pick_nameM hn r6a r6b
      by_cases q : r5 = r6
      · simp [nei, q, -cb1, -Prod.exists, -Prod.forall]
        exact ⟨ds, k6, _, _, _, _, h6, dn, by omega, rfl⟩
      · simp [nei, q, ea, eb, ownL, -cb1, -Prod.exists, -Prod.forall]
        refine draw_wp hF rfl ?_
        simp [h6, -cb1, -Prod.exists, -Prod.forall]
        intro r8 k8 h8 r8a r8b
        have ne : a ≠ b := fun e => by
          have ja : r5.toNat < names.length := by omega
          have jb : r6.toNat < names.length := by omega
          have a1 := nm_at2 (names := names) ja
          have b1 := nm_at2 (names := names) jb
          rw [show ((r5.toNat : Nat) : Int) = r5 by omega, ea] at a1
          rw [show ((r6.toNat : Nat) : Int) = r6 by omega, eb] at b1
          simp only [List.getD_eq_getElem?_getD, List.getElem?_eq_getElem ja, List.getElem?_eq_getElem jb, Option.getD_some] at a1 b1
          injection a1 with a1; injection a1 with _ a1; injection a1 with a1
          injection b1 with b1; injection b1 with _ b1; injection b1 with b1
          rw [a1, b1] at e
          have := nd_inj nd ja jb e
          omega
        have ap : fAppend (ds.map debtE) [.tup [.str a, .str b, .int (1 + r8)]] = some (.non, (ds ++ [(a, b, 1 + r8)]).map debtE) := by
          show (if _ < sizeMax then _ else none) = _
          rw [if_pos (by rw [List.length_map]; unfold sizeMax; omega), List.map_append]
          rfl
        simp [e1, tup_f, ap, ownL, -List.map_append, -cb1, -Prod.exists, -Prod.forall]
        exact ⟨ds ++ [(a, b, 1 + r8)], k8, _, _, _, _, h8, dn.add ma mb na nb ne (by omega) (by omega), by simp; omega, rfl⟩
    · rintro S ⟨ds, k3, x4, x5, x6, x7, h3, dn, hl, rfl⟩
      simp [isF_fz, hd.own, h3.own, outsOf, -cb1, -Prod.exists, -Prod.forall]
      exact ⟨ds, k3, rfl, rfl, h3, dn.1, by simpa using hl, dn.2⟩
end
end LW
namespace LW
open TB
def flatN (ds : List Debt) : List Nm := ds.flatMap fun d => [d.1, d.2.1]
theorem net_not : ∀ {ds : List Debt} {x : Nm}, x ∉ flatN ds → netX ds x = 0
  | [], _, _ => rfl
  | d :: ds, x, h => by
    have e : flatN (d :: ds) = [d.1, d.2.1] ++ flatN ds := rfl
    rw [e] at h
    simp only [List.mem_append, List.mem_cons, List.not_mem_nil, or_false, not_or] at h
    have e2 : netX (d :: ds) x = dX x d + netX ds x := by simp [netX]
    rw [e2, net_not h.2]
    have h1 : ¬ d.1 = x := fun q => h.1.1 q.symm
    have h2 : ¬ d.2.1 = x := fun q => h.1.2 q.symm
    simp [dX, h1, h2]
theorem net_ne : ∀ {ds : List Debt}, (flatN ds).Nodup → (∀ d ∈ ds, 1 ≤ d.2.2) → ∀ x ∈ flatN ds, netX ds x ≠ 0
  | [], _, _, x, h => by cases h
  | d :: ds, nd, h1, x, hx => by
    have e : flatN (d :: ds) = [d.1, d.2.1] ++ flatN ds := rfl
    rw [e] at nd hx
    obtain ⟨n1, n2, dj⟩ := List.nodup_append.mp nd
    have ne : d.1 ≠ d.2.1 := by simpa using n1
    have c1 := h1 d List.mem_cons_self
    have e2 : netX (d :: ds) x = dX x d + netX ds x := by simp [netX]
    rw [e2]
    rcases List.mem_append.mp hx with hx | hx
    · have z : netX ds x = 0 := net_not fun m => dj x hx x m rfl
      rw [z]
      simp only [List.mem_cons, List.not_mem_nil, or_false] at hx
      rcases hx with rfl | rfl
      · have : ¬ d.2.1 = d.1 := fun q => ne q.symm
        simp [dX, this]; omega
      · simp [dX, ne]; omega
    · have a1 : d.1 ≠ x := fun q => dj d.1 (by simp) x hx q
      have a2 : d.2.1 ≠ x := fun q => dj d.2.1 (by simp) x hx q
      have := net_ne n2 (fun d hd => h1 d (List.mem_cons_of_mem _ hd)) x hx
      simp [dX, a1, a2]; exact this
theorem aks_RR {ds : List Debt} (h : ∀ d ∈ ds, goOk d) {x : Nm} (hx : netX ds x ≠ 0) : x ∈ aks (RR ds) := by
  refine gv_mem ?_
  rw [RR_gv h]
  exact hx
/-- of unlike names: not more goings than debts -/
theorem few_le {ds : List Debt} (h : ∀ d ∈ ds, goOk d) (ne : ∀ d ∈ ds, netX ds d.1 ≠ 0 ∧ netX ds d.2.1 ≠ 0) (r8 : (RR ds).length ≤ 8) : ((RR ds).length : Int) - fFull ds ≤ ds.length :=
  goings_ge (RR_ok h).nd r8 (fun d hd => ⟨aks_RR h (ne d hd).1, aks_RR h (ne d hd).2⟩) fun x => (RR_gv h x).symm
theorem eqv_bals : ∀ rows : List PR, D.eqvs (rows.map balE) (rows.map balE) = true
  | [] => rfl
  | p :: rows => by
    show (D.eqv (balE p) (balE p) && D.eqvs (rows.map balE) (rows.map balE)) = true
    rw [eqv_bal, eqv_bals rows]
    simp
theorem goB_ok {d : Debt} (h : goOk d) : goB (debtE d) = true := by
  obtain ⟨a, b, c⟩ := d
  obtain ⟨h1, h2, h3, h4⟩ := h
  simp only at h1 h2 h3 h4
  show (nameS a && (nameS b && (!(a == b) && decide (0 < c)))) = true
  rw [h1, h2]
  simp [h3]
  omega
theorem RR_same {ds gs : List Debt} (h : ∀ d ∈ ds, goOk d) (h' : ∀ d ∈ gs, goOk d) (e : ∀ x, netX gs x = netX ds x) : RR gs = RR ds := by
  have key : ∀ (ds : List Debt) (m : List (Nm × Int)), (aks m).Nodup → (aks (balF m ds)).Nodup := fun ds => by
    induction ds with
    | nil => intro m h; exact h
    | cons d ds ih => intro m h; exact ih _ (aset_nd (aset_nd h))
  exact balR_ext (key gs [] (by simp [aks])) (key ds [] (by simp [aks])) fun x => by rw [gv_net, gv_net, e]
theorem set_true {ds gs : List Debt} (h : ∀ d ∈ ds, goOk d) (s : SetOk ds gs) : setB (.lst (gs.map debtE)) ds = true := by
  have hl : lstOf (.lst (gs.map debtE)) = gs := by
    show (gs.map debtE).map unG = gs
    rw [List.map_map]
    exact List.map_id' _
  have sl := s.ln
  unfold setB
  rw [hl]
  unfold rrD
  rw [RR_same h (fun d hd => (s.ok d hd).1) s.net]
  rw [Bool.and_eq_true]
  refine ⟨?_, eqv_bals _⟩
  show (decide ((gs.map debtE).length ≤ 200) && (gs.map debtE).all goB) = true
  rw [Bool.and_eq_true]
  refine ⟨decide_eq_true (by simp; omega), List.all_eq_true.mpr fun x hx => ?_⟩
  obtain ⟨d, hd, rfl⟩ := List.mem_map.mp hx
  exact goB_ok (s.ok d hd).1
def nm8 : List Nm := [[97, 120], [98, 120], [99, 120], [100, 120], [101, 120], [102, 120], [103, 120], [104, 120]]
def ds3 : List Debt := [([97, 120], [98, 120], 7), ([97, 120], [99, 120], 5), ([100, 120], [101, 120], 300), ([102, 120], [101, 120], 20), ([103, 120], [104, 120], 4000)]
theorem ds3_ok : ∀ d ∈ ds3, debtOk d := by
  intro d hd
  simp only [ds3, List.mem_cons, List.not_mem_nil, or_false] at hd
  rcases hd with rfl | rfl | rfl | rfl | rfl <;> exact ⟨by decide, by decide, by decide, by decide, by decide⟩
theorem ds3_go : ∀ d ∈ ds3, goOk d := fun d hd => (ds3_ok d hd).go
def vs8 : List Int := [12, -7, -5, 300, -320, 20, 4000, -4000]
theorem RR3 : RR ds3 = nm8.zip vs8 := by
  have mem : ∀ x, x ∈ keysR (balF [] ds3) ↔ x ∈ nm8 := fun x => by
    rw [keysR_mem, gv_net]
    constructor
    · intro h
      refine Classical.byContradiction fun n => h (net_not fun m => n ?_)
      have : ∀ y ∈ flatN ds3, y ∈ nm8 := by decide
      exact this x m
    · intro h
      have : ∀ y ∈ nm8, netX ds3 y ≠ 0 := by decide
      exact this x h
  have key : ∀ (ds : List Debt) (m : List (Nm × Int)), (aks m).Nodup → (aks (balF m ds)).Nodup := fun ds => by
    induction ds with
    | nil => intro m h; exact h
    | cons d ds ih => intro m h; exact ih _ (aset_nd (aset_nd h))
  have k : keysR (balF [] ds3) = nm8 := by
    refine List.Perm.eq_of_pairwise (le := (· ≤ ·)) (fun a b _ _ x y => List.le_antisymm x y) (keysR_le _) ?_ ((List.perm_ext_iff_of_nodup (keysR_nd (key ds3 [] (by simp [aks]))) (by decide)).mpr mem)
    have : nm8.Pairwise (· < ·) := by decide
    exact this.imp fun h => List.le_of_lt h
  unfold RR
  rw [balR_eq, k]
  have : (nm8.map fun k => (k, gv (balF [] ds3) k)) = nm8.map fun k => (k, netX ds3 k) := List.map_congr_left fun x _ => by rw [gv_net]
  rw [this]
  decide
theorem len3 : (RR ds3).length = 8 := by rw [RR3]; rfl
/-- each lot has one of three -/
theorem lot_has {l : List Nat} (nl : l.Nodup) (hl : ∀ k ∈ l, k < 8) (s0 : sumK vs8 l = 0) (ne : l ≠ []) : ∃ k ∈ l, k = 1 ∨ k = 4 ∨ k = 7 := by
  refine Classical.byContradiction fun n => ?_
  have n1 : 1 ∉ l := fun m => n ⟨1, m, .inl rfl⟩
  have n4 : 4 ∉ l := fun m => n ⟨4, m, .inr (.inl rfl)⟩
  have n7 : 7 ∉ l := fun m => n ⟨7, m, .inr (.inr rfl)⟩
  have pm : l.Perm ((List.range 8).filter fun k => decide (k ∈ l)) := by
    refine (List.perm_ext_iff_of_nodup nl (List.nodup_range.filter _)).mpr fun x => ?_
    rw [List.mem_filter, List.mem_range]
    constructor
    · intro h; exact ⟨hl x h, decide_eq_true h⟩
    · intro h; exact of_decide_eq_true h.2
  rw [sumK_perm pm] at s0
  have r8 : List.range 8 = [0, 1, 2, 3, 4, 5, 6, 7] := rfl
  rw [r8] at s0 pm
  by_cases c0 : 0 ∈ l <;> by_cases c2 : 2 ∈ l <;> by_cases c3 : 3 ∈ l <;> by_cases c5 : 5 ∈ l <;> by_cases c6 : 6 ∈ l <;> simp [List.filter_cons, n1, n4, n7, c0, c2, c3, c5, c6, sumK, vs8] at s0 pm
  exact ne pm
theorem full3 : fFull ds3 ≤ 3 := by
  have t0 := (RR_ok ds3_go).t0
  have e : valsOf (RR ds3) = vs8 := by rw [RR3]; rfl
  unfold fFull
  rw [len3, e]
  obtain ⟨L, pm, ct, ok⟩ := exists_lots vs8 (n := 8) (by omega) (by decide)
  rw [← ct]
  have ndL : L.flatten.Nodup := pm.nodup_iff.mpr List.nodup_range
  have bd : ∀ l ∈ L, ∀ k ∈ l, k < 8 := fun l hl k hk => List.mem_range.mp (pm.mem_iff.mp (List.mem_flatten.mpr ⟨l, hl, hk⟩))
  have key : ∀ L : List (List Nat), L.flatten.Nodup → (∀ l ∈ L, ∃ k ∈ l, k = 1 ∨ k = 4 ∨ k = 7) → ∃ W : List Nat, W.length = L.length ∧ W.Nodup ∧ (∀ k ∈ W, k ∈ L.flatten) ∧ ∀ k ∈ W, k ∈ [1, 4, 7] := fun L => by
    induction L with
    | nil => intro _ _; exact ⟨[], rfl, by simp, by simp, by simp⟩
    | cons l L ih =>
      intro nd h
      rw [List.flatten_cons] at nd
      obtain ⟨n1, n2, dj⟩ := List.nodup_append.mp nd
      obtain ⟨W, w1, w2, w3, w4⟩ := ih n2 fun l' hl' => h l' (List.mem_cons_of_mem _ hl')
      obtain ⟨k, hk, kk⟩ := h l List.mem_cons_self
      refine ⟨k :: W, by simp [w1], List.nodup_cons.mpr ⟨fun m => dj k hk k (w3 k m) rfl, w2⟩, fun x hx => ?_, fun x hx => ?_⟩
      · rw [List.flatten_cons, List.mem_append]
        rcases List.mem_cons.mp hx with rfl | hx
        · exact .inl hk
        · exact .inr (w3 x hx)
      · rcases List.mem_cons.mp hx with rfl | hx
        · simp; exact kk
        · exact w4 x hx
  obtain ⟨W, w1, w2, _, w4⟩ := key L ndL fun l hl => by
    have nl : l.Nodup := by
      obtain ⟨a, b, e⟩ := List.append_of_mem hl
      rw [e] at ndL
      simp only [List.flatten_append, List.flatten_cons] at ndL
      exact (List.nodup_append.mp (List.nodup_append.mp ndL).2.1).1
    exact lot_has nl (bd l hl) (ok l hl).1 (ok l hl).2
  have := w2.length_le_of_subset (l₂ := [1, 4, 7]) w4
  simp at this
  omega
theorem few3 : ((RR ds3).length : Int) - fFull ds3 = 5 := by
  have a := few_le ds3_go (by decide) (by rw [len3]; omega)
  have b := full3
  have c : (ds3.length : Int) = 5 := rfl
  rw [len3] at *
  omega
end LW
namespace LW
open TB
section
variable {Γ : Nat → Fn}
/-- four pairs, so far -/
structure Prs (j : Nat) (ds : List Debt) : Prop where
  ok : ∀ d ∈ ds, debtOk d
  ln : ds.length = j
  fl : flatN ds = nm8.take (2 * j)
theorem nm_step : ∀ j : Nat, j < 4 → fIx (.lst (nm8.map D.str)) (.int (2 * (j : Int))) = some (.fz, .str (nm8.getD (2 * j) [])) ∧ fIx (.lst (nm8.map D.str)) (.int (2 * (j : Int) + 1)) = some (.fz, .str (nm8.getD (2 * j + 1) [])) ∧ nm8.take (2 * (j + 1)) = nm8.take (2 * j) ++ [nm8.getD (2 * j) [], nm8.getD (2 * j + 1) []] ∧ nm8.getD (2 * j) [] ≠ nm8.getD (2 * j + 1) [] ∧ nameS (nm8.getD (2 * j) []) = true ∧ nameS (nm8.getD (2 * j + 1) []) = true ∧ ∃ c : Int, fIx (.lst [.int 1, .int 10, .int 100, .int 1000]) (.int (j : Int)) = some (.fz, .int c) ∧ 1 ≤ c ∧ c ≤ 1000
  | 0, _ => ⟨rfl, rfl, rfl, by decide, by decide, by decide, 1, rfl, by omega, by omega⟩
  | 1, _ => ⟨rfl, rfl, rfl, by decide, by decide, by decide, 10, rfl, by omega, by omega⟩
  | 2, _ => ⟨rfl, rfl, rfl, by decide, by decide, by decide, 100, rfl, by omega, by omega⟩
  | 3, _ => ⟨rfl, rfl, rfl, by decide, by decide, by decide, 1000, rfl, by omega, by omega⟩
  | n + 4, h => by omega
theorem pairs_few {ds : List Debt} (h : Prs 4 ds) : (RR ds).length ≤ 8 ∧ ((RR ds).length : Int) - fFull ds ≤ 4 := by
  have go : ∀ d ∈ ds, goOk d := fun d hd => (h.ok d hd).go
  have fl : flatN ds = nm8 := h.fl
  have m1 : ∀ d ∈ ds, d.1 ∈ flatN ds ∧ d.2.1 ∈ flatN ds := fun d hd => ⟨List.mem_flatMap.mpr ⟨d, hd, by simp⟩, List.mem_flatMap.mpr ⟨d, hd, by simp⟩⟩
  have nd : (flatN ds).Nodup := by rw [fl]; decide
  have r8 : (RR ds).length ≤ 8 := RR_names go (names := nm8) fun d hd => by rw [← fl]; exact m1 d hd
  refine ⟨r8, ?_⟩
  have := few_le go (fun d hd => ⟨net_ne nd (fun d hd => (go d hd).2.2.2) _ (m1 d hd).1, net_ne nd (fun d hd => (go d hd).2.2.2) _ (m1 d hd).2⟩) r8
  rw [h.ln] at this
  exact this
def PI' (xs : List D) (S : List Slot) : Prop := ∃ (j : Nat) (ds : List Debt) (kd : KD) (x3 : Slot), j ≤ 4 ∧ xs = rangeL (j : Int) (4 - j) ∧ DI kd ∧ Prs j ds ∧ S = [some kd, some (.fz, .lst (nm8.map D.str)), some (.li .fz, .lst (ds.map debtE)), x3, none, none]
structure Lr (Γ : Nat → Fn) : Prop where
  d7 : DrawOk (Γ 7)
  s201 : S201 (Γ 201)
  w202 : W202 (Γ 202)
  s196 : S196 (Γ 196)
theorem gs_good {gs : List Debt} (h : ∀ d ∈ gs, goB2 d) (hl : gs.length ≤ 100) : good 1000 20 (.lst (gs.map debtE)) := list_good (by simp; omega) fun x hx => by
  obtain ⟨d, hd, rfl⟩ := List.mem_map.mp hx
  exact debt_good (h d hd).1 18
theorem names_lc (S : List Slot) (hv : 5 < S.length) (hz : fzAt S 5 = true) : eLc (itStr (eCon (.str [97, 98, 99, 100, 101, 102, 103, 104]))) (.nm 5) [5] tTrue (eOp fAdd (eVar 5) (eCon (.str [120]))) S = .ok (.li .fz, .lst (nm8.map D.str)) S := by
  have z := lc_pure (v := 5) (S0 := S) (S := S) (it := itStr (eCon (.str [97, 98, 99, 100, 101, 102, 103, 104]))) (c := tTrue) (e := eOp fAdd (eVar 5) (eCon (.str [120]))) (ds := ([97, 98, 99, 100, 101, 102, 103, 104] : List Nat).map fun c => .str [c]) (fun _ => true) (fun d => match d with | .str s => .str (s ++ [120]) | _ => .non) (by simp [itStr]) hv hz (fun _ _ => rfl) (fun d hd _ => ⟨.fz, by
    obtain ⟨c, hc, rfl⟩ := List.mem_map.mp hd
    have ad : fAdd (.str [c]) (.str [120]) = some (.fz, .str ([c] ++ [120])) := rfl
    simp [hv, ad]⟩) (by decide)
  rw [filter_true] at z
  exact z
theorem lots_214 (h : Lr Γ) {kd : KD} (hd : DI kd) : FnP (runF 6 [0] (mb_214 Γ)) [kd] fun r o => r = (.fz, .bl true) ∧ ∃ kd', o = [kd'] ∧ DI kd' := by
  refine runF_wp (by obtain ⟨a, b, rfl, _⟩ := hd; rfl) ?_
  have e0 : fLst [] = some (.li .fz, .lst []) := rfl
  have z := names_lc [some kd, none, none, none, none, none] (by simp) rfl
  have l4 : (4 : Nat) < limN := by decide
  simp [mb_214, z, e0, l4, -cb1, -Prod.exists, -Prod.forall]
  refine loopG_wp PI' ?_ ?_ _ _ ⟨0, [], kd, none, by omega, rfl, hd, ⟨fun d hd => absurd hd List.not_mem_nil, rfl, rfl⟩, rfl⟩
  · rintro d xs S ⟨j, ds, k1, x3, hj, hx, h1, pr, rfl⟩
    cases q : 4 - j with
    | zero => rw [q] at hx; cases hx
    | succ r =>
      rw [q, rangeL_succ] at hx
      cases hx
      have j4 : j < 4 := by omega
      obtain ⟨i1, i2, i3, i4, i5, i6, c, i7, c1, c2⟩ := nm_step j j4
      refine ⟨_, put_nm (by simp), ?_⟩
      have mu : fMul (.int 2) (.int (j : Int)) = some (.fz, .int (2 * (j : Int))) := by
        show (if small 2 ∧ small (j : Int) then kz (.int (2 * (j : Int))) else none) = _
        rw [if_pos ⟨by unfold small; omega, by unfold small; omega⟩]
        rfl
      have a1 : fAdd (.int (2 * (j : Int))) (.int 1) = some (.fz, .int (2 * (j : Int) + 1)) := rfl
      have lL : fLst [.int 1, .int 10, .int 100, .int 1000] = some (.li .fz, .lst [.int 1, .int 10, .int 100, .int 1000]) := rfl
      have p7 : fPow (.int 10) (.int 7) = some (.fz, .int 10000000) := rfl
      generalize nm8.getD (2 * j) [] = a at *
      generalize nm8.getD (2 * j + 1) [] = b at *
      generalize hND : nm8.map D.str = ND at *
      simp [mu, i1, i2, a1, lL, i7, ownL, p7, -cb1, -Prod.exists, -Prod.forall]
      refine draw_wp h.d7 rfl ?_
      simp [h1, -cb1, -Prod.exists, -Prod.forall]
      intro r0 k2 h2 r0a r0b
      have m7 : fMul (.int r0) (.int 10000000) = some (.fz, .int (r0 * 10000000)) := by
        show (if small r0 ∧ small 10000000 then kz (.int (r0 * 10000000)) else none) = _
        rw [if_pos ⟨by unfold small; omega, by unfold small; omega⟩]
        rfl
      have a2 : fAdd (.int c) (.int (r0 * 10000000)) = some (.fz, .int (c + r0 * 10000000)) := rfl
      have ap : fAppend (ds.map debtE) [.tup [.str a, .str b, .int (c + r0 * 10000000)]] = some (.non, (ds ++ [(a, b, c + r0 * 10000000)]).map debtE) := by
        show (if _ < sizeMax then _ else none) = _
        rw [if_pos (by rw [List.length_map, pr.ln]; unfold sizeMax; omega), List.map_append]
        rfl
      simp [m7, a2, tup_f, ap, ownL, -List.map_append, -Prod.exists, -Prod.forall]
      rw [← hND]
      refine ⟨j + 1, ds ++ [(a, b, c + r0 * 10000000)], k2, _, by omega, by rw [show r = 4 - (j + 1) by omega]; rfl, h2, ⟨fun d hd => ?_, by simp [pr.ln], ?_⟩, rfl⟩
      · rcases List.mem_append.mp hd with hd | hd
        · exact pr.ok d hd
        · have e : d = (a, b, c + r0 * 10000000) := by simpa using hd
          subst e
          exact ⟨i5, i6, i4, by show 1 ≤ c + r0 * 10000000; omega, by show c + r0 * 10000000 ≤ 1000000000; omega⟩
      · unfold flatN
        rw [List.flatMap_append, i3]
        have := pr.fl
        unfold flatN at this
        rw [this]
        simp
  · rintro S ⟨j, ds, k1, x3, hj, hx, h1, pr, rfl⟩
    have j4 : j = 4 := by
      cases q : 4 - j with
      | zero => omega
      | succ r => rw [q, rangeL_succ] at hx; cases hx
    subst j4
    obtain ⟨r8, f4⟩ := pairs_few pr
    have dl : ds.length ≤ 200 := by rw [pr.ln]; omega
    obtain ⟨gs, eg, sg⟩ : ∃ gs, Γ 201 [(.fz, .lst (ds.map debtE))] = .ret (.li .fz, .lst (gs.map debtE)) [] ∧ SetOk ds gs := by have := h.s201 ds pr.ok dl; rw [if_pos r8] at this; exact this
    have c201 : ∀ S, callsV (Γ 201) [.lst (ds.map debtE)] S = .ok (.li .fz, .lst (gs.map debtE)) S := fun S => callsV_of (ds := [.lst (ds.map debtE)]) eg S
    have c202 : ∀ S, callsV (Γ 202) [.lst (ds.map debtE)] S = .ok (.fz, .int ((RR ds).length - fFull ds)) S := fun S => callsV_of (ds := [.lst (ds.map debtE)]) (by have := h.w202 ds pr.ok dl; rw [if_pos r8] at this; exact this) S
    have lg : fLen [.lst (gs.map debtE)] = some (.fz, .int ((RR ds).length - fFull ds)) := by rw [← sg.ct]; simp [fLen, kz]
    generalize ((RR ds).length : Int) - fFull ds = u at *
    have gt : fGt (.int u) (.int 4) = some (.fz, .bl false) := by
      show kz (.bl (decide (4 < u))) = _
      rw [decide_eq_false (by omega)]; rfl
    -- the three
    have r3 : (RR ds3).length ≤ 8 := by rw [len3]; omega
    obtain ⟨g3, eg3, sg3⟩ : ∃ gs, Γ 201 [(.fz, .lst (ds3.map debtE))] = .ret (.li .fz, .lst (gs.map debtE)) [] ∧ SetOk ds3 gs := by have := h.s201 ds3 ds3_ok (by decide); rw [if_pos r3] at this; exact this
    have c201b : ∀ S, callsV (Γ 201) [.lst (ds3.map debtE)] S = .ok (.li .fz, .lst (g3.map debtE)) S := fun S => callsV_of (ds := [.lst (ds3.map debtE)]) eg3 S
    have c202b : ∀ S, callsV (Γ 202) [.lst (ds3.map debtE)] S = .ok (.fz, .int 5) S := fun S => callsV_of (ds := [.lst (ds3.map debtE)]) (by have := h.w202 ds3 ds3_ok (by decide); rw [if_pos r3, few3] at this; exact this) S
    have sl3 := sg3.ln
    have c196 : ∀ S, callsV (Γ 196) [.lst (ds3.map debtE), .lst (g3.map debtE)] S = .ok (.fz, .bl true) S := fun S => callsV_of (ds := [.lst (ds3.map debtE), .lst (g3.map debtE)]) (by
      have := h.s196 ds3 (.lst (g3.map debtE)) 20 (by omega) ds3_ok (by decide) (gs_good sg3.ok (by omega))
      rw [set_true ds3_go sg3] at this
      exact this) S
    have l5 : fLst [.tup [.str [97, 120], .str [98, 120], .int 7], .tup [.str [97, 120], .str [99, 120], .int 5], .tup [.str [100, 120], .str [101, 120], .int 300], .tup [.str [102, 120], .str [101, 120], .int 20], .tup [.str [103, 120], .str [104, 120], .int 4000]] = some (.li .fz, .lst (ds3.map debtE)) := rfl
    have e5 : fEq (.int 5) (.int 5) = some (.fz, .bl true) := rfl
    have isT : fIsA (.bl true) (.bl true) = some (.fz, .bl true) := rfl
    generalize ds3.map debtE = D3 at *
    simp [frz, c202, gt, c201, lg, nei, tup_f, l5, c202b, e5, c201b, c196, isT, -Prod.exists, -Prod.forall]
    obtain ⟨p, q, rfl, _⟩ := hd
    obtain ⟨p', q', rfl, h2⟩ := h1
    simp [dr, outsOf, Kd.isF]
    exact ⟨p', q', rfl, h2⟩
end
end LW
namespace LW
open TB
section
variable {Γ : Nat → Fn}
structure Law22 (Γ : Nat → Fn) : Prop where
  d6 : DrawsOk (Γ 6)
  d7 : DrawOk (Γ 7)
  d37 : NamesOk (Γ 37)
  d204 : ∀ kd, DI kd → FnP (Γ 204) [kd, (.fz, .int 7)] (DebtsN 7)
  rings : ∀ (names : List Nm) (kd : KD), DI kd → 2 ≤ names.length → names.length ≤ 8 → (∀ s ∈ names, nameS s = true) → names.Nodup → FnP (Γ 213) [kd, (.fz, .lst (names.map D.str))] (RingsQ names)
  s201 : S201 (Γ 201)
  w202 : W202 (Γ 202)
  s196 : S196 (Γ 196)
  l205 : L205 (Γ 205)
  m212 : M212 8 (Γ 212)
  l214 : ∀ kd, DI kd → FnP (Γ 214) [kd] fun r o => r = (.fz, .bl true) ∧ ∃ kd', o = [kd'] ∧ DI kd'
  i170 : I170 1000 (Γ 170)
def bdC (Γ : Nat → Fn) : St := (sSeq (sSet 4 (eCall (Γ 205) [.v (eVar 3)])) (sSeq (sSet 5 (eOp fSub (eApp fLen [(eVar 4)]) (eCall (Γ 212) [.v (eVar 4)]))) (sSeq (sSet 6 (eFr (eApp fList [(eVar 3)]))) (sSeq (sSet 7 (eCall (Γ 201) [.v (eVar 6)])) (sSeq (sIf (tPeek (tOr (eBool (eOp fNe (eCall (Γ 202) [.v (eVar 3)]) (eVar 5))) (tOr (tNot (eBool (eIsi .list (eVar 7)))) (tOr (eBool (eOp fNe (eApp fLen [(eVar 7)]) (eVar 5))) (eBool (eOp fNe (eVar 6) (eVar 3))))))) (sRet (eCon (.bl false))) sNx) (sSeq (sIf (tPeek (tOr (eBool (eOp fNe (eVar 7) (eApp fSortedB [(eVar 7)]))) (tOr (eBool (eOp fIsNotA (eCall (Γ 196) [.v (eVar 3), .v (eVar 7)]) (eCon (.bl true)))) (eBool (eOp fNe (eCall (Γ 205) [.v (eVar 7)]) (eVar 4)))))) (sRet (eCon (.bl false))) sNx) (sSeq (sIf (tPeek (eBool (eOp fNe (eLc (itSeq (eVar 7)) (.nm 8) [8] (tOr (eBool (eOp fEq (eOp fIx (eVar 8) (eCon (.int 0))) (eOp fIx (eVar 8) (eCon (.int 1))))) (tOr (tNot (eBool (eCall (Γ 170) [.v (eOp fIx (eVar 8) (eCon (.int 2)))]))) (eBool (eOp fLt (eOp fIx (eVar 8) (eCon (.int 2))) (eCon (.int 1)))))) (eVar 8)) (eApp fLst [])))) (sRet (eCon (.bl false))) sNx) (sSeq (sIf (eBool (eOp fNe (eOp fEq (eVar 5) (eCon (.int 0))) (eOp fEq (eVar 4) (eApp fLst [])))) (sRet (eCon (.bl false))) sNx) (sSeq (sDrop (eMth fAppend 7 [(eCon (.str [122, 122]))])) (sIf (eBool (eOp fNe (eApp fLen [(eCall (Γ 201) [.v (eVar 3)])]) (eVar 5))) (sRet (eCon (.bl false))) sNx))))))))))
theorem bad_lc (h : I170 1000 (Γ 170)) {gs : List Debt} (hg : ∀ d ∈ gs, goB2 d) (hl : gs.length ≤ 100) (S : List Slot) (h7 : S[7]? = some (some (.fz, .lst (gs.map debtE)))) (hv : 8 < S.length) (hz : fzAt S 8 = true) :
    eLc (itSeq (eVar 7)) (.nm 8) [8] (tOr (eBool (eOp fEq (eOp fIx (eVar 8) (eCon (.int 0))) (eOp fIx (eVar 8) (eCon (.int 1))))) (tOr (tNot (eBool (eCall (Γ 170) [.v (eOp fIx (eVar 8) (eCon (.int 2)))]))) (eBool (eOp fLt (eOp fIx (eVar 8) (eCon (.int 2))) (eCon (.int 1)))))) (eVar 8) S = .ok (.li .fz, .lst []) S := by
  have z := lc_pure (v := 8) (S0 := S) (S := S) (it := itSeq (eVar 7)) (c := (tOr (eBool (eOp fEq (eOp fIx (eVar 8) (eCon (.int 0))) (eOp fIx (eVar 8) (eCon (.int 1))))) (tOr (tNot (eBool (eCall (Γ 170) [.v (eOp fIx (eVar 8) (eCon (.int 2)))]))) (eBool (eOp fLt (eOp fIx (eVar 8) (eCon (.int 2))) (eCon (.int 1))))))) (e := eVar 8) (ds := gs.map debtE) (fun _ => false) (fun d => d) (by simp [h7, itemsOf]) hv hz (fun d hd => by
    obtain ⟨x, hx, rfl⟩ := List.mem_map.mp hd
    obtain ⟨⟨_, _, ne, c1⟩, _⟩ := hg x hx
    obtain ⟨a, b, c⟩ := x
    simp only at ne c1
    have cv : ∀ S, callsV (Γ 170) [.int c] S = .ok (.fz, .bl true) S := fun S => h.cv (n := 0) (by omega) (show good 1000 0 (.int c) from trivial) S
    have lt : fLt (.int c) (.int 1) = some (.fz, .bl false) := by
      show kz (.bl (decide (c < 1))) = _
      rw [decide_eq_false (by omega)]; rfl
    have i2 : fIx (.tup [.str a, .str b, .int c]) (.int 2) = some (.fz, .int c) := rfl
    have fe : fEq (.str a) (.str b) = some (.fz, .bl false) := by rw [eqS, decide_eq_false ne]
    simp [hv, debtE, ix0, ix1, i2, fe, cv, lt]) (fun d hd h => by cases h) (by rw [List.length_map]; unfold sizeMax; omega)
  rw [List.filter_eq_nil_iff.mpr (fun _ _ => by decide)] at z
  exact z
theorem body_215 (h : Law22 Γ) {ds : List Debt} (hd : ∀ d ∈ ds, debtOk d) (hl : ds.length ≤ 20) (r8 : (RR ds).length ≤ 8) {s0 s1 s2 s4 s5 s6 s7 : Slot} : ∃ y4 y5 y6 y7, bdC Γ [s0, s1, s2, some (.fz, .lst (ds.map debtE)), s4, s5, s6, s7, none] = .ok .nx [s0, s1, s2, some (.fz, .lst (ds.map debtE)), y4, y5, y6, y7, none] := by
  have go : ∀ d ∈ ds, goOk d := fun d hd' => (hd d hd').go
  have rok := RR_ok go
  obtain ⟨gs, eg, sg⟩ : ∃ gs, Γ 201 [(.fz, .lst (ds.map debtE))] = .ret (.li .fz, .lst (gs.map debtE)) [] ∧ SetOk ds gs := by have := h.s201 ds hd (by omega); rw [if_pos r8] at this; exact this
  have gsl := sg.ln
  have gok : ∀ d ∈ gs, goOk d := fun d hd => (sg.ok d hd).1
  have c201 : ∀ S, callsV (Γ 201) [.lst (ds.map debtE)] S = .ok (.li .fz, .lst (gs.map debtE)) S := fun S => callsV_of (ds := [.lst (ds.map debtE)]) eg S
  have c202 : ∀ S, callsV (Γ 202) [.lst (ds.map debtE)] S = .ok (.fz, .int ((RR ds).length - fFull ds)) S := fun S => callsV_of (ds := [.lst (ds.map debtE)]) (by have := h.w202 ds hd (by omega); rw [if_pos r8] at this; exact this) S
  have c205 : ∀ S, callsV (Γ 205) [.lst (ds.map debtE)] S = .ok (.fz, .lst ((RR ds).map balE)) S := fun S => callsV_of (ds := [.lst (ds.map debtE)]) (h.l205 ds go (by omega)) S
  have c205g : ∀ S, callsV (Γ 205) [.lst (gs.map debtE)] S = .ok (.fz, .lst ((RR ds).map balE)) S := fun S => callsV_of (ds := [.lst (gs.map debtE)]) (by
    have := h.l205 gs gok (by omega)
    have e := RR_same go gok sg.net
    unfold RR at e
    rw [e] at this
    exact this) S
  obtain ⟨r, er, mr⟩ := h.m212 (RR ds) r8 r8 rok.nd rok.nm rok.t0
  have rf := maxF_full rok.nd r8 rok.t0 mr
  have c212 : ∀ S, callsV (Γ 212) [.lst ((RR ds).map balE)] S = .ok (.fz, .int (r : Int)) S := fun S => callsV_of (ds := [.lst ((RR ds).map balE)]) er S
  have rf : (r : Int) = fFull ds := rf
  have lr : fLen [.lst ((RR ds).map balE)] = some (.fz, .int (RR ds).length) := by simp [fLen, kz]
  have sb : fSub (.int (RR ds).length) (.int (r : Int)) = some (.fz, .int ((RR ds).length - fFull ds)) := by rw [rf]; rfl
  have lg : fLen [.lst (gs.map debtE)] = some (.fz, .int ((RR ds).length - fFull ds)) := by rw [← sg.ct]; simp [fLen, kz]
  have eLi : ∀ xs : List D, fList [.lst xs] = some (.li .fz, .lst xs) := fun _ => rfl
  have isl : ∀ xs : List D, fIsi .list (.lst xs) = some (.fz, .bl true) := fun _ => rfl
  have lay_of : ∀ l : List Debt, (∀ d ∈ l, goOk d) → D.lays 59 (l.map debtE) = true := fun l hl => lays_all fun x hx => by
    obtain ⟨q, hq, rfl⟩ := List.mem_map.mp hx
    have h1 := name_lay (hl q hq).1 58
    have h2 := name_lay (hl q hq).2.1 58
    show D.lays 58 [.str q.1, .str q.2.1, .int q.2.2] = true
    simp only [D.lays, h1, h2, Bool.true_and, Bool.and_true]
    simp [D.lay]
  have neD : fNe (.lst (ds.map debtE)) (.lst (ds.map debtE)) = some (.fz, .bl false) := ne_self (fun x hx => by obtain ⟨p, _, rfl⟩ := List.mem_map.mp hx; exact debtE_pl p) (lay_of ds go)
  have neG : fNe (.lst (gs.map debtE)) (.lst (gs.map debtE)) = some (.fz, .bl false) := ne_self (fun x hx => by obtain ⟨p, _, rfl⟩ := List.mem_map.mp hx; exact debtE_pl p) (lay_of gs gok)
  have neR : fNe (.lst ((RR ds).map balE)) (.lst ((RR ds).map balE)) = some (.fz, .bl false) := ne_self (fun x hx => by obtain ⟨p, _, rfl⟩ := List.mem_map.mp hx; exact balE_pl p) (lays_all fun x hx => by
    obtain ⟨p, hp, rfl⟩ := List.mem_map.mp hx
    exact balE_lay (rok.nm _ (List.mem_map_of_mem hp)))
  have so := sortB_go gs (fun d hd => ⟨(gok d hd).1, (gok d hd).2.1⟩) (by omega)
  rw [sg.so] at so
  have c196 : ∀ S, callsV (Γ 196) [.lst (ds.map debtE), .lst (gs.map debtE)] S = .ok (.fz, .bl true) S := fun S => callsV_of (ds := [.lst (ds.map debtE), .lst (gs.map debtE)]) (by
    have := h.s196 ds (.lst (gs.map debtE)) 20 (by omega) hd (by omega) (gs_good sg.ok (by omega))
    rw [set_true go sg] at this
    exact this) S
  have isN : fIsNotA (.bl true) (.bl true) = some (.fz, .bl false) := rfl
  have e0 : fLst [] = some (.li .fz, .lst []) := rfl
  have ne0 : fNe (.lst []) (.lst []) = some (.fz, .bl false) := rfl
  have en := eq_nil_bal rok.nm
  have ze : ((RR ds).length - fFull ds = 0) ↔ (RR ds).isEmpty = true := by
    rw [← sg.ct]
    constructor
    · intro e
      have e : gs = [] := List.length_eq_zero_iff.mp (by omega)
      cases q : RR ds with
      | nil => rfl
      | cons p l =>
        have hp : p ∈ RR ds := by rw [q]; simp
        have nz := rok.nz p hp
        have g := gv_of_mem rok.nd p hp
        rw [RR_gv go, ← sg.net, e] at g
        exact absurd g.symm nz
    · intro e
      have e : RR ds = [] := by simpa using e
      have c := sg.ct
      have f0 : fFull ds = 0 := by unfold fFull; rw [e]; rfl
      rw [e, f0] at c
      simpa using c
  have fq : ∀ u : Int, fEq (.int u) (.int 0) = some (.fz, .bl (decide (u = 0))) := fun u => fEq_int u 0
  have nb : ∀ b : Bool, fNe (.bl b) (.bl b) = some (.fz, .bl false) := fun b => by cases b <;> rfl
  have db : decide ((RR ds).length - fFull ds = 0) = (RR ds).isEmpty := by
    cases q : (RR ds).isEmpty with
    | true => exact decide_eq_true (ze.mpr q)
    | false => exact decide_eq_false fun e => by have := ze.mp e; rw [q] at this; cases this
  have ap : fAppend (gs.map debtE) [.str [122, 122]] = some (.non, gs.map debtE ++ [.str [122, 122]]) := by
    show (if _ < sizeMax then _ else none) = _
    rw [if_pos (by rw [List.length_map]; unfold sizeMax; omega)]
  have zb := fun S h7 hv hz => bad_lc h.i170 sg.ok (by omega) S h7 hv hz
  clear ze
  generalize (RR ds).isEmpty = em at *
  generalize ((RR ds).length : Int) - fFull ds = u at *
  refine ⟨some (.fz, .lst ((RR ds).map balE)), some (.fz, .int u), some (.fz, .lst (ds.map debtE)), some (.li .fz, .lst (gs.map debtE ++ [.str [122, 122]])), ?_⟩
  have zz := fun a b c d e f g => zb [a, b, c, d, e, f, g, some (.fz, .lst (gs.map debtE)), none] rfl (by simp) rfl
  generalize (RR ds).map balE = RD at *
  generalize ds.map debtE = DD at *
  generalize gs.map debtE = GD at *
  unfold bdC
  simp [frz, c205, lr, c212, sb, eLi, c201, c202, nei, isl, lg, neD, so, neG, c196, isN, c205g, neR, zz, e0, ne0, fq, db, en, nb, ap, ownL]
end
end LW
namespace LW
open TB
section
variable {Γ : Nat → Fn}
theorem loop_2eq {i : Nat} {bd : St} {S S1 S2 : List Slot} {d e : D} (hi : i < S.length) (hi1 : i < S1.length) (h1 : bd (S.set i (some (.fz, d))) = .ok .nx S1) (h2 : bd (S1.set i (some (.fz, e))) = .ok .nx S2) : loop (.nm i) bd [d, e] S = .ok .nx S2 := by
  have p1 : Tg.put (.nm i) d S = some (S.set i (some (.fz, d))) := put_nm hi
  have p2 : Tg.put (.nm i) e S1 = some (S1.set i (some (.fz, e))) := put_nm hi1
  unfold loop
  rw [p1]
  show R.bind (bd (S.set i (some (.fz, d)))) _ = _
  rw [h1]
  show loop (.nm i) bd [e] S1 = _
  unfold loop
  rw [p2]
  show R.bind (bd (S1.set i (some (.fz, e)))) _ = _
  rw [h2]
  rfl
def N22L (ns : List Int) (ds : List D) (S : List Slot) : Prop := (∀ d ∈ ds, ∃ k : Int, d = .int k ∧ 0 ≤ k ∧ k ≤ 1000) ∧ ∃ x1 x2 x3 x4 x5 x6 x7 : Slot, S = [some (.fz, .scr ns), x1, x2, x3, x4, x5, x6, x7, none]
theorem law_215 (h : Law22 Γ) (ns : List Int) (hl : ns.length ≤ 63) : FnP (runF 9 [] (mb_215 Γ)) [(.fz, .scr ns)] fun r o => r = (.fz, .bl true) ∧ o = [] := by
  obtain ⟨m, hm, m0', m1'⟩ : ∃ m : Int, fMax2 [.int 1, .int (if (ns.length : Int) < 16 then (ns.length : Int) else 16)] = some (.fz, .int m) ∧ 0 ≤ m ∧ m ≤ 40 := by
    refine ⟨_, rfl, ?_⟩
    split <;> split <;> omega
  have hlim : m.natAbs < limN := by unfold limN; omega
  have mn : fMin2 [.int 16, .int ns.length] = some (.fz, .int (if (ns.length : Int) < 16 then (ns.length : Int) else 16)) := rfl
  have ln : fLen [.scr ns] = some (.fz, .int ns.length) := rfl
  obtain ⟨d0, e0, h0⟩ := h.d6 ns 0 (by omega) (by omega)
  obtain ⟨r, o, e214, rfl, k', rfl, _⟩ := h.l214 d0 h0
  have c60 : ∀ S, callsV (Γ 6) [.scr ns, .int 0] S = .ok d0 S := fun S => callsV_of (ds := [.scr ns, .int 0]) e0 S
  have c214 : ∀ S, eCall (Γ 214) [.o (eCall (Γ 6) [.v (eVar 0), .v (eCon (.int 0))])] (some (.fz, .scr ns) :: S) = .ok (.fz, .bl true) (some (.fz, .scr ns) :: S) := fun S => by
    have e6 : eCall (Γ 6) [.v (eVar 0), .v (eCon (.int 0))] (some (.fz, .scr ns) :: S) = .ok d0 (some (.fz, .scr ns) :: S) := by simp [c60]
    obtain ⟨a, b, rfl, _⟩ := h0
    have ea : arEv [.o (eCall (Γ 6) [.v (eVar 0), .v (eCon (.int 0))])] (some (.fz, .scr ns) :: S) = .ok [.o (dr a b)] (some (.fz, .scr ns) :: S) := by
      show ((eCall (Γ 6) [.v (eVar 0), .v (eCon (.int 0))]) (some (.fz, .scr ns) :: S)).bind _ = _
      rw [e6]
      rfl
    rw [eCall_ap, ea]
    show (match Γ 214 [dr a b] with
      | .ret r os => (match arOut [.o (dr a b)] os (some (.fz, .scr ns) :: S) with | some S2 => R.ok r S2 | none => .bad)
      | .exc x os => (match arOut [.o (dr a b)] os (some (.fz, .scr ns) :: S) with | some S2 => .exc x S2 | none => .bad)
      | .bad => .bad) = _
    rw [e214]
    rfl
  refine runF_wp (by rfl) ?_
  simp [mb_215, c214, ln, mn, hm, hlim, -cb1, -Prod.exists, -Prod.forall]
  refine loopG_wp (N22L ns) ?_ ?_ _ _ ⟨fun d hd => ?_, none, none, none, none, none, none, none, rfl⟩
  · rintro d xs S ⟨hds, x1, x2, x3, x4, x5, x6, x7, rfl⟩
    obtain ⟨k, rfl, k0, k1⟩ := hds d List.mem_cons_self
    have hds' : ∀ d ∈ xs, ∃ k : Int, d = .int k ∧ 0 ≤ k ∧ k ≤ 1000 := fun d hd => hds d (List.mem_cons_of_mem _ hd)
    refine ⟨_, put_nm (by simp), ?_⟩
    obtain ⟨d1, e1, h1⟩ := h.d6 ns k k0 k1
    have c6 : ∀ S, callsV (Γ 6) [.scr ns, .int k] S = .ok d1 S := fun S => callsV_of (ds := [.scr ns, .int k]) e1 S
    simp [c6, -cb1, -Prod.exists, -Prod.forall]
    refine call1_wp rfl ?_
    simp [h1, -cb1, -Prod.exists, -Prod.forall]
    refine (h.d204 d1 h1).mono ?_
    rintro _ _ ⟨ds, d2, rfl, rfl, h2, ok, dl, nms, nl, nmem⟩
    refine ⟨d2, rfl, h2, ?_⟩
    have ra : (RR ds).length ≤ 8 := by have := RR_names (fun d hd => (ok d hd).go) nmem; omega
    refine call1_wp rfl ?_
    simp [-cb1, -Prod.exists, -Prod.forall]
    refine call1_wp rfl ?_
    have e9 : ∀ i : Int, fAdd (.int 2) (.int i) = some (.fz, .int (2 + i)) := fun i => rfl
    simp [-cb1, -Prod.exists, -Prod.forall]
    refine draw_wp h.d7 rfl ?_
    simp [h2, -cb1, -Prod.exists, -Prod.forall]
    intro r0 k4 h4 r0a r0b
    simp [h4, e9, -cb1, -Prod.exists, -Prod.forall]
    refine (h.d37 k4 (2 + r0) h4 (by omega) (by omega)).mono ?_
    rintro _ _ ⟨names, k5, rfl, rfl, h5, nl5, n5, z5, u5⟩
    refine ⟨k5, rfl, h5, ?_⟩
    simp [h5, -cb1, -Prod.exists, -Prod.forall]
    refine (h.rings names k5 h5 (by omega) (by omega) n5 u5).mono ?_
    rintro _ _ ⟨ds2, d3, rfl, rfl, h3, ok2, dl2, nmem2⟩
    refine ⟨d3, rfl, h3, ?_⟩
    have rb : (RR ds2).length ≤ 8 := by have := RR_names (fun d hd => (ok2 d hd).go) nmem2; omega
    have l2 : ∀ a b : D, fLst [a, b] = some (.li .fz, .lst [a, b]) := fun _ _ => rfl
    obtain ⟨p4, p5, p6, p7, ep⟩ := body_215 h ok dl ra (s0 := some (.fz, .scr ns)) (s1 := some (.fz, .int k)) (s2 := some d3) (s4 := x4) (s5 := x5) (s6 := x6) (s7 := x7)
    obtain ⟨q4, q5, q6, q7, eq⟩ := body_215 h ok2 dl2 rb (s0 := some (.fz, .scr ns)) (s1 := some (.fz, .int k)) (s2 := some d3) (s4 := p4) (s5 := p5) (s6 := p6) (s7 := p7)
    have el := loop_2eq (i := 3) (bd := bdC Γ) (S := [some (.fz, .scr ns), some (.fz, .int k), some d3, x3, x4, x5, x6, x7, none]) (by simp) (by simp) ep eq
    unfold bdC at el
    simp [l2, itemsOf, -cb1, -Prod.exists, -Prod.forall]
    refine okP.of el ?_
    exact ⟨hds', _, _, _, _, _, _, _, rfl⟩
  · rintro S ⟨_, x1, x2, x3, x4, x5, x6, x7, rfl⟩
    simp [outsOf, Kd.isF]
  · obtain ⟨i, hi, rfl⟩ := mem_rangeL hd
    exact ⟨_, rfl, by omega, by omega⟩
end
end LW
namespace LW
open TB
theorem D7 (k : Nat) : DrawOk (callF (k + 1) 7) := draw_ok
theorem D6 (k : Nat) : DrawsOk (callF (k + 1) 6) := draws_ok
theorem N37 (k : Nat) : NamesOk (callF (k + 2) 37) := names_ok (D7 k)
theorem W0' (k : Nat) : W0 (callF (k + 1) 0) := fun i lo hi => within_0 (b := 9) (n := 0) (d := .int i) (by simp [good])
theorem N1' (k : Nat) : N1 (callF (k + 1) 1) := fun s h => by
  have := name_1 (Γ := callF k) (b := 9) (by omega) (name_good h 0)
  have e : nameB (.str s) = true := h
  rw [e] at this
  exact this
theorem P1' (k : Nat) : P1g 1000 (callF (k + 1) 1) nameB := fun d n hn h => name_1 (b := 1000) (by omega) h
theorem T54' (k : Nat) : T54b (callF (k + 2) 54) := two_54 (N1' k)
theorem G191a : G191 (callF 36 191) := go_191 (T54' 33) (by decide +kernel)
theorem G191b : G191 (callF 35 191) := go_191 (T54' 32) (by decide +kernel)
theorem G193a : G193 (callF 38 193) := need_193 (W0' 36) (go_192 G191a)
theorem G193b : G193 (callF 37 193) := need_193 (W0' 35) (go_192 G191b)
theorem P192 (k : Nat) : P1g 1000 (callF (k + 4) 192) gosB := gos_192g (go_191g (two_54g (P1' k))) (by omega)
theorem S201a : S201 (callF 39 201) := settled_201 G193a bal_194 few_199 (lots_198 most_197) goings_200
theorem S201b : S201 (callF 38 201) := settled_201 G193b bal_194 few_199 (lots_198 most_197) goings_200
theorem W202a : W202 (callF 39 202) := few_202 G193a bal_194 few_199 most_197
theorem W202b : W202 (callF 38 202) := few_202 G193b bal_194 few_199 most_197
theorem S196a : S196 (callF 39 196) := settles_196 G193a bal_194 (P192 34)
theorem S196b : S196 (callF 38 196) := settles_196 G193b bal_194 (P192 33)
theorem M212k : ∀ n k, M212 n (callF (k + n + 1) 212)
  | 0, k => fun rows hn h8 nd nm t0 => by
    have e : rows = [] := List.length_eq_zero_iff.mp (by omega)
    subst e
    refine ⟨0, FnP.eq (runF_wp (by rfl) ?_), maxF_nil⟩
    have e0 : fLst [] = some (.li .fz, .lst []) := rfl
    have en : fEq (.lst []) (.lst []) = some (.fz, .bl true) := rfl
    simp [mb_212, e0, en, outsOf, Kd.isF, -Prod.exists, -Prod.forall]
  | n + 1, k => most_212 (M212k n k)
theorem law_ok : Law22 (callF 39) := ⟨D6 38, D7 38, N37 37, fun kd hd => debts_204n (by omega) (by omega) (D7 37) (N37 36) hd, fun names kd hd a b c d => rings_213 (D7 37) hd a b c d, S201a, W202a, S196a, law_205, M212k 8 30, fun kd hd => lots_214 ⟨D7 37, S201b, W202b, S196b⟩ hd, whole_170⟩
theorem law_true (ns : List Int) (hl : ns.length ≤ 63) : callF 40 215 [(.fz, .scr ns)] = .ret (.fz, .bl true) [] := by
  rw [show callF 40 215 = runF 9 [] (mb_215 (callF 39)) from rfl]
  exact FnP.eq ((law_215 law_ok ns hl).mono fun r o h => h)
end LW
namespace LW
open PySem PySem.Spec PyProof.Rows L2 TB
def top (i : Nat) : Stmt := PySem.Challenge.pw_tuckbook_k22_whole_fewest_goings.main.body.getD i (.Pass ⟨0, 0, 0, 0⟩)
abbrev clsA (K : PySem.W.Frag) : Nat → Addr := fun c => match c with | 12 => He.ga K "NotNow" | 17 => He.ga K "NoDebts" | 23 => He.ga K "TooMany" | _ => 0
def clsN : Nat → List Str := fun c => match c with | 23 => ["many"] | _ => []
abbrev a_0 (K : PySem.W.Frag) : Addr := He.ga K "is_within"
abbrev a_1 (K : PySem.W.Frag) : Addr := He.ga K "is_name"
abbrev a_6 (K : PySem.W.Frag) : Addr := He.ga K "_law_draws"
abbrev a_7 (K : PySem.W.Frag) : Addr := He.ga K "_law_draw"
abbrev a_37 (K : PySem.W.Frag) : Addr := He.ga K "_law_names"
abbrev a_54 (K : PySem.W.Frag) : Addr := He.ga K "are_two"
abbrev a_170 (K : PySem.W.Frag) : Addr := He.ga K "_law_whole"
abbrev a_191 (K : PySem.W.Frag) : Addr := He.ga K "is_going"
abbrev a_192 (K : PySem.W.Frag) : Addr := He.ga K "are_goings"
abbrev a_193 (K : PySem.W.Frag) : Addr := He.ga K "need_debts"
abbrev a_194 (K : PySem.W.Frag) : Addr := He.ga K "balanced"
abbrev a_196 (K : PySem.W.Frag) : Addr := He.ga K "settles"
abbrev a_197 (K : PySem.W.Frag) : Addr := He.ga K "most_lots"
abbrev a_198 (K : PySem.W.Frag) : Addr := He.ga K "lots_of"
abbrev a_199 (K : PySem.W.Frag) : Addr := He.ga K "need_few"
abbrev a_200 (K : PySem.W.Frag) : Addr := He.ga K "goings_of"
abbrev a_201 (K : PySem.W.Frag) : Addr := He.ga K "settled"
abbrev a_202 (K : PySem.W.Frag) : Addr := He.ga K "how_few"
abbrev a_204 (K : PySem.W.Frag) : Addr := He.ga K "_law_debts"
abbrev a_205 (K : PySem.W.Frag) : Addr := He.ga K "_law_balances"
abbrev a_212 (K : PySem.W.Frag) : Addr := He.ga K "_law_most_lots"
abbrev a_213 (K : PySem.W.Frag) : Addr := He.ga K "_law_rings"
abbrev a_214 (K : PySem.W.Frag) : Addr := He.ga K "_law_lots_right"
abbrev a_215 (K : PySem.W.Frag) : Addr := He.ga K "law"
structure EV (K : PySem.W.Frag) (mg : Str → Option Value) (fd : Nat → FuncData) (w : World) : Prop where
  d_0 : FunD K "is_within" "is_within" (defArgs (top 8)) (defBody (top 8)) (defScope (top 8)) [] [] (a_0 K) (fd 0)
  g_0 : mg "is_within" = some (.ref (a_0 K))
  d_1 : FunD K "is_name" "is_name" (defArgs (top 9)) (defBody (top 9)) (defScope (top 9)) [] [] (a_1 K) (fd 1)
  g_1 : mg "is_name" = some (.ref (a_1 K))
  d_6 : FunD K "_law_draws" "_law_draws" (defArgs (top 29)) (defBody (top 29)) (defScope (top 29)) [] [] (a_6 K) (fd 6)
  g_6 : mg "_law_draws" = some (.ref (a_6 K))
  d_7 : FunD K "_law_draw" "_law_draw" (defArgs (top 28)) (defBody (top 28)) (defScope (top 28)) [] [] (a_7 K) (fd 7)
  g_7 : mg "_law_draw" = some (.ref (a_7 K))
  d_37 : FunD K "_law_names" "_law_names" (defArgs (top 30)) (defBody (top 30)) (defScope (top 30)) [] [] (a_37 K) (fd 37)
  g_37 : mg "_law_names" = some (.ref (a_37 K))
  d_54 : FunD K "are_two" "are_two" (defArgs (top 11)) (defBody (top 11)) (defScope (top 11)) [] [] (a_54 K) (fd 54)
  g_54 : mg "are_two" = some (.ref (a_54 K))
  d_170 : FunD K "_law_whole" "_law_whole" (defArgs (top 34)) (defBody (top 34)) (defScope (top 34)) [] [] (a_170 K) (fd 170)
  g_170 : mg "_law_whole" = some (.ref (a_170 K))
  d_191 : FunD K "is_going" "is_going" (defArgs (top 16)) (defBody (top 16)) (defScope (top 16)) [] [] (a_191 K) (fd 191)
  g_191 : mg "is_going" = some (.ref (a_191 K))
  d_192 : FunD K "are_goings" "are_goings" (defArgs (top 17)) (defBody (top 17)) (defScope (top 17)) [] [] (a_192 K) (fd 192)
  g_192 : mg "are_goings" = some (.ref (a_192 K))
  d_193 : FunD K "need_debts" "need_debts" (defArgs (top 18)) (defBody (top 18)) (defScope (top 18)) [] [] (a_193 K) (fd 193)
  g_193 : mg "need_debts" = some (.ref (a_193 K))
  d_194 : FunD K "balanced" "balanced" (defArgs (top 19)) (defBody (top 19)) (defScope (top 19)) [] [] (a_194 K) (fd 194)
  g_194 : mg "balanced" = some (.ref (a_194 K))
  d_196 : FunD K "settles" "settles" (defArgs (top 20)) (defBody (top 20)) (defScope (top 20)) [] [] (a_196 K) (fd 196)
  g_196 : mg "settles" = some (.ref (a_196 K))
  d_197 : FunD K "most_lots" "most_lots" (defArgs (top 21)) (defBody (top 21)) (defScope (top 21)) [] [] (a_197 K) (fd 197)
  g_197 : mg "most_lots" = some (.ref (a_197 K))
  d_198 : FunD K "lots_of" "lots_of" (defArgs (top 22)) (defBody (top 22)) (defScope (top 22)) [] [] (a_198 K) (fd 198)
  g_198 : mg "lots_of" = some (.ref (a_198 K))
  d_199 : FunD K "need_few" "need_few" (defArgs (top 23)) (defBody (top 23)) (defScope (top 23)) [] [] (a_199 K) (fd 199)
  g_199 : mg "need_few" = some (.ref (a_199 K))
  d_200 : FunD K "goings_of" "goings_of" (defArgs (top 24)) (defBody (top 24)) (defScope (top 24)) [] [] (a_200 K) (fd 200)
  g_200 : mg "goings_of" = some (.ref (a_200 K))
  d_201 : FunD K "settled" "settled" (defArgs (top 25)) (defBody (top 25)) (defScope (top 25)) [] [] (a_201 K) (fd 201)
  g_201 : mg "settled" = some (.ref (a_201 K))
  d_202 : FunD K "how_few" "how_few" (defArgs (top 26)) (defBody (top 26)) (defScope (top 26)) [] [] (a_202 K) (fd 202)
  g_202 : mg "how_few" = some (.ref (a_202 K))
  d_204 : FunD K "_law_debts" "_law_debts" (defArgs (top 31)) (defBody (top 31)) (defScope (top 31)) [] [] (a_204 K) (fd 204)
  g_204 : mg "_law_debts" = some (.ref (a_204 K))
  d_205 : FunD K "_law_balances" "_law_balances" (defArgs (top 32)) (defBody (top 32)) (defScope (top 32)) [] [] (a_205 K) (fd 205)
  g_205 : mg "_law_balances" = some (.ref (a_205 K))
  d_212 : FunD K "_law_most_lots" "_law_most_lots" (defArgs (top 33)) (defBody (top 33)) (defScope (top 33)) [] [] (a_212 K) (fd 212)
  g_212 : mg "_law_most_lots" = some (.ref (a_212 K))
  d_213 : FunD K "_law_rings" "_law_rings" (defArgs (top 35)) (defBody (top 35)) (defScope (top 35)) [] [] (a_213 K) (fd 213)
  g_213 : mg "_law_rings" = some (.ref (a_213 K))
  d_214 : FunD K "_law_lots_right" "_law_lots_right" (defArgs (top 36)) (defBody (top 36)) (defScope (top 36)) [] [] (a_214 K) (fd 214)
  g_214 : mg "_law_lots_right" = some (.ref (a_214 K))
  d_215 : FunD K "law" "law" (defArgs (top 37)) (defBody (top 37)) (defScope (top 37)) [] [] (a_215 K) (fd 215)
  g_215 : mg "law" = some (.ref (a_215 K))
  gx_NotNow : mg "NotNow" = some (.ref (clsA K 12))
  gx_NoDebts : mg "NoDebts" = some (.ref (clsA K 17))
  gx_TooMany : mg "TooMany" = some (.ref (clsA K 23))
  xr_NoDebts : RaiseC K (clsA K 17)
  di_TooMany : FunD K "__init__" "TooMany.__init__" (defArgs (inClass (top 5) 0)) (defBody (inClass (top 5) 0)) (defScope (inClass (top 5) 0)) [] [] (He.ma K (He.ga K "TooMany") "__init__") (fd 208)
  in_TooMany : IniC K (clsA K 23) (He.ma K (He.ga K "TooMany") "__init__") "many"
  bc_NotNow : BaseC K (clsA K 12)
  n_all : mg "all" = none
  n_bool : mg "bool" = none
  n_dict : mg "dict" = none
  n_int : mg "int" = none
  n_isinstance : mg "isinstance" = none
  n_len : mg "len" = none
  n_list : mg "list" = none
  n_max : mg "max" = none
  n_min : mg "min" = none
  n_range : mg "range" = none
  n_sorted : mg "sorted" = none
  n_str : mg "str" = none
  n_sum : mg "sum" = none
  n_tuple : mg "tuple" = none
  c_LETTERS : ∃ t, mg "LETTERS" = some (.str "abcdefghijklmnopqrstuvwxyz" t)
  c_MOST_DEBTS : ∃ t, mg "MOST_DEBTS" = some (.int 200 t)
  c_MOST_OWED : ∃ t, mg "MOST_OWED" = some (.int 1000000000 t)
  c_MOST_UNEVEN : ∃ t, mg "MOST_UNEVEN" = some (.int 8 t)
abbrev Gc (K : PySem.W.Frag) (w : World) : Cfg := { K := K, ca := clsA K, cn := clsN, fa := fun _ => 0, w := w }
structure OKS (P : Program) (w : World) (K : PySem.W.Frag) (mg : Str → Option Value) (base : Heap) (fd : Nat → FuncData) (k : Nat) : Prop where
  o_0 : FnOk P w K mg base (L2N.CX P w) (3 * k) (a_0 K) (fd 0) ["thing", "low", "high"] (spF (Gc K w) 3 (callF k 0))
  o_1 : FnOk P w K mg base (L2N.CX P w) (3 * k) (a_1 K) (fd 1) ["thing"] (spF (Gc K w) 1 (callF k 1))
  o_6 : FnOk P w K mg base (L2N.CX P w) (3 * k) (a_6 K) (fd 6) ["_law_script", "_law_k"] (spF (Gc K w) 2 (callF k 6))
  o_7 : FnOk P w K mg base (L2N.CX P w) (3 * k) (a_7 K) (fd 7) ["_law_draws_here", "_law_many"] (spF (Gc K w) 2 (callF k 7))
  o_37 : FnOk P w K mg base (L2N.CX P w) (3 * k) (a_37 K) (fd 37) ["_law_draws_here", "_law_many"] (spF (Gc K w) 2 (callF k 37))
  o_54 : FnOk P w K mg base (L2N.CX P w) (3 * k) (a_54 K) (fd 54) ["one", "other"] (spF (Gc K w) 2 (callF k 54))
  o_170 : FnOk P w K mg base (L2N.CX P w) (3 * k) (a_170 K) (fd 170) ["_law_thing"] (spF (Gc K w) 1 (callF k 170))
  o_191 : FnOk P w K mg base (L2N.CX P w) (3 * k) (a_191 K) (fd 191) ["thing"] (spF (Gc K w) 1 (callF k 191))
  o_192 : FnOk P w K mg base (L2N.CX P w) (3 * k) (a_192 K) (fd 192) ["thing"] (spF (Gc K w) 1 (callF k 192))
  o_193 : FnOk P w K mg base (L2N.CX P w) (3 * k) (a_193 K) (fd 193) ["debts"] (spF (Gc K w) 1 (callF k 193))
  o_194 : FnOk P w K mg base (L2N.CX P w) (3 * k) (a_194 K) (fd 194) ["debts"] (spF (Gc K w) 1 (callF k 194))
  o_196 : FnOk P w K mg base (L2N.CX P w) (3 * k) (a_196 K) (fd 196) ["debts", "goings"] (spF (Gc K w) 2 (callF k 196))
  o_197 : FnOk P w K mg base (L2N.CX P w) (3 * k) (a_197 K) (fd 197) ["rows"] (spF (Gc K w) 1 (callF k 197))
  o_198 : FnOk P w K mg base (L2N.CX P w) (3 * k) (a_198 K) (fd 198) ["rows"] (spF (Gc K w) 1 (callF k 198))
  o_199 : FnOk P w K mg base (L2N.CX P w) (3 * k) (a_199 K) (fd 199) ["rows"] (spF (Gc K w) 1 (callF k 199))
  o_200 : FnOk P w K mg base (L2N.CX P w) (3 * k) (a_200 K) (fd 200) ["lot"] (spF (Gc K w) 1 (callF k 200))
  o_201 : FnOk P w K mg base (L2N.CX P w) (3 * k) (a_201 K) (fd 201) ["debts"] (spF (Gc K w) 1 (callF k 201))
  o_202 : FnOk P w K mg base (L2N.CX P w) (3 * k) (a_202 K) (fd 202) ["debts"] (spF (Gc K w) 1 (callF k 202))
  o_204 : FnOk P w K mg base (L2N.CX P w) (3 * k) (a_204 K) (fd 204) ["_law_draws_here", "_law_most"] (spF (Gc K w) 2 (callF k 204))
  o_205 : FnOk P w K mg base (L2N.CX P w) (3 * k) (a_205 K) (fd 205) ["_law_debts_here"] (spF (Gc K w) 1 (callF k 205))
  o_212 : FnOk P w K mg base (L2N.CX P w) (3 * k) (a_212 K) (fd 212) ["_law_rows"] (spF (Gc K w) 1 (callF k 212))
  o_213 : FnOk P w K mg base (L2N.CX P w) (3 * k) (a_213 K) (fd 213) ["_law_draws_here", "_law_names_here"] (spF (Gc K w) 2 (callF k 213))
  o_214 : FnOk P w K mg base (L2N.CX P w) (3 * k) (a_214 K) (fd 214) ["_law_draws_here"] (spF (Gc K w) 1 (callF k 214))
  o_215 : FnOk P w K mg base (L2N.CX P w) (3 * k) (a_215 K) (fd 215) ["_law_script"] (spF (Gc K w) 1 (callF k 215))
section
variable {P : Program} {w : World} {K : PySem.W.Frag} {mg : Str → Option Value} {base : Heap} {fd : Nat → FuncData} {k : Nat}
theorem C_LETTERS {X : Cx} {G : Cfgx} {W : WX} {pos : Pos} (V : EV X.K X.mg fd w) (hg : Gl X "LETTERS" := by rfl) : TrE X G W (.Name "LETTERS" pos) (eCon (.str [97, 98, 99, 100, 101, 102, 103, 104, 105, 106, 107, 108, 109, 110, 111, 112, 113, 114, 115, 116, 117, 118, 119, 120, 121, 122])) := by
  obtain ⟨t, e⟩ := V.c_LETTERS
  exact tr_glob (v := .str "abcdefghijklmnopqrstuvwxyz") e ⟨t, rfl⟩ (fun F => .str _) hg
theorem C_MOST_DEBTS {X : Cx} {G : Cfgx} {W : WX} {pos : Pos} (V : EV X.K X.mg fd w) (hg : Gl X "MOST_DEBTS" := by rfl) : TrE X G W (.Name "MOST_DEBTS" pos) (eCon (.int 200)) := by
  obtain ⟨t, e⟩ := V.c_MOST_DEBTS
  exact tr_glob (v := .int 200) e ⟨t, rfl⟩ (fun F => .int _) hg
theorem C_MOST_OWED {X : Cx} {G : Cfgx} {W : WX} {pos : Pos} (V : EV X.K X.mg fd w) (hg : Gl X "MOST_OWED" := by rfl) : TrE X G W (.Name "MOST_OWED" pos) (eCon (.int 1000000000)) := by
  obtain ⟨t, e⟩ := V.c_MOST_OWED
  exact tr_glob (v := .int 1000000000) e ⟨t, rfl⟩ (fun F => .int _) hg
theorem C_MOST_UNEVEN {X : Cx} {G : Cfgx} {W : WX} {pos : Pos} (V : EV X.K X.mg fd w) (hg : Gl X "MOST_UNEVEN" := by rfl) : TrE X G W (.Name "MOST_UNEVEN" pos) (eCon (.int 8)) := by
  obtain ⟨t, e⟩ := V.c_MOST_UNEVEN
  exact tr_glob (v := .int 8) e ⟨t, rfl⟩ (fun F => .int _) hg
theorem b_0 (V : EV K mg fd w) : Binds K (fd 0) ["thing", "low", "high"] [] := V.d_0.bindsN fun _ _ _ _ _ _ us hl => match us, hl with | [_, _, _], _ => rfl
theorem b_1 (V : EV K mg fd w) : Binds K (fd 1) ["thing"] [] := V.d_1.bindsN fun _ _ _ _ _ _ us hl => match us, hl with | [_], _ => rfl
theorem b_6 (V : EV K mg fd w) : Binds K (fd 6) ["_law_script", "_law_k"] [] := V.d_6.bindsN fun _ _ _ _ _ _ us hl => match us, hl with | [_, _], _ => rfl
theorem b_7 (V : EV K mg fd w) : Binds K (fd 7) ["_law_draws_here", "_law_many"] [] := V.d_7.bindsN fun _ _ _ _ _ _ us hl => match us, hl with | [_, _], _ => rfl
theorem b_37 (V : EV K mg fd w) : Binds K (fd 37) ["_law_draws_here", "_law_many"] [] := V.d_37.bindsN fun _ _ _ _ _ _ us hl => match us, hl with | [_, _], _ => rfl
theorem b_54 (V : EV K mg fd w) : Binds K (fd 54) ["one", "other"] [] := V.d_54.bindsN fun _ _ _ _ _ _ us hl => match us, hl with | [_, _], _ => rfl
theorem b_170 (V : EV K mg fd w) : Binds K (fd 170) ["_law_thing"] [] := V.d_170.bindsN fun _ _ _ _ _ _ us hl => match us, hl with | [_], _ => rfl
theorem b_191 (V : EV K mg fd w) : Binds K (fd 191) ["thing"] [] := V.d_191.bindsN fun _ _ _ _ _ _ us hl => match us, hl with | [_], _ => rfl
theorem b_192 (V : EV K mg fd w) : Binds K (fd 192) ["thing"] [] := V.d_192.bindsN fun _ _ _ _ _ _ us hl => match us, hl with | [_], _ => rfl
theorem b_193 (V : EV K mg fd w) : Binds K (fd 193) ["debts"] [] := V.d_193.bindsN fun _ _ _ _ _ _ us hl => match us, hl with | [_], _ => rfl
theorem b_194 (V : EV K mg fd w) : Binds K (fd 194) ["debts"] [] := V.d_194.bindsN fun _ _ _ _ _ _ us hl => match us, hl with | [_], _ => rfl
theorem b_196 (V : EV K mg fd w) : Binds K (fd 196) ["debts", "goings"] [] := V.d_196.bindsN fun _ _ _ _ _ _ us hl => match us, hl with | [_, _], _ => rfl
theorem b_197 (V : EV K mg fd w) : Binds K (fd 197) ["rows"] [] := V.d_197.bindsN fun _ _ _ _ _ _ us hl => match us, hl with | [_], _ => rfl
theorem b_198 (V : EV K mg fd w) : Binds K (fd 198) ["rows"] [] := V.d_198.bindsN fun _ _ _ _ _ _ us hl => match us, hl with | [_], _ => rfl
theorem b_199 (V : EV K mg fd w) : Binds K (fd 199) ["rows"] [] := V.d_199.bindsN fun _ _ _ _ _ _ us hl => match us, hl with | [_], _ => rfl
theorem b_200 (V : EV K mg fd w) : Binds K (fd 200) ["lot"] [] := V.d_200.bindsN fun _ _ _ _ _ _ us hl => match us, hl with | [_], _ => rfl
theorem b_201 (V : EV K mg fd w) : Binds K (fd 201) ["debts"] [] := V.d_201.bindsN fun _ _ _ _ _ _ us hl => match us, hl with | [_], _ => rfl
theorem b_202 (V : EV K mg fd w) : Binds K (fd 202) ["debts"] [] := V.d_202.bindsN fun _ _ _ _ _ _ us hl => match us, hl with | [_], _ => rfl
theorem b_204 (V : EV K mg fd w) : Binds K (fd 204) ["_law_draws_here", "_law_most"] [] := V.d_204.bindsN fun _ _ _ _ _ _ us hl => match us, hl with | [_, _], _ => rfl
theorem b_205 (V : EV K mg fd w) : Binds K (fd 205) ["_law_debts_here"] [] := V.d_205.bindsN fun _ _ _ _ _ _ us hl => match us, hl with | [_], _ => rfl
theorem b_212 (V : EV K mg fd w) : Binds K (fd 212) ["_law_rows"] [] := V.d_212.bindsN fun _ _ _ _ _ _ us hl => match us, hl with | [_], _ => rfl
theorem b_213 (V : EV K mg fd w) : Binds K (fd 213) ["_law_draws_here", "_law_names_here"] [] := V.d_213.bindsN fun _ _ _ _ _ _ us hl => match us, hl with | [_, _], _ => rfl
theorem b_214 (V : EV K mg fd w) : Binds K (fd 214) ["_law_draws_here"] [] := V.d_214.bindsN fun _ _ _ _ _ _ us hl => match us, hl with | [_], _ => rfl
theorem bi_TooMany (V : EV K mg fd w) : Binds K (fd 208) ["self", "many"] [] := V.di_TooMany.bindsN fun _ _ _ _ _ _ us hl => match us, hl with | [_, _], _ => rfl
theorem sci_TooMany : FnScope ["self", "many"] ["self", "many"] (defScope (inClass (top 5) 0)) := ⟨rfl, rfl, rfl, by decide +kernel, rfl, by decide +kernel, by decide +kernel⟩
theorem ini_TooMany (V : EV K mg fd w) : FnOk P w K mg base (L2N.CX P w) 1 (He.ma K (He.ga K "TooMany") "__init__") (fd 208) ["self", "many"] (spInit (clsA K 23) "many") :=
  init_fn V.di_TooMany sci_TooMany V.in_TooMany.ox V.in_TooMany.no fun cdv A outer s H E => pss_cons (ps_expr (pe_binit V.bc_NotNow (by rfl) V.gx_NotNow (pa_cons (pe_var (by rfl) (by first | exact Or.inl rfl | exact Or.inr (Or.inl rfl) | exact Or.inr (Or.inr rfl))) (pa_cons pe_str pa_nil)))) (pss_one (ps_ost (pe_var (by rfl) (by first | exact Or.inl rfl | exact Or.inr (Or.inl rfl) | exact Or.inr (Or.inr rfl))) (pe_var (by rfl) (by first | exact Or.inl rfl | exact Or.inr (Or.inl rfl) | exact Or.inr (Or.inr rfl)))))
theorem sc_0 : FnScope ["thing", "low", "high"] ["thing", "low", "high"] (defScope (top 8)) := ⟨rfl, rfl, rfl, by decide +kernel, rfl, by decide +kernel, by decide +kernel⟩
theorem ok_0 (V : EV K mg fd w) (IH : OKS P w K mg base fd k) : FnOk P w K mg base (L2N.CX P w) (3 * (k + 1)) (a_0 K) (fd 0) ["thing", "low", "high"] (spF (Gc K w) 3 (rf_0 (callF k))) :=
  fn_ok (P := P) (w := w) (G := Gc K w) (mg := mg) (base := base) (k := 3 * k + 2) (N := ["thing", "low", "high"]) (ps := ["thing", "low", "high"]) (m := mb_0 (callF k)) [] V.d_0 sc_0 (by rfl) fun cdv A outer s H E σ (C : Cok (cxF P w K mg base ["thing", "low", "high"] "is_within" (defScope (top 8)) (a_0 K) cdv A outer s H E) (pinG (Gc K w) [] σ) _ (3 * k + 2)) =>
    (ts_one (tr_ret (tr_and (tr_isi .int C (tr_var 0) V.n_isinstance V.n_int (by rfl)) (tr_and (tr_not (tr_isi .bool C (tr_var 0) V.n_isinstance V.n_bool (by rfl))) (tr_one (tr_LtE_LtE C (tr_var 1) (tr_var 0) (tr_var 2)))))))
theorem sc_1 : FnScope ["thing", "sign"] ["thing"] (defScope (top 9)) := ⟨rfl, rfl, rfl, by decide +kernel, rfl, by decide +kernel, by decide +kernel⟩
theorem ok_1 (V : EV K mg fd w) (IH : OKS P w K mg base fd k) : FnOk P w K mg base (L2N.CX P w) (3 * (k + 1)) (a_1 K) (fd 1) ["thing"] (spF (Gc K w) 1 (rf_1 (callF k))) :=
  fn_ok (P := P) (w := w) (G := Gc K w) (mg := mg) (base := base) (k := 3 * k + 2) (N := ["thing", "sign"]) (ps := ["thing"]) (m := mb_1 (callF k)) [] V.d_1 sc_1 (by rfl) fun cdv A outer s H E σ (C : Cok (cxF P w K mg base ["thing", "sign"] "is_name" (defScope (top 9)) (a_1 K) cdv A outer s H E) (pinG (Gc K w) [] σ) _ (3 * k + 2)) =>
    (ts_one (tr_ret (tr_and (tr_isi .str C (tr_var 0) V.n_isinstance V.n_str (by rfl)) (tr_and (tr_LtE_LtE C tr_int (tr_b_len C V.n_len rfl (tra_cons (tr_var 0) tra_nil)) tr_int) (tr_one (tr_b_all C V.n_all rfl (tra_cons (tr_lc (own := [("sign", 1)]) C (ti_str (tr_var 0)) (blkOk_by (by rfl)) (fun _ _ _ _ _ => have ND := C.nd; (tg_nm 1 ND)) (fun _ _ _ _ _ C => tts_nil) (fun _ _ _ _ _ C => (tr_In C (tr_var 1) (C_LETTERS V)))) tra_nil)))))))
theorem sc_6 : FnScope ["_law_script", "_law_k", "_law_cell"] ["_law_script", "_law_k"] (defScope (top 29)) := ⟨rfl, rfl, rfl, by decide +kernel, rfl, by decide +kernel, by decide +kernel⟩
theorem ok_6 (V : EV K mg fd w) (IH : OKS P w K mg base fd k) : FnOk P w K mg base (L2N.CX P w) (3 * (k + 1)) (a_6 K) (fd 6) ["_law_script", "_law_k"] (spF (Gc K w) 2 (rf_6 (callF k))) :=
  fn_ok (P := P) (w := w) (G := Gc K w) (mg := mg) (base := base) (k := 3 * k + 2) (N := ["_law_script", "_law_k", "_law_cell"]) (ps := ["_law_script", "_law_k"]) (m := mb_6 (callF k)) [] V.d_6 sc_6 (by rfl) fun cdv A outer s H E σ (C : Cok (cxF P w K mg base ["_law_script", "_law_k", "_law_cell"] "_law_draws" (defScope (top 29)) (a_6 K) cdv A outer s H E) (pinG (Gc K w) [] σ) _ (3 * k + 2)) =>
    (ts_cons (tr_set 2 C (tr_fr (tr_Mult C tr_int (tr_var 1)))) (ts_cons (tr_ifS (tt_Lt C (tr_var 1) (tr_b_len C V.n_len rfl (tra_cons (tr_var 0) tra_nil))) (ts_one (tr_set 2 C (tr_Mod C (tr_Ix C (tr_var 0) (tr_var 1)) (tr_Mult C (tr_Pow C tr_int tr_int) (tr_Pow C tr_int tr_int))))) (ts_one (tr_ifS (tt_Gt C (tr_b_len C V.n_len rfl (tra_cons (tr_var 0) tra_nil)) tr_int) (ts_one (tr_set 2 C (tr_fr (tr_Add C (tr_Mod C (tr_Ix C (tr_var 0) (tr_Mod C (tr_var 1) (tr_b_len C V.n_len rfl (tra_cons (tr_var 0) tra_nil)))) (tr_Pow C tr_int tr_int)) (tr_Mult C tr_int (tr_var 1)))))) ts_nil))) (ts_one (tr_ret (tr_lst (tra_cons (tr_Mult C (tr_var 2) (tr_b_int C V.n_int rfl (tra_cons (tr_GtE C (tr_var 2) (tr_Pow C tr_int tr_int)) tra_nil))) (tra_cons (tr_Add C tr_int (tr_Mod C (tr_Add C (tr_Mult C (tr_var 2) tr_int) (tr_Mult C tr_int (tr_Add C (tr_var 1) tr_int))) tr_int)) tra_nil)))))))
theorem sc_7 : FnScope ["_law_draws_here", "_law_many", "_law_found", "_law_wide"] ["_law_draws_here", "_law_many"] (defScope (top 28)) := ⟨rfl, rfl, rfl, by decide +kernel, rfl, by decide +kernel, by decide +kernel⟩
theorem ok_7 (V : EV K mg fd w) (IH : OKS P w K mg base fd k) : FnOk P w K mg base (L2N.CX P w) (3 * (k + 1)) (a_7 K) (fd 7) ["_law_draws_here", "_law_many"] (spF (Gc K w) 2 (rf_7 (callF k))) :=
  fn_ok (P := P) (w := w) (G := Gc K w) (mg := mg) (base := base) (k := 3 * k + 2) (N := ["_law_draws_here", "_law_many", "_law_found", "_law_wide"]) (ps := ["_law_draws_here", "_law_many"]) (m := mb_7 (callF k)) [0] V.d_7 sc_7 (by rfl) fun cdv A outer s H E σ (C : Cok (cxF P w K mg base ["_law_draws_here", "_law_many", "_law_found", "_law_wide"] "_law_draw" (defScope (top 28)) (a_7 K) cdv A outer s H E) (pinG (Gc K w) [0] σ) _ (3 * k + 2)) =>
    (ts_cons (tr_ifS (tt_Gt C (tr_ixO 0 tr_int) tr_int) (ts_cons (tr_set 2 C (tr_Mod C (tr_ixO 0 tr_int) (tr_var 1))) (ts_cons (tr_setIx 0 (tr_FloorDiv C (tr_ixO 0 tr_int) (tr_var 1)) tr_int) (ts_one (tr_ret (tr_var 2))))) ts_nil) (ts_cons (tr_set 2 C tr_int) (ts_cons (tr_set 3 C tr_int) (ts_cons (tr_while 64 C (tt_Lt C (tr_var 3) (tr_var 1)) (ts_cons (tr_setIx 0 (tr_Mod C (tr_Mult C (tr_ixO 0 tr_int) tr_int) tr_int) tr_int) (ts_cons (tr_set 2 C (tr_fr (tr_Add C (tr_Mult C (tr_var 2) tr_int) (tr_FloorDiv C (tr_Mod C (tr_Mult C (tr_ixO 0 tr_int) (tr_Add C (tr_FloorDiv C (tr_ixO 0 tr_int) tr_int) tr_int)) tr_int) tr_int)))) (ts_one (tr_set 3 C (tr_fr (tr_Mult C (tr_var 3) tr_int))))))) (ts_one (tr_ret (tr_Mod C (tr_var 2) (tr_var 1))))))))
theorem sc_37 : FnScope ["_law_draws_here", "_law_many", "_law_letters", "_law_stem", "_law_first", "_law_step", "_law_k"] ["_law_draws_here", "_law_many"] (defScope (top 30)) := ⟨rfl, rfl, rfl, by decide +kernel, rfl, by decide +kernel, by decide +kernel⟩
theorem ok_37 (V : EV K mg fd w) (IH : OKS P w K mg base fd k) : FnOk P w K mg base (L2N.CX P w) (3 * (k + 1)) (a_37 K) (fd 37) ["_law_draws_here", "_law_many"] (spF (Gc K w) 2 (rf_37 (callF k))) :=
  fn_ok (P := P) (w := w) (G := Gc K w) (mg := mg) (base := base) (k := 3 * k + 2) (N := ["_law_draws_here", "_law_many", "_law_letters", "_law_stem", "_law_first", "_law_step", "_law_k"]) (ps := ["_law_draws_here", "_law_many"]) (m := mb_37 (callF k)) [0] V.d_37 sc_37 (by rfl) fun cdv A outer s H E σ (C : Cok (cxF P w K mg base ["_law_draws_here", "_law_many", "_law_letters", "_law_stem", "_law_first", "_law_step", "_law_k"] "_law_names" (defScope (top 30)) (a_37 K) cdv A outer s H E) (pinG (Gc K w) [0] σ) _ (3 * k + 2)) =>
    (ts_cons (tr_set 2 C (tr_str [97, 98, 99, 100, 101, 102, 103, 104, 105, 106, 107, 108, 109, 110, 111, 112, 113, 114, 115, 116, 117, 118, 119, 120, 121, 122])) (ts_cons (tr_set 3 C (tr_join (tr_str []) (tr_lc (own := [("_law_k", 6)]) C (ti_range1 (tr_Ix C (tr_lst (tra_cons tr_int (tra_cons tr_int (tra_cons tr_int (tra_cons tr_int tra_nil))))) (tr_call C (IH.o_7.mono (Nat.le_add_right _ 2)) V.g_7 V.d_7.kp (b_7 V) (tar_b 0 (tar_v tr_int tar_nil)))) V.n_range) (blkOk_by (by rfl)) (fun _ _ _ _ _ => have ND := C.nd; (tg_nm 6 ND)) (fun _ _ _ _ _ C => tts_nil) (fun _ _ _ _ _ C => (tr_Ix C (tr_var 2) (tr_call C (IH.o_7.mono (Nat.le_add_right _ 2)) V.g_7 V.d_7.kp (b_7 V) (tar_b 0 (tar_v tr_int tar_nil)))))))) (ts_cons (tr_set 4 C (tr_call C (IH.o_7.mono (Nat.le_add_right _ 2)) V.g_7 V.d_7.kp (b_7 V) (tar_b 0 (tar_v tr_int tar_nil)))) (ts_cons (tr_set 5 C (tr_Ix C (tr_lst (tra_cons tr_int (tra_cons tr_int (tra_cons tr_int (tra_cons tr_int tra_nil))))) (tr_call C (IH.o_7.mono (Nat.le_add_right _ 2)) V.g_7 V.d_7.kp (b_7 V) (tar_b 0 (tar_v tr_int tar_nil))))) (ts_one (tr_ret (tr_fr (tr_b_sorted C V.n_sorted rfl (tra_cons (tr_lc (own := [("_law_k", 6)]) C (ti_range1 (tr_var 1) V.n_range) (blkOk_by (by rfl)) (fun _ _ _ _ _ => have ND := C.nd; (tg_nm 6 ND)) (fun _ _ _ _ _ C => tts_nil) (fun _ _ _ _ _ C => (tr_Add C (tr_var 3) (tr_Ix C (tr_var 2) (tr_Mod C (tr_Add C (tr_var 4) (tr_Mult C (tr_var 5) (tr_var 6))) tr_int))))) tra_nil)))))))))
theorem sc_54 : FnScope ["one", "other"] ["one", "other"] (defScope (top 11)) := ⟨rfl, rfl, rfl, by decide +kernel, rfl, by decide +kernel, by decide +kernel⟩
theorem ok_54 (V : EV K mg fd w) (IH : OKS P w K mg base fd k) : FnOk P w K mg base (L2N.CX P w) (3 * (k + 1)) (a_54 K) (fd 54) ["one", "other"] (spF (Gc K w) 2 (rf_54 (callF k))) :=
  fn_ok (P := P) (w := w) (G := Gc K w) (mg := mg) (base := base) (k := 3 * k + 2) (N := ["one", "other"]) (ps := ["one", "other"]) (m := mb_54 (callF k)) [] V.d_54 sc_54 (by rfl) fun cdv A outer s H E σ (C : Cok (cxF P w K mg base ["one", "other"] "are_two" (defScope (top 11)) (a_54 K) cdv A outer s H E) (pinG (Gc K w) [] σ) _ (3 * k + 2)) =>
    (ts_one (tr_ret (tr_and (tr_call C (IH.o_1.mono (Nat.le_add_right _ 2)) V.g_1 V.d_1.kp (b_1 V) (tar_v (tr_var 0) tar_nil)) (tr_and (tr_call C (IH.o_1.mono (Nat.le_add_right _ 2)) V.g_1 V.d_1.kp (b_1 V) (tar_v (tr_var 1) tar_nil)) (tr_one (tr_NotEq C (tr_var 0) (tr_var 1)))))))
theorem sc_170 : FnScope ["_law_thing"] ["_law_thing"] (defScope (top 34)) := ⟨rfl, rfl, rfl, by decide +kernel, rfl, by decide +kernel, by decide +kernel⟩
theorem ok_170 (V : EV K mg fd w) (IH : OKS P w K mg base fd k) : FnOk P w K mg base (L2N.CX P w) (3 * (k + 1)) (a_170 K) (fd 170) ["_law_thing"] (spF (Gc K w) 1 (rf_170 (callF k))) :=
  fn_ok (P := P) (w := w) (G := Gc K w) (mg := mg) (base := base) (k := 3 * k + 2) (N := ["_law_thing"]) (ps := ["_law_thing"]) (m := mb_170 (callF k)) [] V.d_170 sc_170 (by rfl) fun cdv A outer s H E σ (C : Cok (cxF P w K mg base ["_law_thing"] "_law_whole" (defScope (top 34)) (a_170 K) cdv A outer s H E) (pinG (Gc K w) [] σ) _ (3 * k + 2)) =>
    (ts_one (tr_ret (tr_and (tr_isi .int C (tr_var 0) V.n_isinstance V.n_int (by rfl)) (tr_one (tr_not (tr_isi .bool C (tr_var 0) V.n_isinstance V.n_bool (by rfl)))))))
theorem sc_191 : FnScope ["thing"] ["thing"] (defScope (top 16)) := ⟨rfl, rfl, rfl, by decide +kernel, rfl, by decide +kernel, by decide +kernel⟩
theorem ok_191 (V : EV K mg fd w) (IH : OKS P w K mg base fd k) : FnOk P w K mg base (L2N.CX P w) (3 * (k + 1)) (a_191 K) (fd 191) ["thing"] (spF (Gc K w) 1 (rf_191 (callF k))) :=
  fn_ok (P := P) (w := w) (G := Gc K w) (mg := mg) (base := base) (k := 3 * k + 2) (N := ["thing"]) (ps := ["thing"]) (m := mb_191 (callF k)) [] V.d_191 sc_191 (by rfl) fun cdv A outer s H E σ (C : Cok (cxF P w K mg base ["thing"] "is_going" (defScope (top 16)) (a_191 K) cdv A outer s H E) (pinG (Gc K w) [] σ) _ (3 * k + 2)) =>
    (ts_cons (tr_ifS (tt_w (tw_or (tt_not (tt_val (tr_isi .tuple C (tr_var 0) V.n_isinstance V.n_tuple (by rfl)))) (tw_or (tt_NotEq C (tr_b_len C V.n_len rfl (tra_cons (tr_var 0) tra_nil)) tr_int) (tw_or1 (tt_not (tt_val (tr_call C (IH.o_54.mono (Nat.le_add_right _ 2)) V.g_54 V.d_54.kp (b_54 V) (tar_v (tr_Ix C (tr_var 0) tr_int) (tar_v (tr_Ix C (tr_var 0) tr_int) tar_nil))))))))) (ts_one (tr_ret tr_bl)) ts_nil) (ts_one (tr_ret (tr_and (tr_isi .int C (tr_Ix C (tr_var 0) tr_int) V.n_isinstance V.n_int (by rfl)) (tr_and (tr_not (tr_isi .bool C (tr_Ix C (tr_var 0) tr_int) V.n_isinstance V.n_bool (by rfl))) (tr_one (tr_Gt C (tr_Ix C (tr_var 0) tr_int) tr_int)))))))
theorem sc_192 : FnScope ["thing", "going"] ["thing"] (defScope (top 17)) := ⟨rfl, rfl, rfl, by decide +kernel, rfl, by decide +kernel, by decide +kernel⟩
theorem ok_192 (V : EV K mg fd w) (IH : OKS P w K mg base fd k) : FnOk P w K mg base (L2N.CX P w) (3 * (k + 1)) (a_192 K) (fd 192) ["thing"] (spF (Gc K w) 1 (rf_192 (callF k))) :=
  fn_ok (P := P) (w := w) (G := Gc K w) (mg := mg) (base := base) (k := 3 * k + 2) (N := ["thing", "going"]) (ps := ["thing"]) (m := mb_192 (callF k)) [] V.d_192 sc_192 (by rfl) fun cdv A outer s H E σ (C : Cok (cxF P w K mg base ["thing", "going"] "are_goings" (defScope (top 17)) (a_192 K) cdv A outer s H E) (pinG (Gc K w) [] σ) _ (3 * k + 2)) =>
    (ts_one (tr_ret (tr_and (tr_isi .list C (tr_var 0) V.n_isinstance V.n_list (by rfl)) (tr_and (tr_LtE C (tr_b_len C V.n_len rfl (tra_cons (tr_var 0) tra_nil)) (C_MOST_DEBTS V)) (tr_one (tr_b_all C V.n_all rfl (tra_cons (tr_lc (own := [("going", 1)]) C (ti_seq C (tr_var 0)) (blkOk_by (by rfl)) (fun _ _ _ _ _ => have ND := C.nd; (tg_nm 1 ND)) (fun _ _ _ _ _ C => tts_nil) (fun _ _ _ _ _ C => (tr_call C (IH.o_191.mono (Nat.le_add_right _ 2)) V.g_191 V.d_191.kp (b_191 V) (tar_v (tr_var 1) tar_nil)))) tra_nil)))))))
theorem sc_193 : FnScope ["debts", "debt"] ["debts"] (defScope (top 18)) := ⟨rfl, rfl, rfl, by decide +kernel, rfl, by decide +kernel, by decide +kernel⟩
theorem ok_193 (V : EV K mg fd w) (IH : OKS P w K mg base fd k) : FnOk P w K mg base (L2N.CX P w) (3 * (k + 1)) (a_193 K) (fd 193) ["debts"] (spF (Gc K w) 1 (rf_193 (callF k))) :=
  fn_ok (P := P) (w := w) (G := Gc K w) (mg := mg) (base := base) (k := 3 * k + 2) (N := ["debts", "debt"]) (ps := ["debts"]) (m := mb_193 (callF k)) [] V.d_193 sc_193 (by rfl) fun cdv A outer s H E σ (C : Cok (cxF P w K mg base ["debts", "debt"] "need_debts" (defScope (top 18)) (a_193 K) cdv A outer s H E) (pinG (Gc K w) [] σ) _ (3 * k + 2)) =>
    (ts_one (tr_ifS (tt_w (tw_or (tt_not (tt_val (tr_call C (IH.o_192.mono (Nat.le_add_right _ 2)) V.g_192 V.d_192.kp (b_192 V) (tar_v (tr_var 0) tar_nil)))) (tw_or1 (tt_not (tt_val (tr_b_all C V.n_all rfl (tra_cons (tr_lc (own := [("debt", 1)]) C (ti_seq C (tr_var 0)) (blkOk_by (by rfl)) (fun _ _ _ _ _ => have ND := C.nd; (tg_nm 1 ND)) (fun _ _ _ _ _ C => tts_nil) (fun _ _ _ _ _ C => (tr_call C (IH.o_0.mono (Nat.le_add_right _ 2)) V.g_0 V.d_0.kp (b_0 V) (tar_v (tr_Ix C (tr_var 1) tr_int) (tar_v tr_int (tar_v (C_MOST_OWED V) tar_nil)))))) tra_nil))))))) (ts_one (tr_raise 17 C V.xr_NoDebts V.gx_NoDebts)) ts_nil))
theorem sc_194 : FnScope ["debts", "found", "pupil", "other", "pence"] ["debts"] (defScope (top 19)) := ⟨rfl, rfl, rfl, by decide +kernel, rfl, by decide +kernel, by decide +kernel⟩
theorem ok_194 (V : EV K mg fd w) (IH : OKS P w K mg base fd k) : FnOk P w K mg base (L2N.CX P w) (3 * (k + 1)) (a_194 K) (fd 194) ["debts"] (spF (Gc K w) 1 (rf_194 (callF k))) :=
  fn_ok (P := P) (w := w) (G := Gc K w) (mg := mg) (base := base) (k := 3 * k + 2) (N := ["debts", "found", "pupil", "other", "pence"]) (ps := ["debts"]) (m := mb_194 (callF k)) [] V.d_194 sc_194 (by rfl) fun cdv A outer s H E σ (C : Cok (cxF P w K mg base ["debts", "found", "pupil", "other", "pence"] "balanced" (defScope (top 19)) (a_194 K) cdv A outer s H E) (pinG (Gc K w) [] σ) _ (3 * k + 2)) =>
    (ts_cons (tr_set 1 C tr_dnew) (ts_cons (tr_for C (ti_seq C (tr_var 0)) (tg_tup C (tg_cons (tg_nm 2 C.nd) (tg_cons (tg_nm 3 C.nd) (tg_cons (tg_nm 4 C.nd) tg_nil)))) (ts_cons (tr_dput 1 C (tr_peekI (W' := _) (tr_Add C (tr_get3 C (tr_var 1) (tr_var 2) tr_int) (tr_var 4))) (tr_var 2)) (ts_one (tr_dput 1 C (tr_peekI (W' := _) (tr_Sub C (tr_get3 C (tr_var 1) (tr_var 3) tr_int) (tr_var 4))) (tr_var 3))))) (ts_one (tr_ret (tr_peekLI (W' := _) (tr_lc (own := [("pupil", 2)]) C (ti_seq C (tr_b_sortedB C V.n_sorted rfl rfl (tra_cons (tr_b_list C V.n_list rfl (tra_cons (tr_var 1) tra_nil)) tra_nil))) (blkOk_by (by rfl)) (fun _ _ _ _ _ => have ND := C.nd; (tg_nm 2 ND)) (fun _ _ _ _ _ C => (tts_one (tt_NotEq C (tr_get C (tr_var 1) (tr_var 2)) tr_int))) (fun _ _ _ _ _ C => (tr_tup (tra_cons (tr_var 2) (tra_cons (tr_get C (tr_var 1) (tr_var 2)) tra_nil))))))))))
theorem sc_196 : FnScope ["debts", "goings"] ["debts", "goings"] (defScope (top 20)) := ⟨rfl, rfl, rfl, by decide +kernel, rfl, by decide +kernel, by decide +kernel⟩
theorem ok_196 (V : EV K mg fd w) (IH : OKS P w K mg base fd k) : FnOk P w K mg base (L2N.CX P w) (3 * (k + 1)) (a_196 K) (fd 196) ["debts", "goings"] (spF (Gc K w) 2 (rf_196 (callF k))) :=
  fn_ok (P := P) (w := w) (G := Gc K w) (mg := mg) (base := base) (k := 3 * k + 2) (N := ["debts", "goings"]) (ps := ["debts", "goings"]) (m := mb_196 (callF k)) [] V.d_196 sc_196 (by rfl) fun cdv A outer s H E σ (C : Cok (cxF P w K mg base ["debts", "goings"] "settles" (defScope (top 20)) (a_196 K) cdv A outer s H E) (pinG (Gc K w) [] σ) _ (3 * k + 2)) =>
    (ts_cons (tr_drop (tr_call C (IH.o_193.mono (Nat.le_add_right _ 2)) V.g_193 V.d_193.kp (b_193 V) (tar_v (tr_var 0) tar_nil))) (ts_one (tr_ret (tr_and (tr_call C (IH.o_192.mono (Nat.le_add_right _ 2)) V.g_192 V.d_192.kp (b_192 V) (tar_v (tr_var 1) tar_nil)) (tr_one (tr_Eq C (tr_call C (IH.o_194.mono (Nat.le_add_right _ 2)) V.g_194 V.d_194.kp (b_194 V) (tar_v (tr_var 1) tar_nil)) (tr_call C (IH.o_194.mono (Nat.le_add_right _ 2)) V.g_194 V.d_194.kp (b_194 V) (tar_v (tr_var 0) tar_nil))))))))
theorem sc_197 : FnScope ["rows", "found", "sums", "mask", "some", "total", "ways", "lots", "last", "k"] ["rows"] (defScope (top 21)) := ⟨rfl, rfl, rfl, by decide +kernel, rfl, by decide +kernel, by decide +kernel⟩
theorem ok_197 (V : EV K mg fd w) (IH : OKS P w K mg base fd k) : FnOk P w K mg base (L2N.CX P w) (3 * (k + 1)) (a_197 K) (fd 197) ["rows"] (spF (Gc K w) 1 (rf_197 (callF k))) :=
  fn_ok (P := P) (w := w) (G := Gc K w) (mg := mg) (base := base) (k := 3 * k + 2) (N := ["rows", "found", "sums", "mask", "some", "total", "ways", "lots", "last", "k"]) (ps := ["rows"]) (m := mb_197 (callF k)) [] V.d_197 sc_197 (by rfl) fun cdv A outer s H E σ (C : Cok (cxF P w K mg base ["rows", "found", "sums", "mask", "some", "total", "ways", "lots", "last", "k"] "most_lots" (defScope (top 21)) (a_197 K) cdv A outer s H E) (pinG (Gc K w) [] σ) _ (3 * k + 2)) =>
    (ts_cons (tr_set 1 C (tr_lst (tra_cons (tr_tup (tra_cons tr_int (tra_cons tr_int tra_nil))) tra_nil))) (ts_cons (tr_set 2 C (tr_lst (tra_cons tr_int tra_nil))) (ts_cons (tr_for C (ti_range2 tr_int (tr_LShift C tr_int (tr_b_len C V.n_len rfl (tra_cons (tr_var 0) tra_nil))) V.n_range) (tg_nm 3 C.nd) (ts_cons (tr_setLcF 4 (own := [("k", 9)]) C (ti_range1 (tr_b_len C V.n_len rfl (tra_cons (tr_var 0) tra_nil)) V.n_range) (blkOk_by (by rfl)) (fun _ _ _ _ _ => have ND := C.nd; (tg_nm 9 ND)) (fun _ _ _ _ _ C => (tts_one (tt_Eq C (tr_BitAnd C (tr_RShift C (tr_var 3) (tr_var 9)) tr_int) tr_int))) (fun _ _ _ _ _ C => (tr_var 9)) (by rfl)) (ts_cons (tr_set 5 C (tr_b_sum C V.n_sum rfl (tra_cons (tr_lc (own := [("k", 9)]) C (ti_seq C (tr_var 4)) (blkOk_by (by rfl)) (fun _ _ _ _ _ => have ND := C.nd; (tg_nm 9 ND)) (fun _ _ _ _ _ C => tts_nil) (fun _ _ _ _ _ C => (tr_Ix C (tr_Ix C (tr_var 0) (tr_var 9)) tr_int))) tra_nil))) (ts_cons (tr_drop (tr_append 2 (tr_var 5))) (ts_cons (tr_setLcF 6 (own := [("k", 9)]) C (ti_seq C (tr_var 4)) (blkOk_by (by rfl)) (fun _ _ _ _ _ => have ND := C.nd; (tg_nm 9 ND)) (fun _ _ _ _ _ C => tts_nil) (fun _ _ _ _ _ C => (tr_peekI (W' := _) (tr_tup (tra_cons (tr_Ix C (tr_Ix C (tr_var 1) (tr_Sub C (tr_var 3) (tr_LShift C tr_int (tr_var 9)))) tr_int) (tra_cons (tr_var 9) tra_nil))))) (by rfl)) (ts_cons (tr_put (tr_b_maxA C V.n_max rfl (tra_cons (tr_var 6) tra_nil)) (tg_tup C (tg_cons (tg_nm 7 C.nd) (tg_cons (tg_nm 8 C.nd) tg_nil)))) (ts_one (tr_drop (tr_append 1 (tr_tup (tra_cons (tr_Add C (tr_var 7) (tr_b_int C V.n_int rfl (tra_cons (tr_Eq C (tr_var 5) tr_int) tra_nil))) (tra_cons (tr_var 8) tra_nil)))))))))))) (ts_one (tr_ret (tr_fzV 1))))))
theorem sc_198 : FnScope ["rows", "found", "mask", "lots", "some", "last", "k"] ["rows"] (defScope (top 22)) := ⟨rfl, rfl, rfl, by decide +kernel, rfl, by decide +kernel, by decide +kernel⟩
theorem ok_198 (V : EV K mg fd w) (IH : OKS P w K mg base fd k) : FnOk P w K mg base (L2N.CX P w) (3 * (k + 1)) (a_198 K) (fd 198) ["rows"] (spF (Gc K w) 1 (rf_198 (callF k))) :=
  fn_ok (P := P) (w := w) (G := Gc K w) (mg := mg) (base := base) (k := 3 * k + 2) (N := ["rows", "found", "mask", "lots", "some", "last", "k"]) (ps := ["rows"]) (m := mb_198 (callF k)) [] V.d_198 sc_198 (by rfl) fun cdv A outer s H E σ (C : Cok (cxF P w K mg base ["rows", "found", "mask", "lots", "some", "last", "k"] "lots_of" (defScope (top 22)) (a_198 K) cdv A outer s H E) (pinG (Gc K w) [] σ) _ (3 * k + 2)) =>
    (ts_cons (tr_set 1 C (tr_call C (IH.o_197.mono (Nat.le_add_right _ 2)) V.g_197 V.d_197.kp (b_197 V) (tar_v (tr_var 0) tar_nil))) (ts_cons (tr_set 2 C (tr_Sub C (tr_LShift C tr_int (tr_b_len C V.n_len rfl (tra_cons (tr_var 0) tra_nil))) tr_int)) (ts_cons (tr_set 3 C (tr_newL (.li .fz))) (ts_cons (tr_while 64 C (tt_Gt C (tr_var 2) tr_int) (ts_cons (tr_setLcF 4 (own := [("k", 6)]) C (ti_range1 (tr_b_len C V.n_len rfl (tra_cons (tr_var 0) tra_nil)) V.n_range) (blkOk_by (by rfl)) (fun _ _ _ _ _ => have ND := C.nd; (tg_nm 6 ND)) (fun _ _ _ _ _ C => (tts_one (tt_Eq C (tr_BitAnd C (tr_RShift C (tr_var 2) (tr_var 6)) tr_int) tr_int))) (fun _ _ _ _ _ C => (tr_var 6)) (by rfl)) (ts_cons (tr_ifS (tt_Eq C (tr_b_sum C V.n_sum rfl (tra_cons (tr_lc (own := [("k", 6)]) C (ti_seq C (tr_var 4)) (blkOk_by (by rfl)) (fun _ _ _ _ _ => have ND := C.nd; (tg_nm 6 ND)) (fun _ _ _ _ _ C => tts_nil) (fun _ _ _ _ _ C => (tr_Ix C (tr_Ix C (tr_var 0) (tr_var 6)) tr_int))) tra_nil)) tr_int) (ts_one (tr_drop (tr_pAppN (tp_root 3)))) ts_nil) (ts_cons (tr_set 5 C (tr_Ix C (tr_Ix C (tr_var 1) (tr_var 2)) tr_int)) (ts_cons (tr_drop (tr_pMth F.slot_list_append F.type_list_append mt_append mo_append (tp_ix (tp_root 3) (q_peek (W' := _) (tr_neg C tr_int))) (taq_cons (q_peek (W' := _) (tr_Ix C (tr_var 0) (tr_var 5))) taq_nil))) (ts_one (tr_augIs 2 C (tr_LShift C tr_int (tr_var 5))))))))) (ts_one (tr_ret (tr_fzV 3)))))))
theorem sc_199 : FnScope ["rows"] ["rows"] (defScope (top 23)) := ⟨rfl, rfl, rfl, by decide +kernel, rfl, by decide +kernel, by decide +kernel⟩
theorem ok_199 (V : EV K mg fd w) (IH : OKS P w K mg base fd k) : FnOk P w K mg base (L2N.CX P w) (3 * (k + 1)) (a_199 K) (fd 199) ["rows"] (spF (Gc K w) 1 (rf_199 (callF k))) :=
  fn_ok (P := P) (w := w) (G := Gc K w) (mg := mg) (base := base) (k := 3 * k + 2) (N := ["rows"]) (ps := ["rows"]) (m := mb_199 (callF k)) [] V.d_199 sc_199 (by rfl) fun cdv A outer s H E σ (C : Cok (cxF P w K mg base ["rows"] "need_few" (defScope (top 23)) (a_199 K) cdv A outer s H E) (pinG (Gc K w) [] σ) _ (3 * k + 2)) =>
    (ts_one (tr_ifS (tt_Gt C (tr_b_len C V.n_len rfl (tra_cons (tr_var 0) tra_nil)) (C_MOST_UNEVEN V)) (ts_one (tr_raiseI 23 C (by omega) V.in_TooMany (ini_TooMany V) (bi_TooMany V) V.gx_TooMany rfl (tr_b_len C V.n_len rfl (tra_cons (tr_var 0) tra_nil)))) ts_nil))
theorem sc_200 : FnScope ["lot", "left", "found", "giver", "taker", "pence", "pupil"] ["lot"] (defScope (top 24)) := ⟨rfl, rfl, rfl, by decide +kernel, rfl, by decide +kernel, by decide +kernel⟩
theorem ok_200 (V : EV K mg fd w) (IH : OKS P w K mg base fd k) : FnOk P w K mg base (L2N.CX P w) (3 * (k + 1)) (a_200 K) (fd 200) ["lot"] (spF (Gc K w) 1 (rf_200 (callF k))) :=
  fn_ok (P := P) (w := w) (G := Gc K w) (mg := mg) (base := base) (k := 3 * k + 2) (N := ["lot", "left", "found", "giver", "taker", "pence", "pupil"]) (ps := ["lot"]) (m := mb_200 (callF k)) [] V.d_200 sc_200 (by rfl) fun cdv A outer s H E σ (C : Cok (cxF P w K mg base ["lot", "left", "found", "giver", "taker", "pence", "pupil"] "goings_of" (defScope (top 24)) (a_200 K) cdv A outer s H E) (pinG (Gc K w) [] σ) _ (3 * k + 2)) =>
    (ts_cons (tr_set 1 C (tr_b_dict C V.n_dict rfl (tra_cons (tr_var 0) tra_nil))) (ts_cons (tr_set 2 C (tr_lst tra_nil)) (ts_cons (tr_while 64 C (tt_peek (W' := _) (tt_Gt C (tr_b_lenD C V.n_len rfl (tra_cons (tr_var 1) tra_nil)) tr_int)) (ts_cons (tr_set 3 C (tr_Ix C (tr_b_maxA C V.n_max rfl (tra_cons (tr_lockLI 1 (W' := _) (tr_lc (own := [("pupil", 6)]) C (ti_ldc 1) (blkOk_by (by rfl)) (fun _ _ _ _ _ => have ND := C.nd; (tg_nm 6 ND)) (fun _ _ _ _ _ C => tts_nil) (fun _ _ _ _ _ C => (tr_tup (tra_cons (tr_getL C (tr_var 1) (tr_var 6)) (tra_cons (tr_var 6) tra_nil)))))) tra_nil)) tr_int)) (ts_cons (tr_set 4 C (tr_Ix C (tr_b_minA C V.n_min rfl (tra_cons (tr_lockLI 1 (W' := _) (tr_lc (own := [("pupil", 6)]) C (ti_ldc 1) (blkOk_by (by rfl)) (fun _ _ _ _ _ => have ND := C.nd; (tg_nm 6 ND)) (fun _ _ _ _ _ C => tts_nil) (fun _ _ _ _ _ C => (tr_tup (tra_cons (tr_getL C (tr_var 1) (tr_var 6)) (tra_cons (tr_var 6) tra_nil)))))) tra_nil)) tr_int)) (ts_cons (tr_set 5 C (tr_peekI (W' := _) (tr_b_min C V.n_min rfl (tra_cons (tr_get C (tr_var 1) (tr_var 3)) (tra_cons (tr_Sub C tr_int (tr_get C (tr_var 1) (tr_var 4))) tra_nil))))) (ts_cons (tr_drop (tr_append 2 (tr_tup (tra_cons (tr_var 3) (tra_cons (tr_var 4) (tra_cons (tr_var 5) tra_nil)))))) (ts_cons (tr_augD true C (tp_root 1) (q_var 3) (q_var 5)) (ts_cons (tr_augD false C (tp_root 1) (q_var 4) (q_var 5)) (ts_one (tr_set 1 C (tr_b_dict C V.n_dict rfl (tra_cons (tr_lockLI 1 (W' := _) (tr_lc (own := [("pupil", 6)]) C (ti_ldc 1) (blkOk_by (by rfl)) (fun _ _ _ _ _ => have ND := C.nd; (tg_nm 6 ND)) (fun _ _ _ _ _ C => (tts_one (tt_NotEq C (tr_getL C (tr_var 1) (tr_var 6)) tr_int))) (fun _ _ _ _ _ C => (tr_tup (tra_cons (tr_var 6) (tra_cons (tr_getL C (tr_var 1) (tr_var 6)) tra_nil)))))) tra_nil))))))))))) (ts_one (tr_ret (tr_fzV 2))))))
theorem sc_201 : FnScope ["debts", "rows", "found", "lot"] ["debts"] (defScope (top 25)) := ⟨rfl, rfl, rfl, by decide +kernel, rfl, by decide +kernel, by decide +kernel⟩
theorem ok_201 (V : EV K mg fd w) (IH : OKS P w K mg base fd k) : FnOk P w K mg base (L2N.CX P w) (3 * (k + 1)) (a_201 K) (fd 201) ["debts"] (spF (Gc K w) 1 (rf_201 (callF k))) :=
  fn_ok (P := P) (w := w) (G := Gc K w) (mg := mg) (base := base) (k := 3 * k + 2) (N := ["debts", "rows", "found", "lot"]) (ps := ["debts"]) (m := mb_201 (callF k)) [] V.d_201 sc_201 (by rfl) fun cdv A outer s H E σ (C : Cok (cxF P w K mg base ["debts", "rows", "found", "lot"] "settled" (defScope (top 25)) (a_201 K) cdv A outer s H E) (pinG (Gc K w) [] σ) _ (3 * k + 2)) =>
    (ts_cons (tr_drop (tr_call C (IH.o_193.mono (Nat.le_add_right _ 2)) V.g_193 V.d_193.kp (b_193 V) (tar_v (tr_var 0) tar_nil))) (ts_cons (tr_set 1 C (tr_fr (tr_call C (IH.o_194.mono (Nat.le_add_right _ 2)) V.g_194 V.d_194.kp (b_194 V) (tar_v (tr_var 0) tar_nil)))) (ts_cons (tr_drop (tr_call C (IH.o_199.mono (Nat.le_add_right _ 2)) V.g_199 V.d_199.kp (b_199 V) (tar_v (tr_var 1) tar_nil))) (ts_cons (tr_set 2 C (tr_lst tra_nil)) (ts_cons (tr_for C (ti_seq C (tr_call C (IH.o_198.mono (Nat.le_add_right _ 2)) V.g_198 V.d_198.kp (b_198 V) (tar_v (tr_var 1) tar_nil))) (tg_nm 3 C.nd) (ts_one (tr_drop (tr_extend 2 (tr_call C (IH.o_200.mono (Nat.le_add_right _ 2)) V.g_200 V.d_200.kp (b_200 V) (tar_v (tr_var 3) tar_nil)))))) (ts_one (tr_ret (tr_peekLI (W' := _) (tr_b_sortedB C V.n_sorted rfl rfl (tra_cons (tr_var 2) tra_nil))))))))))
theorem sc_202 : FnScope ["debts", "rows"] ["debts"] (defScope (top 26)) := ⟨rfl, rfl, rfl, by decide +kernel, rfl, by decide +kernel, by decide +kernel⟩
theorem ok_202 (V : EV K mg fd w) (IH : OKS P w K mg base fd k) : FnOk P w K mg base (L2N.CX P w) (3 * (k + 1)) (a_202 K) (fd 202) ["debts"] (spF (Gc K w) 1 (rf_202 (callF k))) :=
  fn_ok (P := P) (w := w) (G := Gc K w) (mg := mg) (base := base) (k := 3 * k + 2) (N := ["debts", "rows"]) (ps := ["debts"]) (m := mb_202 (callF k)) [] V.d_202 sc_202 (by rfl) fun cdv A outer s H E σ (C : Cok (cxF P w K mg base ["debts", "rows"] "how_few" (defScope (top 26)) (a_202 K) cdv A outer s H E) (pinG (Gc K w) [] σ) _ (3 * k + 2)) =>
    (ts_cons (tr_drop (tr_call C (IH.o_193.mono (Nat.le_add_right _ 2)) V.g_193 V.d_193.kp (b_193 V) (tar_v (tr_var 0) tar_nil))) (ts_cons (tr_set 1 C (tr_fr (tr_call C (IH.o_194.mono (Nat.le_add_right _ 2)) V.g_194 V.d_194.kp (b_194 V) (tar_v (tr_var 0) tar_nil)))) (ts_cons (tr_drop (tr_call C (IH.o_199.mono (Nat.le_add_right _ 2)) V.g_199 V.d_199.kp (b_199 V) (tar_v (tr_var 1) tar_nil))) (ts_one (tr_ret (tr_Sub C (tr_b_len C V.n_len rfl (tra_cons (tr_var 1) tra_nil)) (tr_Ix C (tr_Ix C (tr_call C (IH.o_197.mono (Nat.le_add_right _ 2)) V.g_197 V.d_197.kp (b_197 V) (tar_v (tr_var 1) tar_nil)) (tr_neg C tr_int)) tr_int)))))))
theorem sc_204 : FnScope ["_law_draws_here", "_law_most", "_law_names_here", "_law_found", "_law_k", "_law_one", "_law_other"] ["_law_draws_here", "_law_most"] (defScope (top 31)) := ⟨rfl, rfl, rfl, by decide +kernel, rfl, by decide +kernel, by decide +kernel⟩
theorem ok_204 (V : EV K mg fd w) (IH : OKS P w K mg base fd k) : FnOk P w K mg base (L2N.CX P w) (3 * (k + 1)) (a_204 K) (fd 204) ["_law_draws_here", "_law_most"] (spF (Gc K w) 2 (rf_204 (callF k))) :=
  fn_ok (P := P) (w := w) (G := Gc K w) (mg := mg) (base := base) (k := 3 * k + 2) (N := ["_law_draws_here", "_law_most", "_law_names_here", "_law_found", "_law_k", "_law_one", "_law_other"]) (ps := ["_law_draws_here", "_law_most"]) (m := mb_204 (callF k)) [0] V.d_204 sc_204 (by rfl) fun cdv A outer s H E σ (C : Cok (cxF P w K mg base ["_law_draws_here", "_law_most", "_law_names_here", "_law_found", "_law_k", "_law_one", "_law_other"] "_law_debts" (defScope (top 31)) (a_204 K) cdv A outer s H E) (pinG (Gc K w) [0] σ) _ (3 * k + 2)) =>
    (ts_cons (tr_set 2 C (tr_call C (IH.o_37.mono (Nat.le_add_right _ 2)) V.g_37 V.d_37.kp (b_37 V) (tar_b 0 (tar_v (tr_Add C tr_int (tr_call C (IH.o_7.mono (Nat.le_add_right _ 2)) V.g_7 V.d_7.kp (b_7 V) (tar_b 0 (tar_v (tr_Sub C (tr_var 1) tr_int) tar_nil)))) tar_nil)))) (ts_cons (tr_set 3 C (tr_lst tra_nil)) (ts_cons (tr_for C (ti_range1 (tr_call C (IH.o_7.mono (Nat.le_add_right _ 2)) V.g_7 V.d_7.kp (b_7 V) (tar_b 0 (tar_v (tr_Ix C (tr_lst (tra_cons tr_int (tra_cons tr_int tra_nil))) (tr_call C (IH.o_7.mono (Nat.le_add_right _ 2)) V.g_7 V.d_7.kp (b_7 V) (tar_b 0 (tar_v tr_int tar_nil)))) tar_nil))) V.n_range) (tg_nm 4 C.nd) (ts_cons (tr_set 5 C (tr_Ix C (tr_var 2) (tr_call C (IH.o_7.mono (Nat.le_add_right _ 2)) V.g_7 V.d_7.kp (b_7 V) (tar_b 0 (tar_v (tr_b_len C V.n_len rfl (tra_cons (tr_var 2) tra_nil)) tar_nil))))) (ts_cons (tr_set 6 C (tr_Ix C (tr_var 2) (tr_call C (IH.o_7.mono (Nat.le_add_right _ 2)) V.g_7 V.d_7.kp (b_7 V) (tar_b 0 (tar_v (tr_b_len C V.n_len rfl (tra_cons (tr_var 2) tra_nil)) tar_nil))))) (ts_one (tr_ifS (tt_NotEq C (tr_var 5) (tr_var 6)) (ts_one (tr_drop (tr_append 3 (tr_tup (tra_cons (tr_var 5) (tra_cons (tr_var 6) (tra_cons (tr_Add C tr_int (tr_call C (IH.o_7.mono (Nat.le_add_right _ 2)) V.g_7 V.d_7.kp (b_7 V) (tar_b 0 (tar_v (tr_Ix C (tr_lst (tra_cons tr_int (tra_cons tr_int (tra_cons (tr_Pow C tr_int tr_int) tra_nil)))) (tr_call C (IH.o_7.mono (Nat.le_add_right _ 2)) V.g_7 V.d_7.kp (b_7 V) (tar_b 0 (tar_v tr_int tar_nil)))) tar_nil)))) tra_nil))))))) ts_nil))))) (ts_one (tr_ret (tr_fzV 3))))))
theorem sc_205 : FnScope ["_law_debts_here", "_law_found", "_law_pupil", "_law_other", "_law_pence", "_law_name", "_law_more"] ["_law_debts_here"] (defScope (top 32)) := ⟨rfl, rfl, rfl, by decide +kernel, rfl, by decide +kernel, by decide +kernel⟩
theorem ok_205 (V : EV K mg fd w) (IH : OKS P w K mg base fd k) : FnOk P w K mg base (L2N.CX P w) (3 * (k + 1)) (a_205 K) (fd 205) ["_law_debts_here"] (spF (Gc K w) 1 (rf_205 (callF k))) :=
  fn_ok (P := P) (w := w) (G := Gc K w) (mg := mg) (base := base) (k := 3 * k + 2) (N := ["_law_debts_here", "_law_found", "_law_pupil", "_law_other", "_law_pence", "_law_name", "_law_more"]) (ps := ["_law_debts_here"]) (m := mb_205 (callF k)) [] V.d_205 sc_205 (by rfl) fun cdv A outer s H E σ (C : Cok (cxF P w K mg base ["_law_debts_here", "_law_found", "_law_pupil", "_law_other", "_law_pence", "_law_name", "_law_more"] "_law_balances" (defScope (top 32)) (a_205 K) cdv A outer s H E) (pinG (Gc K w) [] σ) _ (3 * k + 2)) =>
    (ts_cons (tr_set 1 C tr_dnew) (ts_cons (tr_for C (ti_seq C (tr_var 0)) (tg_tup C (tg_cons (tg_nm 2 C.nd) (tg_cons (tg_nm 3 C.nd) (tg_cons (tg_nm 4 C.nd) tg_nil)))) (ts_one (tr_for C (ti_seq C (tr_lst (tra_cons (tr_tup (tra_cons (tr_var 2) (tra_cons (tr_var 4) tra_nil))) (tra_cons (tr_tup (tra_cons (tr_var 3) (tra_cons (tr_Sub C tr_int (tr_var 4)) tra_nil))) tra_nil)))) (tg_tup C (tg_cons (tg_nm 5 C.nd) (tg_cons (tg_nm 6 C.nd) tg_nil))) (ts_one (tr_dput 1 C (tr_peekI (W' := _) (tr_Add C (tr_get3 C (tr_var 1) (tr_var 5) tr_int) (tr_var 6))) (tr_var 5)))))) (ts_one (tr_ret (tr_fr (tr_b_sortedB C V.n_sorted rfl rfl (tra_cons (tr_lockLI 1 (W' := _) (tr_lc (own := [("_law_name", 5)]) C (ti_ldc 1) (blkOk_by (by rfl)) (fun _ _ _ _ _ => have ND := C.nd; (tg_nm 5 ND)) (fun _ _ _ _ _ C => (tts_one (tt_NotEq C (tr_getL C (tr_var 1) (tr_var 5)) tr_int))) (fun _ _ _ _ _ C => (tr_tup (tra_cons (tr_var 5) (tra_cons (tr_getL C (tr_var 1) (tr_var 5)) tra_nil)))))) tra_nil)))))))
theorem sc_212 : FnScope ["_law_rows", "_law_best", "_law_number", "_law_lot", "_law_k", "_law_row"] ["_law_rows"] (defScope (top 33)) := ⟨rfl, rfl, rfl, by decide +kernel, rfl, by decide +kernel, by decide +kernel⟩
theorem ok_212 (V : EV K mg fd w) (IH : OKS P w K mg base fd k) : FnOk P w K mg base (L2N.CX P w) (3 * (k + 1)) (a_212 K) (fd 212) ["_law_rows"] (spF (Gc K w) 1 (rf_212 (callF k))) :=
  fn_ok (P := P) (w := w) (G := Gc K w) (mg := mg) (base := base) (k := 3 * k + 2) (N := ["_law_rows", "_law_best", "_law_number", "_law_lot", "_law_k", "_law_row"]) (ps := ["_law_rows"]) (m := mb_212 (callF k)) [] V.d_212 sc_212 (by rfl) fun cdv A outer s H E σ (C : Cok (cxF P w K mg base ["_law_rows", "_law_best", "_law_number", "_law_lot", "_law_k", "_law_row"] "_law_most_lots" (defScope (top 33)) (a_212 K) cdv A outer s H E) (pinG (Gc K w) [] σ) _ (3 * k + 2)) =>
    (ts_cons (tr_ifS (tt_Eq C (tr_var 0) (tr_lst tra_nil)) (ts_one (tr_ret tr_int)) ts_nil) (ts_cons (tr_set 1 C tr_int) (ts_cons (tr_for C (ti_range1 (tr_LShift C tr_int (tr_Sub C (tr_b_len C V.n_len rfl (tra_cons (tr_var 0) tra_nil)) tr_int)) V.n_range) (tg_nm 2 C.nd) (ts_cons (tr_set 3 C (tr_fr (tr_Add C (tr_sl C (tr_var 0) to_none (to_some tr_int)) (tr_lc (own := [("_law_k", 4)]) C (ti_range1 (tr_Sub C (tr_b_len C V.n_len rfl (tra_cons (tr_var 0) tra_nil)) tr_int) V.n_range) (blkOk_by (by rfl)) (fun _ _ _ _ _ => have ND := C.nd; (tg_nm 4 ND)) (fun _ _ _ _ _ C => (tts_one (tt_Eq C (tr_BitAnd C (tr_RShift C (tr_var 2) (tr_var 4)) tr_int) tr_int))) (fun _ _ _ _ _ C => (tr_Ix C (tr_var 0) (tr_Add C (tr_var 4) tr_int))))))) (ts_one (tr_ifS (tt_w (tw_and (tt_Eq C (tr_b_sum C V.n_sum rfl (tra_cons (tr_lc (own := [("_law_row", 5)]) C (ti_seq C (tr_var 3)) (blkOk_by (by rfl)) (fun _ _ _ _ _ => have ND := C.nd; (tg_nm 5 ND)) (fun _ _ _ _ _ C => tts_nil) (fun _ _ _ _ _ C => (tr_Ix C (tr_var 5) tr_int))) tra_nil)) tr_int) (tw_and1 (tt_Lt C (tr_b_len C V.n_len rfl (tra_cons (tr_var 3) tra_nil)) (tr_b_len C V.n_len rfl (tra_cons (tr_var 0) tra_nil)))))) (ts_one (tr_set 1 C (tr_b_max C V.n_max rfl (tra_cons (tr_var 1) (tra_cons (tr_Add C tr_int (tr_call C (IH.o_212.mono (Nat.le_add_right _ 2)) V.g_212 V.d_212.kp (b_212 V) (tar_v (tr_lc (own := [("_law_row", 5)]) C (ti_seq C (tr_var 0)) (blkOk_by (by rfl)) (fun _ _ _ _ _ => have ND := C.nd; (tg_nm 5 ND)) (fun _ _ _ _ _ C => (tts_one (tt_NotInB C (tr_var 5) (tr_var 3)))) (fun _ _ _ _ _ C => (tr_var 5))) tar_nil))) tra_nil))))) ts_nil)))) (ts_one (tr_ret (tr_var 1))))))
theorem sc_213 : FnScope ["_law_draws_here", "_law_names_here", "_law_found", "_law_pence", "_law_k", "_law_turn", "_law_one", "_law_other"] ["_law_draws_here", "_law_names_here"] (defScope (top 35)) := ⟨rfl, rfl, rfl, by decide +kernel, rfl, by decide +kernel, by decide +kernel⟩
theorem ok_213 (V : EV K mg fd w) (IH : OKS P w K mg base fd k) : FnOk P w K mg base (L2N.CX P w) (3 * (k + 1)) (a_213 K) (fd 213) ["_law_draws_here", "_law_names_here"] (spF (Gc K w) 2 (rf_213 (callF k))) :=
  fn_ok (P := P) (w := w) (G := Gc K w) (mg := mg) (base := base) (k := 3 * k + 2) (N := ["_law_draws_here", "_law_names_here", "_law_found", "_law_pence", "_law_k", "_law_turn", "_law_one", "_law_other"]) (ps := ["_law_draws_here", "_law_names_here"]) (m := mb_213 (callF k)) [0] V.d_213 sc_213 (by rfl) fun cdv A outer s H E σ (C : Cok (cxF P w K mg base ["_law_draws_here", "_law_names_here", "_law_found", "_law_pence", "_law_k", "_law_turn", "_law_one", "_law_other"] "_law_rings" (defScope (top 35)) (a_213 K) cdv A outer s H E) (pinG (Gc K w) [0] σ) _ (3 * k + 2)) =>
    (ts_cons (tr_set 2 C (tr_lst tra_nil)) (ts_cons (tr_set 3 C (tr_fr (tr_Add C tr_int (tr_call C (IH.o_7.mono (Nat.le_add_right _ 2)) V.g_7 V.d_7.kp (b_7 V) (tar_b 0 (tar_v tr_int tar_nil)))))) (ts_cons (tr_for C (ti_range1 (tr_Mult C (tr_b_len C V.n_len rfl (tra_cons (tr_var 1) tra_nil)) (tr_call C (IH.o_7.mono (Nat.le_add_right _ 2)) V.g_7 V.d_7.kp (b_7 V) (tar_b 0 (tar_v tr_int tar_nil)))) V.n_range) (tg_nm 4 C.nd) (ts_one (tr_drop (tr_append 2 (tr_tup (tra_cons (tr_Ix C (tr_var 1) (tr_var 4)) (tra_cons (tr_Ix C (tr_var 1) (tr_Mod C (tr_Add C (tr_var 4) tr_int) (tr_b_len C V.n_len rfl (tra_cons (tr_var 1) tra_nil)))) (tra_cons (tr_var 3) tra_nil)))))))) (ts_cons (tr_for C (ti_range1 (tr_call C (IH.o_7.mono (Nat.le_add_right _ 2)) V.g_7 V.d_7.kp (b_7 V) (tar_b 0 (tar_v tr_int tar_nil))) V.n_range) (tg_nm 5 C.nd) (ts_cons (tr_set 6 C (tr_call C (IH.o_7.mono (Nat.le_add_right _ 2)) V.g_7 V.d_7.kp (b_7 V) (tar_b 0 (tar_v (tr_b_len C V.n_len rfl (tra_cons (tr_var 1) tra_nil)) tar_nil)))) (ts_cons (tr_set 7 C (tr_call C (IH.o_7.mono (Nat.le_add_right _ 2)) V.g_7 V.d_7.kp (b_7 V) (tar_b 0 (tar_v (tr_b_len C V.n_len rfl (tra_cons (tr_var 1) tra_nil)) tar_nil)))) (ts_one (tr_ifS (tt_NotEq C (tr_var 6) (tr_var 7)) (ts_one (tr_drop (tr_append 2 (tr_tup (tra_cons (tr_Ix C (tr_var 1) (tr_var 6)) (tra_cons (tr_Ix C (tr_var 1) (tr_var 7)) (tra_cons (tr_Add C tr_int (tr_call C (IH.o_7.mono (Nat.le_add_right _ 2)) V.g_7 V.d_7.kp (b_7 V) (tar_b 0 (tar_v tr_int tar_nil)))) tra_nil))))))) ts_nil))))) (ts_one (tr_ret (tr_fzV 2)))))))
theorem sc_214 : FnScope ["_law_draws_here", "_law_names_here", "_law_debts_here", "_law_k", "_law_three", "_law_name"] ["_law_draws_here"] (defScope (top 36)) := ⟨rfl, rfl, rfl, by decide +kernel, rfl, by decide +kernel, by decide +kernel⟩
theorem ok_214 (V : EV K mg fd w) (IH : OKS P w K mg base fd k) : FnOk P w K mg base (L2N.CX P w) (3 * (k + 1)) (a_214 K) (fd 214) ["_law_draws_here"] (spF (Gc K w) 1 (rf_214 (callF k))) :=
  fn_ok (P := P) (w := w) (G := Gc K w) (mg := mg) (base := base) (k := 3 * k + 2) (N := ["_law_draws_here", "_law_names_here", "_law_debts_here", "_law_k", "_law_three", "_law_name"]) (ps := ["_law_draws_here"]) (m := mb_214 (callF k)) [0] V.d_214 sc_214 (by rfl) fun cdv A outer s H E σ (C : Cok (cxF P w K mg base ["_law_draws_here", "_law_names_here", "_law_debts_here", "_law_k", "_law_three", "_law_name"] "_law_lots_right" (defScope (top 36)) (a_214 K) cdv A outer s H E) (pinG (Gc K w) [0] σ) _ (3 * k + 2)) =>
    (ts_cons (tr_setLcF 1 (own := [("_law_name", 5)]) C (ti_str (tr_str [97, 98, 99, 100, 101, 102, 103, 104])) (blkOk_by (by rfl)) (fun _ _ _ _ _ => have ND := C.nd; (tg_nm 5 ND)) (fun _ _ _ _ _ C => tts_nil) (fun _ _ _ _ _ C => (tr_Add C (tr_var 5) (tr_str [120]))) (by rfl)) (ts_cons (tr_set 2 C (tr_lst tra_nil)) (ts_cons (tr_for C (ti_range1 tr_int V.n_range) (tg_nm 3 C.nd) (ts_one (tr_drop (tr_append 2 (tr_tup (tra_cons (tr_Ix C (tr_var 1) (tr_Mult C tr_int (tr_var 3))) (tra_cons (tr_Ix C (tr_var 1) (tr_Add C (tr_Mult C tr_int (tr_var 3)) tr_int)) (tra_cons (tr_Add C (tr_Ix C (tr_lst (tra_cons tr_int (tra_cons tr_int (tra_cons tr_int (tra_cons tr_int tra_nil))))) (tr_var 3)) (tr_Mult C (tr_call C (IH.o_7.mono (Nat.le_add_right _ 2)) V.g_7 V.d_7.kp (b_7 V) (tar_b 0 (tar_v tr_int tar_nil))) (tr_Pow C tr_int tr_int))) tra_nil)))))))) (ts_cons (tr_ifS (tt_peek (W' := _) (tt_w (tw_or (tt_Gt C (tr_call C (IH.o_202.mono (Nat.le_add_right _ 2)) V.g_202 V.d_202.kp (b_202 V) (tar_v (tr_var 2) tar_nil)) tr_int) (tw_or1 (tt_NotEq C (tr_b_len C V.n_len rfl (tra_cons (tr_call C (IH.o_201.mono (Nat.le_add_right _ 2)) V.g_201 V.d_201.kp (b_201 V) (tar_v (tr_var 2) tar_nil)) tra_nil)) (tr_call C (IH.o_202.mono (Nat.le_add_right _ 2)) V.g_202 V.d_202.kp (b_202 V) (tar_v (tr_var 2) tar_nil))))))) (ts_one (tr_ret tr_bl)) ts_nil) (ts_cons (tr_set 4 C (tr_fr (tr_lst (tra_cons (tr_tup (tra_cons (tr_str [97, 120]) (tra_cons (tr_str [98, 120]) (tra_cons tr_int tra_nil)))) (tra_cons (tr_tup (tra_cons (tr_str [97, 120]) (tra_cons (tr_str [99, 120]) (tra_cons tr_int tra_nil)))) (tra_cons (tr_tup (tra_cons (tr_str [100, 120]) (tra_cons (tr_str [101, 120]) (tra_cons tr_int tra_nil)))) (tra_cons (tr_tup (tra_cons (tr_str [102, 120]) (tra_cons (tr_str [101, 120]) (tra_cons tr_int tra_nil)))) (tra_cons (tr_tup (tra_cons (tr_str [103, 120]) (tra_cons (tr_str [104, 120]) (tra_cons tr_int tra_nil)))) tra_nil)))))))) (ts_one (tr_ret (tr_and (tr_Eq C (tr_call C (IH.o_202.mono (Nat.le_add_right _ 2)) V.g_202 V.d_202.kp (b_202 V) (tar_v (tr_var 4) tar_nil)) tr_int) (tr_one (tr_Is C (tr_call C (IH.o_196.mono (Nat.le_add_right _ 2)) V.g_196 V.d_196.kp (b_196 V) (tar_v (tr_var 4) (tar_v (tr_call C (IH.o_201.mono (Nat.le_add_right _ 2)) V.g_201 V.d_201.kp (b_201 V) (tar_v (tr_var 4) tar_nil)) tar_nil))) tr_bl))))))))))
theorem sc_215 : FnScope ["_law_script", "_law_k", "_law_draws_here", "_law_debts_here", "_law_rows", "_law_due", "_law_handed", "_law_found", "_law_going"] ["_law_script"] (defScope (top 37)) := ⟨rfl, rfl, rfl, by decide +kernel, rfl, by decide +kernel, by decide +kernel⟩
theorem ok_215 (V : EV K mg fd w) (IH : OKS P w K mg base fd k) : FnOk P w K mg base (L2N.CX P w) (3 * (k + 1)) (a_215 K) (fd 215) ["_law_script"] (spF (Gc K w) 1 (rf_215 (callF k))) :=
  fn_ok (P := P) (w := w) (G := Gc K w) (mg := mg) (base := base) (k := 3 * k + 2) (N := ["_law_script", "_law_k", "_law_draws_here", "_law_debts_here", "_law_rows", "_law_due", "_law_handed", "_law_found", "_law_going"]) (ps := ["_law_script"]) (m := mb_215 (callF k)) [] V.d_215 sc_215 (by rfl) fun cdv A outer s H E σ (C : Cok (cxF P w K mg base ["_law_script", "_law_k", "_law_draws_here", "_law_debts_here", "_law_rows", "_law_due", "_law_handed", "_law_found", "_law_going"] "law" (defScope (top 37)) (a_215 K) cdv A outer s H E) (pinG (Gc K w) [] σ) _ (3 * k + 2)) =>
    (ts_cons (tr_ifS (tt_not (tt_val (tr_call C (IH.o_214.mono (Nat.le_add_right _ 2)) V.g_214 V.d_214.kp (b_214 V) (tar_o (tr_call C (IH.o_6.mono (Nat.le_add_right _ 2)) V.g_6 V.d_6.kp (b_6 V) (tar_v (tr_var 0) (tar_v tr_int tar_nil))) tar_nil)))) (ts_one (tr_ret tr_bl)) ts_nil) (ts_cons (tr_for C (ti_range1 (tr_b_max C V.n_max rfl (tra_cons tr_int (tra_cons (tr_b_min C V.n_min rfl (tra_cons tr_int (tra_cons (tr_b_len C V.n_len rfl (tra_cons (tr_var 0) tra_nil)) tra_nil))) tra_nil))) V.n_range) (tg_nm 1 C.nd) (ts_cons (tr_set 2 C (tr_call C (IH.o_6.mono (Nat.le_add_right _ 2)) V.g_6 V.d_6.kp (b_6 V) (tar_v (tr_var 0) (tar_v (tr_var 1) tar_nil)))) (ts_one (tr_for C (ti_seq C (tr_lst (tra_cons (tr_call C (IH.o_204.mono (Nat.le_add_right _ 2)) V.g_204 V.d_204.kp (b_204 V) (tar_b 2 (tar_v tr_int tar_nil))) (tra_cons (tr_call C (IH.o_213.mono (Nat.le_add_right _ 2)) V.g_213 V.d_213.kp (b_213 V) (tar_b 2 (tar_v (tr_call C (IH.o_37.mono (Nat.le_add_right _ 2)) V.g_37 V.d_37.kp (b_37 V) (tar_b 2 (tar_v (tr_Add C tr_int (tr_call C (IH.o_7.mono (Nat.le_add_right _ 2)) V.g_7 V.d_7.kp (b_7 V) (tar_b 2 (tar_v tr_int tar_nil)))) tar_nil))) tar_nil))) tra_nil)))) (tg_nm 3 C.nd) (ts_cons (tr_set 4 C (tr_call C (IH.o_205.mono (Nat.le_add_right _ 2)) V.g_205 V.d_205.kp (b_205 V) (tar_v (tr_var 3) tar_nil))) (ts_cons (tr_set 5 C (tr_Sub C (tr_b_len C V.n_len rfl (tra_cons (tr_var 4) tra_nil)) (tr_call C (IH.o_212.mono (Nat.le_add_right _ 2)) V.g_212 V.d_212.kp (b_212 V) (tar_v (tr_var 4) tar_nil)))) (ts_cons (tr_set 6 C (tr_fr (tr_b_list C V.n_list rfl (tra_cons (tr_var 3) tra_nil)))) (ts_cons (tr_set 7 C (tr_call C (IH.o_201.mono (Nat.le_add_right _ 2)) V.g_201 V.d_201.kp (b_201 V) (tar_v (tr_var 6) tar_nil))) (ts_cons (tr_ifS (tt_peek (W' := _) (tt_w (tw_or (tt_NotEq C (tr_call C (IH.o_202.mono (Nat.le_add_right _ 2)) V.g_202 V.d_202.kp (b_202 V) (tar_v (tr_var 3) tar_nil)) (tr_var 5)) (tw_or (tt_not (tt_val (tr_isi .list C (tr_var 7) V.n_isinstance V.n_list (by rfl)))) (tw_or (tt_NotEq C (tr_b_len C V.n_len rfl (tra_cons (tr_var 7) tra_nil)) (tr_var 5)) (tw_or1 (tt_NotEq C (tr_var 6) (tr_var 3)))))))) (ts_one (tr_ret tr_bl)) ts_nil) (ts_cons (tr_ifS (tt_peek (W' := _) (tt_w (tw_or (tt_NotEq C (tr_var 7) (tr_b_sortedB C V.n_sorted rfl rfl (tra_cons (tr_var 7) tra_nil))) (tw_or (tt_IsNot C (tr_call C (IH.o_196.mono (Nat.le_add_right _ 2)) V.g_196 V.d_196.kp (b_196 V) (tar_v (tr_var 3) (tar_v (tr_var 7) tar_nil))) tr_bl) (tw_or1 (tt_NotEq C (tr_call C (IH.o_205.mono (Nat.le_add_right _ 2)) V.g_205 V.d_205.kp (b_205 V) (tar_v (tr_var 7) tar_nil)) (tr_var 4))))))) (ts_one (tr_ret tr_bl)) ts_nil) (ts_cons (tr_ifS (tt_peek (W' := _) (tt_NotEq C (tr_lc (own := [("_law_going", 8)]) C (ti_seq C (tr_var 7)) (blkOk_by (by rfl)) (fun _ _ _ _ _ => have ND := C.nd; (tg_nm 8 ND)) (fun _ _ _ _ _ C => (tts_one (tt_w (tw_or (tt_Eq C (tr_Ix C (tr_var 8) tr_int) (tr_Ix C (tr_var 8) tr_int)) (tw_or (tt_not (tt_val (tr_call C (IH.o_170.mono (Nat.le_add_right _ 2)) V.g_170 V.d_170.kp (b_170 V) (tar_v (tr_Ix C (tr_var 8) tr_int) tar_nil)))) (tw_or1 (tt_Lt C (tr_Ix C (tr_var 8) tr_int) tr_int))))))) (fun _ _ _ _ _ C => (tr_var 8))) (tr_lst tra_nil))) (ts_one (tr_ret tr_bl)) ts_nil) (ts_cons (tr_ifS (tt_NotEq C (tr_Eq C (tr_var 5) tr_int) (tr_Eq C (tr_var 4) (tr_lst tra_nil))) (ts_one (tr_ret tr_bl)) ts_nil) (ts_cons (tr_drop (tr_append 7 (tr_str [122, 122]))) (ts_one (tr_ifS (tt_NotEq C (tr_b_len C V.n_len rfl (tra_cons (tr_call C (IH.o_201.mono (Nat.le_add_right _ 2)) V.g_201 V.d_201.kp (b_201 V) (tar_v (tr_var 3) tar_nil)) tra_nil)) (tr_var 5)) (ts_one (tr_ret tr_bl)) ts_nil))))))))))))))) (ts_one (tr_ret tr_bl))))
end
end LW
namespace LW
open PySem PySem.Spec PyProof.Rows L2 TB
def d_0 : He.DefD := ⟨("is_within", none), "is_within", "is_within", defArgs (top 8), defBody (top 8), defScope (top 8), [], []⟩
def d_1 : He.DefD := ⟨("is_name", none), "is_name", "is_name", defArgs (top 9), defBody (top 9), defScope (top 9), [], []⟩
def d_6 : He.DefD := ⟨("_law_draws", none), "_law_draws", "_law_draws", defArgs (top 29), defBody (top 29), defScope (top 29), [], []⟩
def d_7 : He.DefD := ⟨("_law_draw", none), "_law_draw", "_law_draw", defArgs (top 28), defBody (top 28), defScope (top 28), [], []⟩
def d_37 : He.DefD := ⟨("_law_names", none), "_law_names", "_law_names", defArgs (top 30), defBody (top 30), defScope (top 30), [], []⟩
def d_54 : He.DefD := ⟨("are_two", none), "are_two", "are_two", defArgs (top 11), defBody (top 11), defScope (top 11), [], []⟩
def d_170 : He.DefD := ⟨("_law_whole", none), "_law_whole", "_law_whole", defArgs (top 34), defBody (top 34), defScope (top 34), [], []⟩
def d_191 : He.DefD := ⟨("is_going", none), "is_going", "is_going", defArgs (top 16), defBody (top 16), defScope (top 16), [], []⟩
def d_192 : He.DefD := ⟨("are_goings", none), "are_goings", "are_goings", defArgs (top 17), defBody (top 17), defScope (top 17), [], []⟩
def d_193 : He.DefD := ⟨("need_debts", none), "need_debts", "need_debts", defArgs (top 18), defBody (top 18), defScope (top 18), [], []⟩
def d_194 : He.DefD := ⟨("balanced", none), "balanced", "balanced", defArgs (top 19), defBody (top 19), defScope (top 19), [], []⟩
def d_196 : He.DefD := ⟨("settles", none), "settles", "settles", defArgs (top 20), defBody (top 20), defScope (top 20), [], []⟩
def d_197 : He.DefD := ⟨("most_lots", none), "most_lots", "most_lots", defArgs (top 21), defBody (top 21), defScope (top 21), [], []⟩
def d_198 : He.DefD := ⟨("lots_of", none), "lots_of", "lots_of", defArgs (top 22), defBody (top 22), defScope (top 22), [], []⟩
def d_199 : He.DefD := ⟨("need_few", none), "need_few", "need_few", defArgs (top 23), defBody (top 23), defScope (top 23), [], []⟩
def d_200 : He.DefD := ⟨("goings_of", none), "goings_of", "goings_of", defArgs (top 24), defBody (top 24), defScope (top 24), [], []⟩
def d_201 : He.DefD := ⟨("settled", none), "settled", "settled", defArgs (top 25), defBody (top 25), defScope (top 25), [], []⟩
def d_202 : He.DefD := ⟨("how_few", none), "how_few", "how_few", defArgs (top 26), defBody (top 26), defScope (top 26), [], []⟩
def d_204 : He.DefD := ⟨("_law_debts", none), "_law_debts", "_law_debts", defArgs (top 31), defBody (top 31), defScope (top 31), [], []⟩
def d_205 : He.DefD := ⟨("_law_balances", none), "_law_balances", "_law_balances", defArgs (top 32), defBody (top 32), defScope (top 32), [], []⟩
def d_212 : He.DefD := ⟨("_law_most_lots", none), "_law_most_lots", "_law_most_lots", defArgs (top 33), defBody (top 33), defScope (top 33), [], []⟩
def d_213 : He.DefD := ⟨("_law_rings", none), "_law_rings", "_law_rings", defArgs (top 35), defBody (top 35), defScope (top 35), [], []⟩
def d_214 : He.DefD := ⟨("_law_lots_right", none), "_law_lots_right", "_law_lots_right", defArgs (top 36), defBody (top 36), defScope (top 36), [], []⟩
def d_215 : He.DefD := ⟨("law", none), "law", "law", defArgs (top 37), defBody (top 37), defScope (top 37), [], []⟩
def di_TooMany : He.DefD := ⟨("TooMany", some "__init__"), "__init__", "TooMany.__init__", defArgs (inClass (top 5) 0), defBody (inClass (top 5) 0), defScope (inClass (top 5) 0), [], []⟩
def fn : List He.DefD := [d_0, d_1, d_6, d_7, d_37, d_54, d_170, d_191, d_192, d_193, d_194, d_196, d_197, d_198, d_199, d_200, d_201, d_202, d_204, d_205, d_212, d_213, d_214, d_215, di_TooMany]
def fa : List He.Fa := [.glo "is_within", .glo "is_name", .glo "_law_draws", .glo "_law_draw", .glo "_law_names", .glo "are_two", .glo "_law_whole", .glo "is_going", .glo "are_goings", .glo "need_debts", .glo "balanced", .glo "settles", .glo "most_lots", .glo "lots_of", .glo "need_few", .glo "goings_of", .glo "settled", .glo "how_few", .glo "_law_debts", .glo "_law_balances", .glo "_law_most_lots", .glo "_law_rings", .glo "_law_lots_right", .glo "law", .glo "NotNow", .glo "NoDebts", .glo "TooMany", .free "all", .free "bool", .free "dict", .free "int", .free "isinstance", .free "len", .free "list", .free "max", .free "min", .free "range", .free "sorted", .free "str", .free "sum", .free "tuple", .str "LETTERS" "abcdefghijklmnopqrstuvwxyz", .int "MOST_DEBTS" 200, .int "MOST_OWED" 1000000000, .int "MOST_UNEVEN" 8]
def ts : List He.Tab := []
def ex (K : PySem.W.Frag) : Bool := (raiseB K (He.ga K "NoDebts")) && (iniB K (He.ga K "TooMany") (He.ma K (He.ga K "TooMany") "__init__") "many") && (baseB K (He.ga K "NotNow"))
def loose0 : List Str := ["__name__", "TuckError", "NoForm", "NotNow", "NoDebts", "TooMany", "LETTERS", "is_within", "is_name", "are_two", "MOST_DEBTS", "MOST_OWED", "MOST_UNEVEN", "is_going", "are_goings", "need_debts", "balanced", "settles", "most_lots", "lots_of", "need_few", "goings_of", "settled", "how_few", "_law_draw", "_law_draws", "_law_names", "_law_debts", "_law_balances", "_law_most_lots"]
def loose1 : List Str := ["_law_whole", "_law_rings", "_law_lots_right"]
def loose : List Str := loose0 ++ loose1
abbrev R : PySem.W.OpenRow := PySem.W.OpenLaw.row PySem.Challenge.rw_tuckbook_k22_whole_fewest_goings
def as0 : List Nat := [2, 3, 89, 94, 180, 173, 185, 101, 209, 108, 113, 118, 123, 130, 135, 140, 147, 152, 159, 166, 192, 197, 202, 216, 221, 226, 49, 61, 80, 88, 93, 179, 172, 184, 100, 208, 107, 112, 117, 122]
def as1 : List Nat := [129, 134, 139, 146, 151, 158, 165, 191, 196, 201, 215, 220, 225, 48, 24, 60, 37, 79, 83, 84, 85, 86, 87, 90, 91, 92, 174, 175, 176, 177, 178, 167, 168, 169, 170, 171, 181, 182, 183, 95]
def as2 : List Nat := [96, 97, 98, 99, 203, 204, 205, 206, 207, 102, 103, 104, 105, 106, 109, 110, 111, 114, 115, 116, 119, 120, 121, 124, 125, 126, 127, 128, 131, 132, 133, 136, 137, 138, 141, 142, 143, 144, 145, 148]
def as3 : List Nat := [149, 150, 153, 154, 155, 156, 157, 160, 161, 162, 163, 164, 186, 187, 188, 189, 190, 193, 194, 195, 198, 199, 200, 210, 211, 212, 213, 214, 217, 218, 219, 222, 223, 224, 47, 23, 59, 36, 77, 78]
def as4 : List Nat := [22, 25, 35, 76, 71, 72, 73, 74, 75]
def asL : List Nat := as0 ++ (as1 ++ (as2 ++ (as3 ++ (as4))))
abbrev hk : PySem.W.Hook := TBH.hookA asL fa fn ts ex
def ob (s : PySem.W.SharedT) : He.AlT × Bool := TBH.obsA asL fa fn ts ex (HandSHeadRun.getT s)
theorem ob_eq (s : PySem.W.SharedT) : ob s = hk.obs s.abs := TBH.obsA_eq (HandSHeadRun.getT_eq s)
abbrev qv : Program := PySem.W.view R.prog [37]
theorem run (w : World) : HandSHeadRun.RunEq R qv hk ob 9000 loose w := by
  intro os
  kernel_rfl
section
variable {P : Program} {w : World} {K : PySem.W.Frag} {mg : Str → Option Value} {base : Heap} {fd : Nat → FuncData}
theorem fn_zero {a : Addr} {fdv : FuncData} {ps : List Str} {n : Nat} {f : Nat} : FnOk P w K mg base (L2N.CX P w) (3 * 0) a fdv ps (spF (Gc K w) n (callF 0 f)) :=
  ⟨fun vs H Q E ⟨_, _, _, _, _, _, _, _, h⟩ => h.elim, fun _ _ _ _ _ _ _ _ _ _ _ _ _ ⟨_, _, _, _, _, _, _, _, h⟩ => h.elim⟩
theorem ok_all (V : EV K mg fd w) : ∀ k, OKS P w K mg base fd k
  | 0 => ⟨fn_zero, fn_zero, fn_zero, fn_zero, fn_zero, fn_zero, fn_zero, fn_zero, fn_zero, fn_zero, fn_zero, fn_zero, fn_zero, fn_zero, fn_zero, fn_zero, fn_zero, fn_zero, fn_zero, fn_zero, fn_zero, fn_zero, fn_zero, fn_zero⟩
  | k + 1 => have IH := ok_all V k; ⟨ok_0 V IH, ok_1 V IH, ok_6 V IH, ok_7 V IH, ok_37 V IH, ok_54 V IH, ok_170 V IH, ok_191 V IH, ok_192 V IH, ok_193 V IH, ok_194 V IH, ok_196 V IH, ok_197 V IH, ok_198 V IH, ok_199 V IH, ok_200 V IH, ok_201 V IH, ok_202 V IH, ok_204 V IH, ok_205 V IH, ok_212 V IH, ok_213 V IH, ok_214 V IH, ok_215 V IH⟩
end
theorem facts {P : Program} {w : World} {K : PySem.W.Frag} {h : Heap} {mg : Str → Option Value} {f : Addr} (X : K.In h) (G : h.Ns mainGlobals mg) (hfa : mg ("law" : Str) = some (.ref f)) (c : He.SaysX fa fn ts [] ex w h K) :
    ∃ fd : FuncData, (∀ (s : Shared) (v : Value), BindsTo s fd ⟨[v], []⟩ [("_law_script", v)]) ∧ ∀ base : Heap, K.In base → base.Ns mainGlobals mg → FnOk P w K mg base (L2N.CX P w) 120 f fd ["_law_script"] (spF (Gc K w) 1 (callF 40 215)) := by
  have cd := c.t.d
  have cx := c.more
  simp only [ex, Bool.and_eq_true] at cx
  obtain ⟨fd0, F0⟩ := cd.def_ 0 (d := d_0) rfl
  obtain ⟨fd1, F1⟩ := cd.def_ 1 (d := d_1) rfl
  obtain ⟨fd6, F6⟩ := cd.def_ 2 (d := d_6) rfl
  obtain ⟨fd7, F7⟩ := cd.def_ 3 (d := d_7) rfl
  obtain ⟨fd37, F37⟩ := cd.def_ 4 (d := d_37) rfl
  obtain ⟨fd54, F54⟩ := cd.def_ 5 (d := d_54) rfl
  obtain ⟨fd170, F170⟩ := cd.def_ 6 (d := d_170) rfl
  obtain ⟨fd191, F191⟩ := cd.def_ 7 (d := d_191) rfl
  obtain ⟨fd192, F192⟩ := cd.def_ 8 (d := d_192) rfl
  obtain ⟨fd193, F193⟩ := cd.def_ 9 (d := d_193) rfl
  obtain ⟨fd194, F194⟩ := cd.def_ 10 (d := d_194) rfl
  obtain ⟨fd196, F196⟩ := cd.def_ 11 (d := d_196) rfl
  obtain ⟨fd197, F197⟩ := cd.def_ 12 (d := d_197) rfl
  obtain ⟨fd198, F198⟩ := cd.def_ 13 (d := d_198) rfl
  obtain ⟨fd199, F199⟩ := cd.def_ 14 (d := d_199) rfl
  obtain ⟨fd200, F200⟩ := cd.def_ 15 (d := d_200) rfl
  obtain ⟨fd201, F201⟩ := cd.def_ 16 (d := d_201) rfl
  obtain ⟨fd202, F202⟩ := cd.def_ 17 (d := d_202) rfl
  obtain ⟨fd204, F204⟩ := cd.def_ 18 (d := d_204) rfl
  obtain ⟨fd205, F205⟩ := cd.def_ 19 (d := d_205) rfl
  obtain ⟨fd212, F212⟩ := cd.def_ 20 (d := d_212) rfl
  obtain ⟨fd213, F213⟩ := cd.def_ 21 (d := d_213) rfl
  obtain ⟨fd214, F214⟩ := cd.def_ 22 (d := d_214) rfl
  obtain ⟨fd215, F215⟩ := cd.def_ 23 (d := d_215) rfl
  obtain ⟨fdiTooMany, FiTooMany⟩ := cd.def_ 24 (d := di_TooMany) rfl
  have e := hfa.symm.trans (He.glo_ok X G (cd.fact 23 (f := .glo "law") rfl))
  cases e
  have V : EV K mg (fun | 0 => fd0 | 1 => fd1 | 6 => fd6 | 7 => fd7 | 37 => fd37 | 54 => fd54 | 170 => fd170 | 191 => fd191 | 192 => fd192 | 193 => fd193 | 194 => fd194 | 196 => fd196 | 197 => fd197 | 198 => fd198 | 199 => fd199 | 200 => fd200 | 201 => fd201 | 202 => fd202 | 204 => fd204 | 205 => fd205 | 212 => fd212 | 213 => fd213 | 214 => fd214 | 215 => fd215 | 208 => fdiTooMany | _ => fd0) w := ⟨F0, He.glo_ok X G (cd.fact 0 (f := .glo "is_within") rfl), F1, He.glo_ok X G (cd.fact 1 (f := .glo "is_name") rfl), F6, He.glo_ok X G (cd.fact 2 (f := .glo "_law_draws") rfl), F7, He.glo_ok X G (cd.fact 3 (f := .glo "_law_draw") rfl), F37, He.glo_ok X G (cd.fact 4 (f := .glo "_law_names") rfl), F54, He.glo_ok X G (cd.fact 5 (f := .glo "are_two") rfl), F170, He.glo_ok X G (cd.fact 6 (f := .glo "_law_whole") rfl), F191, He.glo_ok X G (cd.fact 7 (f := .glo "is_going") rfl), F192, He.glo_ok X G (cd.fact 8 (f := .glo "are_goings") rfl), F193, He.glo_ok X G (cd.fact 9 (f := .glo "need_debts") rfl), F194, He.glo_ok X G (cd.fact 10 (f := .glo "balanced") rfl), F196, He.glo_ok X G (cd.fact 11 (f := .glo "settles") rfl), F197, He.glo_ok X G (cd.fact 12 (f := .glo "most_lots") rfl), F198, He.glo_ok X G (cd.fact 13 (f := .glo "lots_of") rfl), F199, He.glo_ok X G (cd.fact 14 (f := .glo "need_few") rfl), F200, He.glo_ok X G (cd.fact 15 (f := .glo "goings_of") rfl), F201, He.glo_ok X G (cd.fact 16 (f := .glo "settled") rfl), F202, He.glo_ok X G (cd.fact 17 (f := .glo "how_few") rfl), F204, He.glo_ok X G (cd.fact 18 (f := .glo "_law_debts") rfl), F205, He.glo_ok X G (cd.fact 19 (f := .glo "_law_balances") rfl), F212, He.glo_ok X G (cd.fact 20 (f := .glo "_law_most_lots") rfl), F213, He.glo_ok X G (cd.fact 21 (f := .glo "_law_rings") rfl), F214, He.glo_ok X G (cd.fact 22 (f := .glo "_law_lots_right") rfl), F215, He.glo_ok X G (cd.fact 23 (f := .glo "law") rfl), He.glo_ok X G (cd.fact 24 (f := .glo "NotNow") rfl), He.glo_ok X G (cd.fact 25 (f := .glo "NoDebts") rfl), He.glo_ok X G (cd.fact 26 (f := .glo "TooMany") rfl), raiseB_ok cx.1.1, FiTooMany, iniB_ok cx.1.2, baseB_ok cx.2, He.free_ok X G (cd.fact 27 (f := .free "all") rfl), He.free_ok X G (cd.fact 28 (f := .free "bool") rfl), He.free_ok X G (cd.fact 29 (f := .free "dict") rfl), He.free_ok X G (cd.fact 30 (f := .free "int") rfl), He.free_ok X G (cd.fact 31 (f := .free "isinstance") rfl), He.free_ok X G (cd.fact 32 (f := .free "len") rfl), He.free_ok X G (cd.fact 33 (f := .free "list") rfl), He.free_ok X G (cd.fact 34 (f := .free "max") rfl), He.free_ok X G (cd.fact 35 (f := .free "min") rfl), He.free_ok X G (cd.fact 36 (f := .free "range") rfl), He.free_ok X G (cd.fact 37 (f := .free "sorted") rfl), He.free_ok X G (cd.fact 38 (f := .free "str") rfl), He.free_ok X G (cd.fact 39 (f := .free "sum") rfl), He.free_ok X G (cd.fact 40 (f := .free "tuple") rfl), He.str_ok X G (cd.fact 41 (f := .str "LETTERS" "abcdefghijklmnopqrstuvwxyz") rfl), He.int_ok X G (cd.fact 42 (f := .int "MOST_DEBTS" 200) rfl), He.int_ok X G (cd.fact 43 (f := .int "MOST_OWED" 1000000000) rfl), He.int_ok X G (cd.fact 44 (f := .int "MOST_UNEVEN" 8) rfl)⟩
  have b := FunD.bindsA (ps := ["_law_script"]) F215 fun _ _ _ _ _ _ us hl => match us, hl with | [_], _ => rfl
  exact ⟨fd215, fun s v => b s [v] rfl, fun base _ _ => (ok_all V 40).o_215⟩
theorem sp_law {K : PySem.W.Frag} {w : World} (H : Hp) (a : Addr) (ns : List Int) (hl : ns.length ≤ 63) (hS : SqL K H a (ns.map V.int)) : spF (Gc K w) 1 (LW.callF 40 215) [.ref a] H (fun v _ => v = .bl true) fun _ _ _ => False := by
  refine ⟨H, add nil0 nil0, [(.fz, .scr ns)], rfl, Same.refl H, .cons (.fz (.scr hS)) .nil, fun a => by simp [add, nil0], fun a _ => rfl, ?_⟩
  rw [LW.law_true ns hl]
  intro v F' H' T' f s1 s2 ou o le di
  cases o with
  | fz r => cases r; rfl
end LW
open PySem PySem.W PySem.Calls PyProof.Rows
theorem PySem.Challenge.cw_tuckbook_k22_whole_fewest_goings_holds : PySem.Challenge.rw_tuckbook_k22_whole_fewest_goings.Holds := by
  w_on; o_law
  refine HandSHeadRun.head_any (r := LW.R) (q := LW.qv) (H := LW.hk) (ob := LW.ob) (M := 9000) (loose := LW.loose) (d := HandSHeadRun.topDef LW.R.prog 37) (kwd := []) LW.ob_eq
    (by kernel_rfl) (fun s => by kernel_rfl) LW.run (by kernel_rfl) (by kernel_rfl) (by kernel_rfl) (by rfl) (by first | assumption | decide +kernel) (by decide +kernel) ⟨rfl, rfl, rfl, rfl, rfl, by decide +kernel⟩ ?hw ?hc
  case hw => w_witness2
  case hc =>
    refine L2.walk_ofEw (l := PySem.Challenge.rw_tuckbook_k22_whole_fewest_goings) (n := 63) (k := 120) (x := "_law_script") (CX := fun w => L2N.CX PySem.Challenge.rw_tuckbook_k22_whole_fewest_goings.prog w) rfl (by decide) (by kernel_rfl) ⟨rfl, by decide, by decide⟩ ?F ?X
    case X =>
      intro w H s e s' z
      obtain ⟨_, _, _, _, _, _, _, _, _, _, _, _, z⟩ := z
      exact z
    intro w mg fa h Y G hmg0
    obtain ⟨K, KX, c⟩ := Y
    have hmg : mg ("law" : PySem.Str) = some (.ref fa) := by
      have e : (HandSHeadRun.topDef LW.R.prog 37).name = ("law" : PySem.Str) := by kernel_rfl
      rw [← e]
      exact hmg0
    obtain ⟨fd, hb, hF⟩ := LW.facts (P := (PySem.Challenge.rw_tuckbook_k22_whole_fewest_goings).prog) (w := w) KX G hmg c
    exact ⟨K, fd, _, KX, hb, fun H a ns hl hS => LW.sp_law H a ns hl hS, hF⟩
