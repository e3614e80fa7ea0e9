import PyProof.Rows.All
import Wide.All
import OpenK.AllK
import Wide.FinOn
import HandS.ForMost
import HandS.ForExc
import KE.KDictKeyed
import HandS.Walk
import HandS.ExcCtx
import HandS.Defaults
import HandS.More
import HandS.Wide
import HandS.IsInst
import HandS.TupAny
import HandS.TupMul
import HandS.Style
import HandS.Conv
import HandS.SortInts
import KE.KStateDown
import HandS.HeadEnd
import KE.SortData
import KE.DataCmp
import KE.DataMinMax
import KE.KDictCopyH
import KE.KDictSum
import HandS.TupSets
import HandS.Deep
import HandS.Flow
import HandS.Strs
import HandS.ListItems
import KE.KDictItemsList
import KE.KTupSum
import PyProof.AssignAttr
import KE.GoesEnum
import HandS.OwnIter
import PyProof.Rows.StrInSeq3
import HandS.SetFor
import HandS.HotCalls
import KE.KExcIs
import HandS.ExcIs
import HandS.ExcField
import HandS.ExcInitHot
import HandS.NamedTupSort
import KE.KCallOwn
import HandS.ExcInit
import HandS.WideBits
import PyProof.Rows.ExtendIn
import HandS.WordsDict
import HandS.Small
import KE.GoesMore
import HandS.Text
import KE.IntTextLaws
import HandS.RaiseMore
import HandS.Head2
import HandS.HeadHook4
import Lean
import HandS.Head0
import HandS.Head1
import HandS.HeadHook1
import HandS.HeadHook2
import HandS.HeadHook3
import PySem.Challenge.RW_tuckbook_k62_books_as_texts
set_option Elab.async false
set_option linter.all false
set_option maxRecDepth 100000
set_option maxHeartbeats 0
namespace TB
/-- data -/
inductive D where
  | non | bl (b : Bool) | int (i : Int) | str (s : List Nat)
  | scr (xs : List Int) | tup (xs : List D) | lst (xs : List D) | dic (kvs : List (D × D)) | dit (kvs : List (D × D)) | ldc (kvs : List (D × D)) | ob (c : Nat) (fs : List D) | fn (k : Nat)
  deriving Inhabited
/-- who may change it: fz nobody; else it is owned by the slot (or the temporary) that holds it -/
inductive Kd where
  | fz | li (k : Kd) | dK (k : Kd) | dT (k : Kd) | dR (ks : List Kd) | dN | ob (ks : List Kd)
  deriving Inhabited
abbrev KD := Kd × D
abbrev Slot := Option KD
/-- an exception: its class, what its field (or its text) is -/
structure Xc where
  c : Nat
  arg : D
inductive R (α : Type) where
  | ok (a : α) (S : List Slot) | exc (x : Xc) (S : List Slot) | bad
abbrev M (α : Type) := List Slot → R α
def R.bind {α β : Type} : R α → (α → M β) → R β
  | .ok a S, f => f a S
  | .exc x S, _ => .exc x S
  | .bad, _ => .bad
def M.pure {α : Type} (a : α) : M α := fun S => .ok a S
def M.bind {α β : Type} (m : M α) (f : α → M β) : M β := fun S => (m S).bind f
abbrev E := M KD
/-- a frozen slot -/
def eVar (i : Nat) : E := fun S => match S[i]? with
  | some (some (.fz, d)) => .ok (.fz, d) S
  | _ => .bad
/-- a slot moved out -/
def eMv (i : Nat) : E := fun S => match S[i]? with
  | some (some kd) => .ok kd (S.set i none)
  | _ => .bad
def eCon (d : D) : E := fun S => .ok (.fz, d) S
/-- what is owned is frozen from here on -/
def eFr (e : E) : E := M.bind e fun kd => M.pure (.fz, kd.2)
/-- data without references -/
def D.flat : D → Bool
  | .non => true
  | .bl _ => true
  | .int _ => true
  | .str _ => true
  | _ => false
def frz (s : Slot) : Slot := s.map fun kd => (.fz, kd.2)
/-- a look at owned things that gives flat data -/
def ePeek (e : E) : E := fun S => match e (S.map frz) with
  | .ok (_, d) _ => if d.flat then .ok (.fz, d) S else .bad
  | _ => .bad
/-- frozen data of an expression: what it makes is frozen -/
def eDat (e : E) : M D := M.bind e fun kd => M.pure kd.2
def eAll : List E → M (List D)
  | [] => M.pure []
  | e :: es => M.bind (eDat e) fun d => M.bind (eAll es) fun ds => M.pure (d :: ds)
/-- what an operation gives; no answer: not promised -/
def ofO : Option KD → E
  | some kd => M.pure kd
  | none => fun _ => .bad
def eApp (f : List D → Option KD) (es : List E) : E := M.bind (eAll es) fun ds => ofO (f ds)
def eOp (f : D → D → Option KD) (a b : E) : E := M.bind (eDat a) fun x => M.bind (eDat b) fun y => ofO (f x y)
def eUn (f : D → Option KD) (a : E) : E := M.bind (eDat a) fun x => ofO (f x)
def eBool (e : E) : M Bool := M.bind e fun kd => match kd.2 with
  | .bl b => M.pure b
  | _ => fun _ => .bad
def eAnd (a b : E) : E := M.bind (eBool a) fun c => if c then b else M.pure (.fz, .bl false)
def eOr (a b : E) : E := M.bind (eBool a) fun c => if c then M.pure (.fz, .bl true) else b
def eNot (a : E) : E := M.bind (eBool a) fun c => M.pure (.fz, .bl (!c))
abbrev T := M Bool
def tAnd (a b : T) : T := M.bind a fun c => if c then b else M.pure false
def tOr (a b : T) : T := M.bind a fun c => if c then M.pure true else b
def tNot (a : T) : T := M.bind a fun c => M.pure (!c)
/-- a test that looks at owned things -/
def tPeek (c : T) : T := fun S => match c (S.map frz) with
  | .ok b _ => .ok b S
  | _ => .bad
def eIf (c : T) (a b : E) : E := M.bind c fun x => if x then a else b
/-- a < b < c -/
def chain2 (g : D → D → Option KD) (c : E) (y : D) : Option KD → E
  | some (.fz, .bl b) => if b then M.bind (eDat c) fun z => ofO (g y z) else M.pure (.fz, .bl false)
  | _ => fun _ => .bad
def eChain (f g : D → D → Option KD) (a b c : E) : E := M.bind (eDat a) fun x => M.bind (eDat b) fun y => chain2 g c y (f x y)
def sizeMax : Nat := 16777216
def fTup (ds : List D) : Option KD := if ds.length ≤ sizeMax then some (.fz, .tup ds) else none
def fLst (ds : List D) : Option KD := if ds.length ≤ sizeMax then some (.li .fz, .lst ds) else none
/-- the items of what is walked -/
def itemsOf (d : D) : Option (List D) := match d with
  | .lst xs => some xs
  | .tup xs => some xs
  | _ => none
abbrev It := M (List D)
def itSeq (e : E) : It := M.bind (eDat e) fun d => match itemsOf d with
  | some xs => M.pure xs
  | none => fun _ => .bad
/-- a text, sign by sign -/
def itStr (e : E) : It := M.bind (eDat e) fun d => match d with
  | .str s => M.pure (s.map fun c => .str [c])
  | _ => fun _ => .bad
def rangeL (lo : Int) (n : Nat) : List D := (List.range n).map fun (i : Nat) => D.int (lo + (i : Int))
/-- (naturals on the left: what is compared so does not run off by itself) -/
def limN : Nat := 4611686018427387904
def itRange1 (e : E) : It := M.bind (eDat e) fun d => match d with
  | .int j => if j.natAbs < limN then M.pure (rangeL 0 j.toNat) else fun _ => .bad
  | _ => fun _ => .bad
def itRange2 (a b : E) : It := M.bind (eDat a) fun x => M.bind (eDat b) fun y => match x, y with
  | .int i, .int j => if i.natAbs < limN ∧ j.natAbs < limN then M.pure (rangeL i (j - i).toNat) else fun _ => .bad
  | _, _ => fun _ => .bad
inductive Tg where
  | nm (i : Nat) | tp (is : List Tg)
mutual
def Tg.put : Tg → D → List Slot → Option (List Slot)
  | .nm i, d, S => if i < S.length then some (S.set i (some (.fz, d))) else none
  | .tp is, d, S => match d with
    | .tup xs => Tg.puts is xs S
    | _ => none
def Tg.puts : List Tg → List D → List Slot → Option (List Slot)
  | [], [], S => some S
  | g :: gs, d :: ds, S => (Tg.put g d S).bind fun S => Tg.puts gs ds S
  | _, _, _ => none
end
inductive Fl where
  | nx | rt (r : KD) | bk | ct
abbrev St := M Fl
def sNx : St := M.pure .nx
def sSet (i : Nat) (e : E) : St := M.bind e fun kd S => if i < S.length then .ok .nx (S.set i (some kd)) else .bad
/-- a new tuple laid out -/
def sPut (g : Tg) (e : E) : St := M.bind (eDat e) fun d S => match g.put d S with
  | some S' => .ok .nx S'
  | none => .bad
def sSeq (a b : St) : St := M.bind a fun f => match f with
  | .nx => b
  | f => M.pure f
def sRet (e : E) : St := M.bind e fun kd => M.pure (.rt kd)
def sDrop (e : E) : St := M.bind e fun _ => M.pure .nx
def sIf (c : T) (a b : St) : St := M.bind c fun x => if x then a else b
def sWhile : Nat → T → St → St
  | 0, _, _ => fun _ => .bad
  | n + 1, c, b => M.bind c fun x => if x then M.bind b fun f => match f with
      | .nx => sWhile n c b
      | .ct => sWhile n c b
      | .bk => M.pure .nx
      | .rt r => M.pure (.rt r)
    else M.pure .nx
def loop (g : Tg) (b : St) : List D → St
  | [] => M.pure .nx
  | d :: ds => fun S => match g.put d S with
    | none => .bad
    | some S => (b S).bind fun f => match f with
      | .nx => loop g b ds
      | .ct => loop g b ds
      | .bk => M.pure .nx
      | .rt r => M.pure (.rt r)
def sFor (it : It) (g : Tg) (b : St) : St := M.bind it fun ds => loop g b ds
def wipeS (S : List Slot) : List Nat → List Slot
  | [] => S
  | v :: vs => (wipeS S vs).set v none
/-- the own slots as they were ahead -/
def backS (S0 : List Slot) : List Slot → List Nat → List Slot
  | S, [] => S
  | S, v :: vs => backS S0 (S.set v (S0.getD v none)) vs
def noDup : List Nat → Bool
  | [] => true
  | v :: vs => !vs.contains v && noDup vs
mutual
def Tg.sl : Tg → List Nat
  | .nm i => [i]
  | .tp ts => Tg.sls ts
def Tg.sls : List Tg → List Nat
  | [] => []
  | t :: ts => Tg.sl t ++ Tg.sls ts
end
def cLoop (g : Tg) (vs : List Nat) (c : T) (e : E) : List D → List D → M (List D)
  | [], acc => M.pure acc
  | d :: ds, acc => fun S => match g.put d S with
    | none => .bad
    | some S => (c S).bind fun b => if b then M.bind (eDat e) fun y S => if acc.length < sizeMax then cLoop g vs c e ds (acc ++ [y]) (wipeS S vs) else .bad
      else fun S => cLoop g vs c e ds acc (wipeS S vs)
def fzAt (S : List Slot) (v : Nat) : Bool := match S[v]? with
  | some none => true
  | some (some (.fz, _)) => true
  | _ => false
def eLc (it : It) (g : Tg) (vs : List Nat) (c : T) (e : E) : E := M.bind it fun ds S0 => if (vs.all (fzAt S0) && noDup vs && g.sl.all vs.contains) = true then
    match cLoop g vs c e ds [] (wipeS S0 vs) with
    | .ok acc S => .ok (.li .fz, .lst acc) (backS S0 S vs)
    | _ => .bad
  else .bad
def tTrue : T := M.pure true
def normIx (n : Nat) (i : Int) : Option Nat := if 0 ≤ i then (if i < n then some i.toNat else none) else if -(n : Int) ≤ i then some (i + n).toNat else none
def kz (d : D) : Option KD := some (.fz, d)
/-- below 2^500 -/
abbrev small (i : Int) : Prop := i.natAbs < 3273390607896141870013189696827599152216642046043064789483291368096133796404674554883270092325904157150886684127560071009217256545885393053328527589376
def fAdd : D → D → Option KD
  | .int i, .int j => kz (.int (i + j))
  | .str a, .str b => if a.length + b.length ≤ sizeMax then kz (.str (a ++ b)) else none
  | .lst a, .lst b => if a.length + b.length ≤ sizeMax then some (.li .fz, .lst (a ++ b)) else none
  | .tup a, .tup b => if a.length + b.length ≤ sizeMax then kz (.tup (a ++ b)) else none
  | _, _ => none
def fSub : D → D → Option KD
  | .int i, .int j => kz (.int (i - j))
  | _, _ => none
def fMul : D → D → Option KD
  | .int i, .int j => if small i ∧ small j then kz (.int (i * j)) else none
  | .tup a, .int j => if a ≠ [] ∧ 2 ≤ j ∧ j.natAbs ≤ 1000 ∧ a.length ≤ 1000 then kz (.tup (List.replicate j.toNat a).flatten) else none
  | .lst a, .int j => if 0 ≤ j ∧ j.natAbs ≤ 1000 ∧ a.length ≤ 1000 then some (.li .fz, .lst (List.replicate j.toNat a).flatten) else none
  | _, _ => none
def fMod : D → D → Option KD
  | .int i, .int j => if 0 < j then kz (.int (i % j)) else none
  | _, _ => none
def fDiv : D → D → Option KD
  | .int i, .int j => if 0 < j ∧ small j then kz (.int (i / j)) else none
  | _, _ => none
def fPow : D → D → Option KD
  | .int i, .int j => if 0 ≤ j ∧ j.natAbs ≤ 1000000 ∧ i.natAbs < 2 ^ 64 then kz (.int (i ^ j.toNat)) else none
  | _, _ => none
def fLt : D → D → Option KD
  | .int i, .int j => kz (.bl (decide (i < j)))
  | .str a, .str b => kz (.bl (decide (a < b)))
  | _, _ => none
def fLe : D → D → Option KD
  | .int i, .int j => kz (.bl (decide (i ≤ j)))
  | .str a, .str b => kz (.bl (!decide (b < a)))
  | _, _ => none
def fGt : D → D → Option KD
  | .int i, .int j => kz (.bl (decide (j < i)))
  | .str a, .str b => kz (.bl (decide (b < a)))
  | _, _ => none
def fGe : D → D → Option KD
  | .int i, .int j => kz (.bl (decide (j ≤ i)))
  | .str a, .str b => kz (.bl (!decide (a < b)))
  | _, _ => none
def fIx : D → D → Option KD
  | .scr xs, .int i => (normIx xs.length i).bind fun n => xs[n]?.bind fun j => kz (.int j)
  | .lst xs, .int i => (normIx xs.length i).bind fun n => xs[n]?.bind kz
  | .tup xs, .int i => (normIx xs.length i).bind fun n => xs[n]?.bind kz
  | .str s, .int i => if s.length ≤ sizeMax then (normIx s.length i).bind fun n => s[n]?.bind fun c => kz (.str [c]) else none
  | _, _ => none
def fLen : List D → Option KD
  | [.scr xs] => kz (.int xs.length)
  | [.lst xs] => kz (.int xs.length)
  | [.tup xs] => kz (.int xs.length)
  | [.str s] => if s.length ≤ sizeMax then kz (.int s.length) else none
  | _ => none
def fIsN : D → D → Option KD
  | x, .non => kz (.bl (match x with | .non => true | _ => false))
  | _, _ => none
def fIsB : D → D → Option KD
  | .bl a, .bl b => kz (.bl (decide (a = b)))
  | _, _ => none
def fIntB : List D → Option KD
  | [.int i] => kz (.int i)
  | [.bl b] => kz (.int (if b then 1 else 0))
  | _ => none
def fMin2 : List D → Option KD
  | [.int i, .int j] => kz (.int (if j < i then j else i))
  | _ => none
def fMax2 : List D → Option KD
  | [.int i, .int j] => kz (.int (if j > i then j else i))
  | _ => none
def fList : List D → Option KD
  | [.lst xs] => some (.li .fz, .lst xs)
  | [.tup xs] => some (.li .fz, .lst xs)
  | [.dic kvs] => some (.li .fz, .lst (kvs.map (·.1)))
  | _ => none
def fTuple : List D → Option KD
  | [.lst xs] => kz (.tup xs)
  | [.tup xs] => kz (.tup xs)
  | _ => none
def boolsOf : List D → Option (List Bool)
  | [] => some []
  | .bl b :: ds => (boolsOf ds).map (b :: ·)
  | _ => none
def fAllB : List D → Option KD
  | [.lst xs] => (boolsOf xs).bind fun bs => kz (.bl (bs.all id))
  | _ => none
/-- c in a text, c one sign -/
def fInS : D → D → Option KD
  | .str [c], .str s => kz (.bl (decide (c ∈ s)))
  | _, _ => none
def fNotInS : D → D → Option KD
  | .str [c], .str s => kz (.bl (!decide (c ∈ s)))
  | _, _ => none
mutual
def D.eqv : D → D → Bool
  | .non, .non => true
  | .bl a, .bl b => a == b
  | .bl a, .int j => (if a then 1 else 0) == j
  | .int i, .bl b => i == (if b then 1 else 0)
  | .int i, .int j => i == j
  | .str a, .str b => a == b
  | .lst xs, .lst ys => D.eqvs xs ys
  | .tup xs, .tup ys => D.eqvs xs ys
  | _, _ => false
def D.eqvs : List D → List D → Bool
  | [], [] => true
  | x :: xs, y :: ys => D.eqv x y && D.eqvs xs ys
  | _, _ => false
end
mutual
/-- made of numbers, truths, None, texts, lists, tuples, at most n within one another -/
def D.lay : Nat → D → Bool
  | _, .non => true
  | _, .bl _ => true
  | _, .int _ => true
  | _, .str s => s.all (· < 1114112)
  | n + 1, .lst xs => D.lays n xs
  | n + 1, .tup xs => D.lays n xs
  | _, _ => false
def D.lays : Nat → List D → Bool
  | _, [] => true
  | n, x :: xs => D.lay n x && D.lays n xs
end
def eqOk (x y : D) : Bool := (x.flat && y.flat) || (x.lay 60 && y.lay 60)
def fEq (x y : D) : Option KD := if eqOk x y = true then kz (.bl (D.eqv x y)) else none
def fNe (x y : D) : Option KD := if eqOk x y = true then kz (.bl (!D.eqv x y)) else none
/-- x in xs, xs of flat data -/
def fIn (x y : D) : Option KD := match itemsOf y with
  | some ys => if x.flat && ys.all D.flat then kz (.bl (ys.any fun y => D.eqv y x)) else none
  | none => none
def fNotIn (x y : D) : Option KD := match itemsOf y with
  | some ys => if x.flat && ys.all D.flat then kz (.bl (!ys.any fun y => D.eqv y x)) else none
  | none => none
def fOr (f g : D → D → Option KD) (x y : D) : Option KD := match f x y with
  | some a => some a
  | none => g x y
def fInA : D → D → Option KD := fOr fIn fInS
def fNotInA : D → D → Option KD := fOr fNotIn fNotInS
def fIsA : D → D → Option KD := fOr fIsN fIsB
inductive Ty where
  | int | bool | str | list | tuple
def D.isTy : Ty → D → Option Bool
  | .int, .int _ => some true
  | .int, .bl _ => some true
  | .bool, .bl _ => some true
  | .str, .str _ => some true
  | .list, .lst _ => some true
  | .tuple, .tup _ => some true
  | _, .scr _ => none
  | _, .dic _ => none
  | _, .dit _ => none
  | _, .ldc _ => none
  | _, .ob _ _ => none
  | _, .fn _ => none
  | _, _ => some false
def fIsi (t : Ty) (d : D) : Option KD := (d.isTy t).bind fun b => kz (.bl b)
def eIsi (t : Ty) (e : E) : E := eUn (fIsi t) e
def ixS (n d : Nat) : Option Int → Nat
  | none => d
  | some v => if v < 0 then (v + (n : Int)).toNat else min v.toNat n
def cutL {α : Type} (xs : List α) (lo hi : Option Int) : List α := (xs.drop (ixS xs.length 0 lo)).take (ixS xs.length xs.length hi - ixS xs.length 0 lo)
def fSl (d : D) (lo hi : Option Int) : Option KD := match d with
  | .lst xs => some (.li .fz, .lst (cutL xs lo hi))
  | .tup xs => kz (.tup (cutL xs lo hi))
  | .str s => if s.length ≤ sizeMax then kz (.str (cutL s lo hi)) else none
  | _ => none
def eOpt : Option E → M (Option Int)
  | none => M.pure none
  | some e => M.bind (eDat e) fun d => match d with
    | .int i => M.pure (some i)
    | _ => fun _ => .bad
def eSl (a : E) (lo hi : Option E) : E := M.bind (eDat a) fun x => M.bind (eOpt lo) fun l => M.bind (eOpt hi) fun h => ofO (fSl x l h)
def intsOf : List D → Option (List Int)
  | [] => some []
  | .int i :: ds => (intsOf ds).map (i :: ·)
  | _ => none
def strsOf : List D → Option (List (List Nat))
  | [] => some []
  | .str i :: ds => (strsOf ds).map (i :: ·)
  | _ => none
def sortI (xs : List Int) : List Int := xs.mergeSort fun a b => decide (a ≤ b)
def sortT (xs : List (List Nat)) : List (List Nat) := xs.mergeSort fun a b => !decide (b < a)
def fSorted : List D → Option KD
  | [.lst xs] => match intsOf xs with
    | some is => some (.li .fz, .lst ((sortI is).map D.int))
    | none => match strsOf xs with
      | some ss => if ss.length < 64 then some (.li .fz, .lst ((sortT ss).map D.str)) else none
      | none => none
  | _ => none
def joinD (s : List Nat) : List (List Nat) → List Nat
  | [] => []
  | [p] => p
  | p :: q :: r => p ++ (s ++ joinD s (q :: r))
def fJoin (s : List Nat) (d : D) : Option KD := match d with
  | .lst xs => (strsOf xs).bind fun ss => if (ss.map (·.length)).sum + ss.length * s.length ≤ sizeMax then kz (.str (joinD s ss)) else none
  | _ => none
def eJoin (a b : E) : E := M.bind (eDat a) fun x => match x with
  | .str s => M.bind (eDat b) fun y => ofO (fJoin s y)
  | _ => fun _ => .bad
/-- a look at owned things that gives a new list of flat data -/
def ePeekL (e : E) : E := fun S => match e (S.map frz) with
  | .ok (.li .fz, .lst ds) _ => if ds.all D.flat then .ok (.li .fz, .lst ds) S else .bad
  | _ => .bad
/-- list(range(n)) -/
def eLRg1 (a : E) : E := M.bind (eDat a) fun d => match d with
  | .int j => if j.natAbs ≤ sizeMax then M.pure (.li .fz, .lst (rangeL 0 j.toNat)) else fun _ => .bad
  | _ => fun _ => .bad
/-- the own list of slot i -/
def ownL (S : List Slot) (i : Nat) : Option (List D) := match S[i]? with
  | some (some (.li .fz, .lst xs)) => some xs
  | _ => none
def hasL (i : Nat) : M Unit := fun S => match ownL S i with
  | some _ => .ok () S
  | none => .bad
/-- the own dict of slot i -/
def ownK (S : List Slot) (i : Nat) : Option (List (D × D)) := match S[i]? with
  | some (some (.dK .fz, .dic xs)) => some xs
  | _ => none
def hasK (i : Nat) : M Unit := fun S => match ownK S i with
  | some _ => .ok () S
  | none => .bad
/-- xs[k] = e -/
def sSetIx (i : Nat) (k e : E) : St := M.bind (eDat e) fun y => M.bind (hasL i) fun _ => M.bind (eDat k) fun x S => match ownL S i, x with
  | some xs, .int j => match normIx xs.length j with
    | some n => .ok .nx (S.set i (some (.li .fz, .lst (xs.set n y))))
    | none => .bad
  | _, _ => .bad
/-- xs[k] of an own list: its items are frozen -/
def eIxO (i : Nat) (k : E) : E := M.bind (hasL i) fun _ => M.bind (eDat k) fun x S => match ownL S i, x with
  | some xs, .int j => match (normIx xs.length j).bind fun n => xs[n]? with
    | some d => .ok (.fz, d) S
    | none => .bad
  | _, _ => .bad
/-- the slot i, frozen where it stands -/
def eFzV (i : Nat) : E := fun S => match S[i]? with
  | some (some (_, d)) => .ok (.fz, d) (S.set i (some (.fz, d)))
  | _ => .bad
/-- xs.m(..): what comes, what becomes of xs -/
def eMth (f : List D → List D → Option (D × List D)) (i : Nat) (es : List E) : E := M.bind (hasL i) fun _ => M.bind (eAll es) fun ds S => match ownL S i with
  | some xs => match f xs ds with
    | some (r, ys) => .ok (.fz, r) (S.set i (some (.li .fz, .lst ys)))
    | none => .bad
  | none => .bad
def fAppend : List D → List D → Option (D × List D)
  | xs, [y] => if xs.length < sizeMax then some (.non, xs ++ [y]) else none
  | _, _ => none
/-- xs[a:b] = ys -/
def sSetSl (i : Nat) (a b e : E) : St := M.bind (eDat e) fun y => M.bind (hasL i) fun _ => M.bind (eDat a) fun p => match p with
  | .int l => M.bind (eDat b) fun q => match q with
    | .int h => match y with
      | .lst ys => fun S => match ownL S i with
        | some xs => if 0 ≤ l ∧ l ≤ h ∧ l ≤ xs.length ∧ xs.length + ys.length ≤ sizeMax then .ok .nx (S.set i (some (.li .fz, .lst (xs.take l.toNat ++ ys ++ xs.drop h.toNat)))) else .bad
        | none => .bad
      | _ => fun _ => .bad
    | _ => fun _ => .bad
  | _ => fun _ => .bad
/-- xs[a:b] of an own list -/
def eSlO (i : Nat) (lo hi : Option E) : E := M.bind (hasL i) fun _ => M.bind (eOpt lo) fun l => M.bind (eOpt hi) fun h S => match ownL S i with
  | some xs => .ok (.li .fz, .lst (cutL xs l h)) S
  | none => .bad
/-- {} -/
def eDnew : E := M.pure (.dK .fz, .dic [])
def isKey : D → Bool
  | .int _ => true
  | .str _ => true
  | _ => false
def putD (kvs : List (D × D)) (k v : D) : List (D × D) := if (kvs.any fun p => D.eqv p.1 k) = true then kvs.map (fun p => if D.eqv p.1 k = true then (p.1, v) else p) else kvs ++ [(k, v)]
def valD (kvs : List (D × D)) (k : D) : Option D := (kvs.find? fun p => D.eqv p.1 k).map (·.2)
def fNotInD : D → D → Option KD
  | x, .dic kvs => if isKey x = true then kz (.bl (!(valD kvs x).isSome)) else none
  | _, _ => none
/-- d[k] = e -/
def sDput (i : Nat) (k e : E) : St := M.bind (eDat e) fun y => M.bind (hasK i) fun _ => M.bind (eDat k) fun x S => match ownK S i with
  | some kvs => if isKey x = true ∧ kvs.length < sizeMax then .ok .nx (S.set i (some (.dK .fz, .dic (putD kvs x y)))) else .bad
  | none => .bad
inductive FR where
  | ret (r : KD) (outs : List KD) | exc (x : Xc) (outs : List KD) | bad
abbrev Fn := List KD → FR
def Kd.isF : Kd → Bool
  | .fz => true
  | _ => false
/-- what stands in the owned parameters' slots at the end -/
def outsOf : List KD → List Slot → Option (List KD)
  | [], _ => some []
  | (k, _) :: as, s :: S => if k.isF then outsOf as S else match s with
    | some kd => if kd.1.isF then none else (outsOf as S).map (kd :: ·)
    | none => none
  | _ :: _, [] => none
/-- the owned arguments stand in slots that the body leaves to them -/
def pinned (pk : List Nat) : Nat → List KD → Bool
  | _, [] => true
  | i, (k, _) :: as => (k.isF || pk.contains i) && pinned pk (i + 1) as
def frOf (as : List KD) (r : KD) (S : List Slot) : FR := match outsOf as S with
  | some o => .ret r o
  | none => .bad
def runF (n : Nat) (pk : List Nat) (body : St) : Fn := fun as => if pinned pk 0 as = true then match body (as.map some ++ List.replicate (n - as.length) none) with
    | .ok (.rt r) S => frOf as r S
    | .ok .nx S => frOf as (.fz, .non) S
    | .exc x S => (match outsOf as S with | some o => .exc x o | none => .bad)
    | _ => .bad
  else .bad
/-- an argument: frozen data, an owned temporary, a slot lent -/
inductive Ar where
  | v (e : E) | o (e : E) | b (i : Nat)
inductive AV where
  | v (d : D) | o (kd : KD) | b (i : Nat)
def arEv : List Ar → M (List AV)
  | [] => M.pure []
  | .v e :: as => M.bind (eDat e) fun d => M.bind (arEv as) fun r => M.pure (.v d :: r)
  | .o e :: as => M.bind e fun kd => M.bind (arEv as) fun r => if kd.1.isF then fun _ => .bad else M.pure (.o kd :: r)
  | .b i :: as => fun S => match S[i]? with
    | some (some _) => M.bind (arEv as) (fun r => M.pure (.b i :: r)) S
    | _ => .bad
/-- the arguments as the callee has them; lent slots are empty meanwhile -/
def arIn : List AV → List Slot → Option (List KD × List Slot)
  | [], S => some ([], S)
  | .v d :: as, S => (arIn as S).map fun r => ((.fz, d) :: r.1, r.2)
  | .o kd :: as, S => (arIn as S).map fun r => (kd :: r.1, r.2)
  | .b i :: as, S => match S[i]? with
    | some (some kd) => if kd.1.isF then none else (arIn as (S.set i none)).map fun r => (kd :: r.1, r.2)
    | _ => none
/-- lent slots come back -/
def arOut : List AV → List KD → List Slot → Option (List Slot)
  | [], [], S => some S
  | .v _ :: as, os, S => arOut as os S
  | .o _ :: as, _ :: os, S => arOut as os S
  | .b i :: as, o :: os, S => arOut as os (S.set i (some o))
  | _, _, _ => none
def eCall (F : Fn) (as : List Ar) : E := M.bind (arEv as) fun vs S => match arIn vs S with
  | none => .bad
  | some (ks, S1) => match F ks with
    | .ret r os => (match arOut vs os S1 with | some S2 => .ok r S2 | none => .bad)
    | .exc x os => (match arOut vs os S1 with | some S2 => .exc x S2 | none => .bad)
    | .bad => .bad
end TB
namespace TB
mutual
def D.lt : D → D → Bool
  | .bl a, .bl b => !a && b
  | .int i, .int j => decide (i < j)
  | .str a, .str b => decide (a < b)
  | .tup xs, .tup ys => D.lts xs ys
  | _, _ => false
def D.lts : List D → List D → Bool
  | x :: xs, y :: ys => if D.eqv x y = true then D.lts xs ys else D.lt x y
  | [], _ :: _ => true
  | _, _ => false
end
def D.isTup : D → Bool
  | .tup _ => true
  | _ => false
end TB
namespace TB
mutual
/-- numbers, truths, texts, None, tuples of such -/
def D.imm : D → Bool
  | .non => true
  | .bl _ => true
  | .int _ => true
  | .str _ => true
  | .tup xs => D.imms xs
  | _ => false
def D.imms : List D → Bool
  | [] => true
  | x :: xs => D.imm x && D.imms xs
end
/-- looks at owned things -/
def ePeekI (e : E) : E := fun S => match e (S.map frz) with
  | .ok (_, d) _ => if d.imm = true then .ok (.fz, d) S else .bad
  | _ => .bad
def ePeekLI (e : E) : E := fun S => match e (S.map frz) with
  | .ok (.li .fz, .lst ds) _ => if D.imms ds = true then .ok (.li .fz, .lst ds) S else .bad
  | _ => .bad
mutual
def Kd.beq : Kd → Kd → Bool
  | .fz, .fz => true
  | .li a, .li b => Kd.beq a b
  | .dK a, .dK b => Kd.beq a b
  | .dT a, .dT b => Kd.beq a b
  | .dR a, .dR b => Kd.beqs a b
  | .dN, .dN => true
  | .ob a, .ob b => Kd.beqs a b
  | _, _ => false
def Kd.beqs : List Kd → List Kd → Bool
  | [], [] => true
  | a :: as, b :: bs => Kd.beq a b && Kd.beqs as bs
  | _, _ => false
end
/-- a step of a path, as it came out -/
inductive PV where
  | fld (c n : Nat) | key (d : D) | ix (i : Int)
def keyAt (kvs : List (D × D)) (k : D) : Option Nat := kvs.findIdx? fun p => D.eqv p.1 k
def getKD : List PV → Kd → D → Option KD
  | [], k, d => some (k, d)
  | .fld c n :: p, .ob ks, .ob c' ds => if c' = c then (match ks[n]?, ds[n]? with
    | some k, some d => getKD p k d
    | _, _ => none) else none
  | .key x :: p, .dK k, .dic kvs => if isKey x = true then (keyAt kvs x).bind fun n => kvs[n]?.bind fun q => getKD p k q.2 else none
  | .key x :: p, .dR ks, .dic kvs => if isKey x = true then (keyAt kvs x).bind fun n => match ks[n]?, kvs[n]? with
    | some k, some q => getKD p k q.2
    | _, _ => none else none
  | .ix i :: p, .li k, .lst ds => (normIx ds.length i).bind fun n => ds[n]?.bind fun d => getKD p k d
  | _, _, _ => none
def setKD : List PV → Kd → D → KD → Option KD
  | [], _, _, kd => some kd
  | .fld c n :: p, .ob ks, .ob c' ds, kd => if c' = c then (match ks[n]?, ds[n]? with
    | some k, some d => (setKD p k d kd).bind fun r => some (.ob (ks.set n r.1), .ob c' (ds.set n r.2))
    | _, _ => none) else none
  | .key x :: p, .dK k, .dic kvs, kd => if isKey x = true then (keyAt kvs x).bind fun n => kvs[n]?.bind fun q => (setKD p k q.2 kd).bind fun r => if Kd.beq r.1 k = true then some (.dK k, .dic (kvs.set n (q.1, r.2))) else none else none
  | .key x :: p, .dR ks, .dic kvs, kd => if isKey x = true then (keyAt kvs x).bind fun n => match ks[n]?, kvs[n]? with
    | some k, some q => (setKD p k q.2 kd).bind fun r => some (.dR (ks.set n r.1), .dic (kvs.set n (q.1, r.2)))
    | _, _ => none else none
  | .ix i :: p, .li k, .lst ds, kd => (normIx ds.length i).bind fun n => ds[n]?.bind fun d => (setKD p k d kd).bind fun r => if Kd.beq r.1 k = true then some (.li k, .lst (ds.set n r.2)) else none
  | _, _, _, _ => none
/-- a step of a path, written -/
inductive PS where
  | fld (c n : Nat) | key (e : E) | ix (e : E)
/-- what stands at the path -/
structure Tgt where
  pv : List PV
  rk : Kd
  rd : D
  k : Kd
  d : D
/-- something else there -/
def Tgt.put (t : Tgt) (i : Nat) (kd : KD) (S : List Slot) : Option (List Slot) := (setKD t.pv t.rk t.rd kd).map fun r => S.set i (some r)
/-- o.f of a frozen object -/
def fFld (c n : Nat) : D → Option KD
  | .ob c' ds => if c' = c then ds[n]?.bind kz else none
  | _ => none
end TB
namespace TB
def isObj (c : Nat) : AV → List Slot → Bool
  | .v (.ob c' _), _ => c' == c
  | .o (_, .ob c' _), _ => c' == c
  | .b i, S => match S[i]? with
    | some (some (.ob _, .ob c' _)) => c' == c
    | _ => false
  | _, _ => false
def callAV (F : Fn) (vs : List AV) (S : List Slot) : R KD := match arIn vs S with
  | none => .bad
  | some (ks, S1) => match F ks with
    | .ret r os => (match arOut vs os S1 with | some S2 => .ok r S2 | none => .bad)
    | .exc x os => (match arOut vs os S1 with | some S2 => .exc x S2 | none => .bad)
    | .bad => .bad
/-- o.m(.., its defaults), o of the class c -/
def eMeth (c : Nat) (F : Fn) (r : Ar) (as : List Ar) (ds : List D) : E := M.bind (arEv [r]) fun v1 S => match v1 with
  | [x] => if isObj c x S = true then (M.bind (arEv as) fun vs S => callAV F (x :: (vs ++ ds.map .v)) S) S else .bad
  | _ => .bad
end TB
namespace TB
mutual
def D.nk : Nat → D → Bool
  | _, .int _ => true
  | _, .str _ => true
  | n + 1, .tup xs => D.nks n xs
  | _, _ => false
def D.nks : Nat → List D → Bool
  | _, [] => true
  | n, x :: xs => D.nk n x && D.nks n xs
end
def isNK (d : D) : Bool := d.isTup && d.nk 8
/-- {} of that kind -/
def eNnew : E := M.pure (.dN, .dit [])
end TB
namespace TB
/-- the same, at a slot, the key any expression -/
def ownN (S : List Slot) (i : Nat) : Option (List (D × D)) := match S[i]? with
  | some (some (.dN, .dit xs)) => some xs
  | _ => none
def hasN (i : Nat) : M Unit := fun S => match ownN S i with
  | some _ => .ok () S
  | none => .bad
def sNput (i : Nat) (k e : E) : St := M.bind (eDat e) fun y => M.bind (hasN i) fun _ => M.bind (eDat k) fun x S => match ownN S i with
  | some kvs => if isNK x = true ∧ kvs.length < sizeMax then .ok .nx (S.set i (some (.dN, .dit (putD kvs x y)))) else .bad
  | none => .bad
end TB
namespace TB
end TB
namespace TB
/-- not promised -/
def eBad : E := fun _ => .bad
def sBad : St := fun _ => .bad
def truD : D → Option Bool
  | .non => some false
  | .bl b => some b
  | .int i => some (i != 0)
  | .str s => if s.length ≤ sizeMax then some ((s.length : Int) != 0) else none
  | .tup xs => some (!xs.isEmpty)
  | .lst xs => some (!xs.isEmpty)
  | _ => none
/-- x or y, x and y, as they are -/
def eOrV (a b : E) : E := M.bind (eDat a) fun x => match truD x with
  | some true => M.pure (.fz, x)
  | some false => b
  | none => eBad
def eAndV (a b : E) : E := M.bind (eDat a) fun x => match truD x with
  | some true => b
  | some false => M.pure (.fz, x)
  | none => eBad
end TB
namespace TB
end TB
namespace TB
end TB
namespace TB
end TB
namespace TB
def fSum : List D → Option KD
  | [.lst xs] => (intsOf xs).bind fun is => kz (.int is.sum)
  | [.tup xs] => (intsOf xs).bind fun is => kz (.int is.sum)
  | _ => none
/-- d.get(k, z) of a frozen dict -/
def fGet3 : D → D → D → Option KD
  | .dic kvs, x, z => if isKey x = true then kz ((valD kvs x).getD z) else none
  | _, _, _ => none
def fNget3 : D → D → D → Option KD
  | .dit kvs, x, z => if isNK x = true then kz ((valD kvs x).getD z) else none
  | _, _, _ => none
def D.isDic : D → Bool
  | .dic _ => true
  | _ => false
def D.isDit : D → Bool
  | .dit _ => true
  | _ => false
def eGet3 (a b c : E) : E := M.bind (eDat a) fun x => if x.isDic = true then M.bind (eDat b) fun y => M.bind (eDat c) fun z => ofO (fGet3 x y z) else eBad
def eNget3 (a b c : E) : E := M.bind (eDat a) fun x => if x.isDit = true then M.bind (eDat b) fun y => M.bind (eDat c) fun z => ofO (fNget3 x y z) else eBad
/-- enumerate: pairs -/
def enumL : Nat → List D → List D
  | _, [] => []
  | i, d :: ds => .tup [.int i, d] :: enumL (i + 1) ds
def itEnum (e : E) : It := M.bind (eDat e) fun d => match itemsOf d with
  | some xs => M.pure (enumL 0 xs)
  | none => fun _ => .bad
end TB
namespace TB
def sRaise (c : Nat) : St := fun S => .exc ⟨c, .non⟩ S
def raiI (c : Nat) : D → St
  | .int i => fun S => .exc ⟨c, .int i⟩ S
  | _ => sBad
def sRaiseI (c : Nat) (e : E) : St := M.bind (eDat e) (raiI c)
/-- the classes of refusals: 10 TuckError, 11 NoForm, 12 NotNow, 13 NoBook, 14 NoShop, 15 NoRows, 16 NoRow, 17 NoDebts, 18 NoLine, 19 Twice, 20 NotThere, 21 NothingLeft, 22 NoText, 23 TooMany -/
def xLow : List Nat := [13, 14, 15, 16, 17, 18, 22]
def xSub (c t : Nat) : Bool := c == t || t == 10 || (t == 11 && xLow.contains c) || (t == 12 && [19, 20, 21, 23].contains c)
/-- what the clause writes: flat data, or a tuple of such -/
inductive Rs where
  | one (d : D) | tup (ds : List D)
def Rs.d : Rs → D
  | .one d => d
  | .tup ds => .tup ds
def Rs.ok : Rs → Bool
  | .one d => d.flat
  | .tup ds => ds.all D.flat && decide (ds.length ≤ 8)
/-- one clause: its class, the slot of its name, the slot that is written, what is written -/
structure Cl where
  t : Nat
  i : Nat
  j : Nat
  r : Xc → Rs
def hdl (x : Xc) : List Cl → List Slot → R Fl
  | [], S => .exc x S
  | k :: ks, S => if xSub x.c k.t = true then (if (k.r x).ok = true ∧ k.i < S.length ∧ k.j < S.length then .ok .nx (((S.set k.i none).set k.j (some (.fz, (k.r x).d))).set k.i none) else .bad) else hdl x ks S
def sTry (xs : List Nat) (b : St) (ks : List Cl) : St := fun S => match b S with
  | .exc x S1 => if xs.contains x.c = true then hdl x ks S1 else .bad
  | r => r
/-- what _law_kind_of says -/
def kindBits (c : Nat) : List Bool := [xSub c 13, xSub c 17, xSub c 11, xSub c 18, xSub c 16, xSub c 15, xSub c 14, xSub c 22, xSub c 12, xSub c 20, xSub c 21, xSub c 23, xSub c 19, true]
def kindW : List (List Nat) := [[78, 111, 66, 111, 111, 107], [78, 111, 68, 101, 98, 116, 115], [78, 111, 70, 111, 114, 109], [78, 111, 76, 105, 110, 101], [78, 111, 82, 111, 119], [78, 111, 82, 111, 119, 115], [78, 111, 83, 104, 111, 112], [78, 111, 84, 101, 120, 116], [78, 111, 116, 78, 111, 119], [78, 111, 116, 84, 104, 101, 114, 101], [78, 111, 116, 104, 105, 110, 103, 76, 101, 102, 116], [84, 111, 111, 77, 97, 110, 121], [84, 119, 105, 99, 101], [43]]
def pickB : List (List Nat) → List Bool → List (List Nat)
  | w :: ws, b :: bs => if b then w :: pickB ws bs else pickB ws bs
  | _, _ => []
def kindT (c : Nat) : List Nat := joinD [32] (pickB kindW (kindBits c))
/-- the body of _law_kind_of, the class c -/
def mKind (c : Nat) : St := sSeq (sSet 1 (eFr (eApp fLst [eCon (.bl (xSub c 13)), eCon (.bl (xSub c 17)), eCon (.bl (xSub c 11)), eCon (.bl (xSub c 18))]))) (sSeq (sSet 1 (eFr (eOp fAdd (eVar 1) (eApp fLst [eCon (.bl (xSub c 16)), eCon (.bl (xSub c 15)), eCon (.bl (xSub c 14)), eCon (.bl (xSub c 22))])))) (sSeq (sSet 1 (eFr (eOp fAdd (eVar 1) (eApp fLst [eCon (.bl (xSub c 12)), eCon (.bl (xSub c 20)), eCon (.bl (xSub c 21)), eCon (.bl (xSub c 23))])))) (sSeq (sSet 1 (eFr (eOp fAdd (eVar 1) (eApp fLst [eCon (.bl (xSub c 19)), eCon (.bl true)]))))
  (sSeq (sSet 2 (eFr (eApp fLst [eCon (.str [78, 111, 66, 111, 111, 107]), eCon (.str [78, 111, 68, 101, 98, 116, 115]), eCon (.str [78, 111, 70, 111, 114, 109]), eCon (.str [78, 111, 76, 105, 110, 101]), eCon (.str [78, 111, 82, 111, 119]), eCon (.str [78, 111, 82, 111, 119, 115]), eCon (.str [78, 111, 83, 104, 111, 112]), eCon (.str [78, 111, 84, 101, 120, 116]), eCon (.str [78, 111, 116, 78, 111, 119]), eCon (.str [78, 111, 116, 84, 104, 101, 114, 101])]))) (sSeq (sSet 2 (eFr (eOp fAdd (eVar 2) (eApp fLst [eCon (.str [78, 111, 116, 104, 105, 110, 103, 76, 101, 102, 116]), eCon (.str [84, 111, 111, 77, 97, 110, 121]), eCon (.str [84, 119, 105, 99, 101]), eCon (.str [43])])))) (sSeq (sRet (eJoin (eCon (.str [32])) (eLc (itRange1 (eCon (.int 14))) (.nm 3) [3] (eBool (eOp fIx (eVar 1) (eVar 3))) (eOp fIx (eVar 2) (eVar 3))))) sNx))))))
def xAll : List Nat := [13, 14, 15, 16, 17, 18, 19, 20, 21, 22, 23]
def isKind (c : Nat) : R Fl → Bool
  | .ok (.rt (.fz, .str s)) _ => s == kindT c
  | _ => false
theorem kind_all : xAll.all (fun c => isKind c (mKind c [none, none, none, none])) = true := by decide +kernel
theorem kind_run {c : Nat} (h : xAll.contains c = true) : ∃ S, mKind c [none, none, none, none] = .ok (.rt (.fz, .str (kindT c))) S := by
  have h1 := List.all_eq_true.mp kind_all c (by simpa using h)
  generalize mKind c [none, none, none, none] = r at h1
  unfold isKind at h1
  split at h1
  · exact ⟨_, by rw [eq_of_beq h1]⟩
  · cases h1
def itLdc (i : Nat) : It := fun S => match S[i]? with
  | some (some (.fz, .ldc kvs)) => .ok (kvs.map (·.1)) S
  | _ => .bad
def eLockLI (i : Nat) (e : E) : E := fun S => match S[i]? with
  | some (some (.dK .fz, .dic kvs)) => (match e ((S.map frz).set i (some (.fz, .ldc kvs))) with
    | .ok (.li .fz, .lst ds) _ => if D.imms ds = true then .ok (.li .fz, .lst ds) S else .bad
    | _ => .bad)
  | _ => .bad
end TB
namespace TB
open PySem L2
/-- what the top has written, by numbers: classes, their fields, constants -/
structure Cfg where
  K : PySem.W.Frag
  ca : Nat → Addr
  cn : Nat → List PySem.Str
  fa : Nat → Addr
  w : World
/-- .. and of one body: the slots that stay as they were at the start -/
structure Cfgx extends Cfg where
  pk : List Nat
  pv : Nat → Option V
instance : Coe Cfgx Cfg := ⟨Cfgx.toCfg⟩
def keyD : Key → D
  | .inl i => .int i
  | .inr z => .str z.cps.toList
mutual
/-- a key of numbers, texts and tuples of such -/
def nkD : NestedKey → D
  | .none => .non
  | .num i => .int i
  | .text z => .str z.cps.toList
  | .tup ks => .tup (nkDs ks)
def nkDs : List NestedKey → List D
  | [] => []
  | k :: ks => nkD k :: nkDs ks
end
/-- the dict whose keys are nested: key, its tuple, the value -/
def NDO (w : World) (a : Addr) (xs : List (NestedKey × Addr × V)) : HO := .ext fun h => (a == sysModules) = false ∧ xs.length ≤ sizeLine ∧ (∀ x ∈ xs, x.1.depth ≤ 8) ∧ ∃ us : List (NestedKey × Addr × Value),
  Paired (fun (p : NestedKey × Addr × V) (q : NestedKey × Addr × Value) => p.1 = q.1 ∧ p.2.1 = q.2.1 ∧ RelV p.2.2 q.2.2) xs us ∧
  ∃ o es ep, h.get? a = some o ∧ o.ExactDict ∧ o.data = .dict es ep ∧ es.toList = us.map (fun x => (⟨NestedKey.hash w x.1, .ref x.2.1, x.2.2⟩ : DictEntry)) ∧ (us.map (·.1)).Nodup
mutual
inductive Rep (G : Cfg) (F : Hp) : V → D → Prop
  | non : Rep G F .non .non
  | bl (b : Bool) : Rep G F (.bl b) (.bl b)
  | int (i : Int) : Rep G F (.int i) (.int i)
  | str (z : PySem.Str) : Rep G F (.str z) (.str z.cps.toList)
  | tup {a : Addr} {vs : List V} {ds : List D} : SqT G.K F a vs → Reps G F vs ds → Rep G F (.ref a) (.tup ds)
  | scr {a : Addr} {ns : List Int} : SqL G.K F a (ns.map V.int) → Rep G F (.ref a) (.scr ns)
  | lst {a : Addr} {vs : List V} {ds : List D} : F a = some (.lst vs) → Reps G F vs ds → Rep G F (.ref a) (.lst ds)
  | dK {a : Addr} {kvs : List (Key × V)} {kds : List (D × D)} : Rd F a (.dK kvs) → kds.map (·.1) = kvs.map (fun p => keyD p.1) → Reps G F (kvs.map (·.2)) (kds.map (·.2)) → Rep G F (.ref a) (.dic kds)
  | dN {a : Addr} {xs : List (NestedKey × Addr × V)} {kds : List (D × D)} : Rd F a (NDO G.w a xs) → kds.map (·.1) = xs.map (fun x => nkD x.1) → Reps G F (xs.map fun x => .ref x.2.1) (kds.map (·.1)) → Reps G F (xs.map (·.2.2)) (kds.map (·.2)) → Rep G F (.ref a) (.dit kds)
  | ldc {a : Addr} {o : Obj} {kvs : List (Key × V)} {kds : List (D × D)} : F a = some (.frz o (.dK kvs)) → kds.map (·.1) = kvs.map (fun p => keyD p.1) → Reps G F (kvs.map (·.2)) (kds.map (·.2)) → Rep G F (.ref a) (.ldc kds)
  | ob {a dx : Addr} {c : Nat} {fs : List (PySem.Str × V)} {ds : List D} : F a = some (.ins (G.ca c) dx fs) → fs.map (·.1) = (G.cn c).take ds.length → Reps G F (fs.map (·.2)) ds → Rep G F (.ref a) (.ob c ds)
  | fn (k : Nat) : Rep G F (.ref (G.fa k)) (.fn k)
inductive Reps (G : Cfg) (F : Hp) : List V → List D → Prop
  | nil : Reps G F [] []
  | cons {v : V} {d : D} {vs : List V} {ds : List D} : Rep G F v d → Reps G F vs ds → Reps G F (v :: vs) (d :: ds)
end
/-- how often an address is owned -/
abbrev Cnt := Addr → Nat
def one (a : Addr) : Cnt := fun b => if b = a then 1 else 0
def nil0 : Cnt := fun _ => 0
def add (f g : Cnt) : Cnt := fun a => f a + g a
mutual
inductive Own (G : Cfg) (F H : Hp) : Kd → V → D → Cnt → Prop
  | fz {v : V} {d : D} : Rep G F v d → Own G F H .fz v d nil0
  | li {k : Kd} {a : Addr} {vs : List V} {ds : List D} {g : Cnt} : H a = some (.lst vs) → Owns G F H k vs ds g → Own G F H (.li k) (.ref a) (.lst ds) (add (one a) g)
  | dK {k : Kd} {a : Addr} {kvs : List (Key × V)} {kds : List (D × D)} {g : Cnt} : H a = some (.dK kvs) → kds.map (·.1) = kvs.map (fun p => keyD p.1) → Owns G F H k (kvs.map (·.2)) (kds.map (·.2)) g → Own G F H (.dK k) (.ref a) (.dic kds) (add (one a) g)
  | dR {ks : List Kd} {a : Addr} {kvs : List (Key × V)} {kds : List (D × D)} {g : Cnt} : H a = some (.dK kvs) → kds.map (·.1) = kvs.map (fun p => keyD p.1) → OwnL G F H ks (kvs.map (·.2)) (kds.map (·.2)) g → Own G F H (.dR ks) (.ref a) (.dic kds) (add (one a) g)
  | dN {a : Addr} {xs : List (NestedKey × Addr × V)} {kds : List (D × D)} : H a = some (NDO G.w a xs) → kds.map (·.1) = xs.map (fun x => nkD x.1) → Reps G F (xs.map fun x => .ref x.2.1) (kds.map (·.1)) → Reps G F (xs.map (·.2.2)) (kds.map (·.2)) → Own G F H .dN (.ref a) (.dit kds) (add (one a) nil0)
  | ob {ks : List Kd} {a dx : Addr} {c : Nat} {fs : List (PySem.Str × V)} {ds : List D} {g : Cnt} : H a = some (.ins (G.ca c) dx fs) → fs.map (·.1) = (G.cn c).take ds.length → OwnL G F H ks (fs.map (·.2)) ds g → Own G F H (.ob ks) (.ref a) (.ob c ds) (add (one a) g)
inductive Owns (G : Cfg) (F H : Hp) : Kd → List V → List D → Cnt → Prop
  | nil {k : Kd} : Owns G F H k [] [] nil0
  | cons {k : Kd} {v : V} {d : D} {vs : List V} {ds : List D} {f g : Cnt} : Own G F H k v d f → Owns G F H k vs ds g → Owns G F H k (v :: vs) (d :: ds) (add f g)
inductive OwnL (G : Cfg) (F H : Hp) : List Kd → List V → List D → Cnt → Prop
  | nil : OwnL G F H [] [] [] nil0
  | cons {k : Kd} {ks : List Kd} {v : V} {d : D} {vs : List V} {ds : List D} {f g : Cnt} : Own G F H k v d f → OwnL G F H ks vs ds g → OwnL G F H (k :: ks) (v :: vs) (d :: ds) (add f g)
end
/-- a tuple stands there -/
def TupAt (o : Option HO) : Prop := (∃ xs, o = some (.tup xs)) ∨ ∃ u xs, o = some (.frz u (.tup xs))
theorem same_rd {F F' : Hp} {a : Addr} {u : HO} (e : Same F F') (h : Rd F a u) : Rd F' a u := by
  rcases h with h | ⟨o, h⟩
  · exact .inl (e _ _ h)
  · exact .inr ⟨o, e _ _ h⟩
theorem same_t {K : PySem.W.Frag} {F F' : Hp} {a : Addr} {xs : List V} (e : Same F F') (h : SqT K F a xs) : SqT K F' a xs := h.elim (fun h => .inl (same_rd e h)) .inr
theorem same_l {K : PySem.W.Frag} {F F' : Hp} {a : Addr} {xs : List V} (e : Same F F') (h : SqL K F a xs) : SqL K F' a xs := h.elim (fun h => .inl (same_rd e h)) .inr
section
variable {G : Cfg} {F F' H H' : Hp}
mutual
theorem Rep.mono (e : Same F F') : ∀ {v : V} {d : D}, Rep G F v d → Rep G F' v d
  | _, _, .non => .non
  | _, _, .bl b => .bl b
  | _, _, .int i => .int i
  | _, _, .str z => .str z
  | _, _, .tup h r => .tup (same_t e h) (Reps.mono e r)
  | _, _, .scr h => .scr (same_l e h)
  | _, _, .lst h r => .lst (e _ _ h) (Reps.mono e r)
  | _, _, .dK h k r => .dK (same_rd e h) k (Reps.mono e r)
  | _, _, .dN h k q r => .dN (same_rd e h) k (Reps.mono e q) (Reps.mono e r)
  | _, _, .ldc h k r => .ldc (e _ _ h) k (Reps.mono e r)
  | _, _, .ob h k r => .ob (e _ _ h) k (Reps.mono e r)
  | _, _, .fn k => .fn k
theorem Reps.mono (e : Same F F') : ∀ {vs : List V} {ds : List D}, Reps G F vs ds → Reps G F' vs ds
  | _, _, .nil => .nil
  | _, _, .cons h r => .cons (Rep.mono e h) (Reps.mono e r)
end
mutual
theorem Own.mono (e : Same F F') : ∀ {k : Kd} {v : V} {d : D} {f : Cnt}, Own G F H k v d f → (∀ a o, f a ≠ 0 → H a = some o → H' a = some o) → Own G F' H' k v d f
  | _, _, _, _, .fz h, _ => .fz (Rep.mono e h)
  | _, _, _, _, .li (g := g) h r, m => .li (m _ _ (by simp [add, one]) h) (Owns.mono e r fun a o n => m a o (by simp only [add]; omega))
  | _, _, _, _, .dK (g := g) h k r, m => .dK (m _ _ (by simp [add, one]) h) k (Owns.mono e r fun a o n => m a o (by simp only [add]; omega))
  | _, _, _, _, .dR (g := g) h k r, m => .dR (m _ _ (by simp [add, one]) h) k (OwnL.mono e r fun a o n => m a o (by simp only [add]; omega))
  | _, _, _, _, .dN h k q r, m => .dN (m _ _ (by simp [add, one]) h) k (Reps.mono e q) (Reps.mono e r)
  | _, _, _, _, .ob (g := g) h k r, m => .ob (m _ _ (by simp [add, one]) h) k (OwnL.mono e r fun a o n => m a o (by simp only [add]; omega))
theorem Owns.mono (e : Same F F') : ∀ {k : Kd} {vs : List V} {ds : List D} {f : Cnt}, Owns G F H k vs ds f → (∀ a o, f a ≠ 0 → H a = some o → H' a = some o) → Owns G F' H' k vs ds f
  | _, _, _, _, .nil, _ => .nil
  | _, _, _, _, .cons h r, m => .cons (Own.mono e h fun a o n => m a o (by simp only [add]; omega)) (Owns.mono e r fun a o n => m a o (by simp only [add]; omega))
theorem OwnL.mono (e : Same F F') : ∀ {k : List Kd} {vs : List V} {ds : List D} {f : Cnt}, OwnL G F H k vs ds f → (∀ a o, f a ≠ 0 → H a = some o → H' a = some o) → OwnL G F' H' k vs ds f
  | _, _, _, _, .nil, _ => .nil
  | _, _, _, _, .cons h r, m => .cons (Own.mono e h fun a o n => m a o (by simp only [add]; omega)) (OwnL.mono e r fun a o n => m a o (by simp only [add]; omega))
end
mutual
/-- what is owned, looked at as frozen -/
theorem Own.rep (e : Same F H) : ∀ {k : Kd} {v : V} {d : D} {f : Cnt}, Own G F H k v d f → Rep G H v d
  | _, _, _, _, .fz h => Rep.mono e h
  | _, _, _, _, .li h r => .lst h (Owns.rep e r)
  | _, _, _, _, .dK h k r => .dK (.inl h) k (Owns.rep e r)
  | _, _, _, _, .dR h k r => .dK (.inl h) k (OwnL.rep e r)
  | _, _, _, _, .dN h k q r => .dN (.inl h) k (Reps.mono e q) (Reps.mono e r)
  | _, _, _, _, .ob h k r => .ob h k (OwnL.rep e r)
theorem Owns.rep (e : Same F H) : ∀ {k : Kd} {vs : List V} {ds : List D} {f : Cnt}, Owns G F H k vs ds f → Reps G H vs ds
  | _, _, _, _, .nil => .nil
  | _, _, _, _, .cons h r => .cons (Own.rep e h) (Owns.rep e r)
theorem OwnL.rep (e : Same F H) : ∀ {k : List Kd} {vs : List V} {ds : List D} {f : Cnt}, OwnL G F H k vs ds f → Reps G H vs ds
  | _, _, _, _, .nil => .nil
  | _, _, _, _, .cons h r => .cons (Own.rep e h) (OwnL.rep e r)
end
mutual
theorem Own.there : ∀ {k : Kd} {v : V} {d : D} {f : Cnt}, Own G F H k v d f → ∀ a, f a ≠ 0 → H a ≠ none
  | _, _, _, _, .fz _, _, n => absurd rfl n
  | _, _, _, _, .li (a := b) (g := g) h r, a, n => by
    by_cases q : a = b
    · rw [q, h]; simp
    · exact Owns.there r a (by simp only [add, one, if_neg q] at n; omega)
  | _, _, _, _, .dK (a := b) (g := g) h _ r, a, n => by
    by_cases q : a = b
    · rw [q, h]; simp
    · exact Owns.there r a (by simp only [add, one, if_neg q] at n; omega)
  | _, _, _, _, .dR (a := b) (g := g) h _ r, a, n => by
    by_cases q : a = b
    · rw [q, h]; simp
    · exact OwnL.there r a (by simp only [add, one, if_neg q] at n; omega)
  | _, _, _, _, .dN (a := b) h _ _ _, a, n => by
    by_cases q : a = b
    · rw [q, h]; simp
    · exact absurd n (by simp [add, one, if_neg q, nil0])
  | _, _, _, _, .ob (a := b) (g := g) h _ r, a, n => by
    by_cases q : a = b
    · rw [q, h]; simp
    · exact OwnL.there r a (by simp only [add, one, if_neg q] at n; omega)
theorem Owns.there : ∀ {k : Kd} {vs : List V} {ds : List D} {f : Cnt}, Owns G F H k vs ds f → ∀ a, f a ≠ 0 → H a ≠ none
  | _, _, _, _, .nil, _, n => absurd rfl n
  | _, _, _, _, .cons (f := f) (g := g) h r, a, n => by
    by_cases q : f a = 0
    · exact Owns.there r a (by simp only [add] at n; omega)
    · exact Own.there h a q
theorem OwnL.there : ∀ {k : List Kd} {vs : List V} {ds : List D} {f : Cnt}, OwnL G F H k vs ds f → ∀ a, f a ≠ 0 → H a ≠ none
  | _, _, _, _, .nil, _, n => absurd rfl n
  | _, _, _, _, .cons (f := f) (g := g) h r, a, n => by
    by_cases q : f a = 0
    · exact OwnL.there r a (by simp only [add] at n; omega)
    · exact Own.there h a q
end
mutual
/-- nobody owns a tuple -/
theorem Own.noT : ∀ {k : Kd} {v : V} {d : D} {f : Cnt}, Own G F H k v d f → ∀ a, f a ≠ 0 → ¬ TupAt (H a)
  | _, _, _, _, .fz _, _, n => absurd rfl n
  | _, _, _, _, .li (a := b) (g := g) h r, a, n => by
    by_cases q : a = b
    · rw [q, h]; rintro (⟨_, z⟩ | ⟨_, _, z⟩) <;> cases z
    · exact Owns.noT r a (by simp only [add, one, if_neg q] at n; omega)
  | _, _, _, _, .dK (a := b) (g := g) h _ r, a, n => by
    by_cases q : a = b
    · rw [q, h]; rintro (⟨_, z⟩ | ⟨_, _, z⟩) <;> cases z
    · exact Owns.noT r a (by simp only [add, one, if_neg q] at n; omega)
  | _, _, _, _, .dR (a := b) (g := g) h _ r, a, n => by
    by_cases q : a = b
    · rw [q, h]; rintro (⟨_, z⟩ | ⟨_, _, z⟩) <;> cases z
    · exact OwnL.noT r a (by simp only [add, one, if_neg q] at n; omega)
  | _, _, _, _, .dN (a := b) h _ _ _, a, n => by
    by_cases q : a = b
    · rw [q, h]; rintro (⟨_, z⟩ | ⟨_, _, z⟩) <;> simp [NDO] at z
    · exact absurd n (by simp [add, one, if_neg q, nil0])
  | _, _, _, _, .ob (a := b) (g := g) h _ r, a, n => by
    by_cases q : a = b
    · rw [q, h]; rintro (⟨_, z⟩ | ⟨_, _, z⟩) <;> cases z
    · exact OwnL.noT r a (by simp only [add, one, if_neg q] at n; omega)
theorem Owns.noT : ∀ {k : Kd} {vs : List V} {ds : List D} {f : Cnt}, Owns G F H k vs ds f → ∀ a, f a ≠ 0 → ¬ TupAt (H a)
  | _, _, _, _, .nil, _, n => absurd rfl n
  | _, _, _, _, .cons (f := f) (g := g) h r, a, n => by
    by_cases q : f a = 0
    · exact Owns.noT r a (by simp only [add] at n; omega)
    · exact Own.noT h a q
theorem OwnL.noT : ∀ {k : List Kd} {vs : List V} {ds : List D} {f : Cnt}, OwnL G F H k vs ds f → ∀ a, f a ≠ 0 → ¬ TupAt (H a)
  | _, _, _, _, .nil, _, n => absurd rfl n
  | _, _, _, _, .cons (f := f) (g := g) h r, a, n => by
    by_cases q : f a = 0
    · exact OwnL.noT r a (by simp only [add] at n; omega)
    · exact Own.noT h a q
end
end
end TB
namespace TB
open PySem L2
inductive SlotOk (G : Cfg) (F H : Hp) : Option V → Slot → Cnt → Prop
  | no (v : Option V) : SlotOk G F H v none nil0
  | yes {k : Kd} {v : V} {d : D} {f : Cnt} : Own G F H k v d f → SlotOk G F H (some v) (some (k, d)) f
inductive Slots (G : Cfg) (F H : Hp) : L2.St → List Slot → Cnt → Prop
  | nil : Slots G F H [] [] nil0
  | cons {v : Option V} {s : Slot} {f g : Cnt} {σ : L2.St} {S : List Slot} : SlotOk G F H v s f → Slots G F H σ S g → Slots G F H (v :: σ) (s :: S) (add f g)
section
variable {G : Cfg} {F F' H H' : Hp} {σ : L2.St} {S : List Slot} {T T' : Cnt}
theorem SlotOk.mono (e : Same F F') {v : Option V} {s : Slot} {f : Cnt} (h : SlotOk G F H v s f) (m : ∀ a o, f a ≠ 0 → H a = some o → H' a = some o) : SlotOk G F' H' v s f := by
  cases h with
  | no v => exact .no v
  | yes h => exact .yes (h.mono e m)
theorem Slots.mono (e : Same F F') (h : Slots G F H σ S T) (m : ∀ a o, T a ≠ 0 → H a = some o → H' a = some o) : Slots G F' H' σ S T := by
  induction h with
  | nil => exact .nil
  | cons h _ ih => exact .cons (h.mono e fun a o n => m a o (by simp only [add]; omega)) (ih fun a o n => m a o (by simp only [add]; omega))
theorem Slots.cast (h : Slots G F H σ S T) (e : ∀ a, T a = T' a) : Slots G F H σ S T' := (show T = T' from funext e) ▸ h
theorem Own.cast {k : Kd} {v : V} {d : D} {f f' : Cnt} (h : Own G F H k v d f) (e : ∀ a, f a = f' a) : Own G F H k v d f' := (show f = f' from funext e) ▸ h
theorem Slots.len (h : Slots G F H σ S T) : σ.length = S.length := by
  induction h with
  | nil => rfl
  | cons _ _ ih => simp [ih]
theorem SlotOk.there {v : Option V} {s : Slot} {f : Cnt} (h : SlotOk G F H v s f) (a : Addr) (n : f a ≠ 0) : H a ≠ none := by
  cases h with
  | no v => exact absurd rfl n
  | yes h => exact h.there a n
theorem Slots.there (h : Slots G F H σ S T) (a : Addr) (n : T a ≠ 0) : H a ≠ none := by
  induction h with
  | nil => exact absurd rfl n
  | @cons _ _ f g _ _ h _ ih =>
    by_cases q : f a = 0
    · exact ih (by simp only [add] at n; omega)
    · exact h.there a q
theorem SlotOk.noT {v : Option V} {s : Slot} {f : Cnt} (h : SlotOk G F H v s f) (a : Addr) (n : f a ≠ 0) : ¬ TupAt (H a) := by
  cases h with
  | no v => exact absurd rfl n
  | yes h => exact h.noT a n
theorem Slots.noT (h : Slots G F H σ S T) (a : Addr) (n : T a ≠ 0) : ¬ TupAt (H a) := by
  induction h with
  | nil => exact absurd rfl n
  | @cons _ _ f g _ _ h _ ih =>
    by_cases q : f a = 0
    · exact ih (by simp only [add] at n; omega)
    · exact h.noT a q
/-- one slot taken out, another one put there -/
theorem Slots.at {i : Nat} {s : Slot} (h : Slots G F H σ S T) (e : S[i]? = some s) : ∃ v f T0, (∀ a, T a = f a + T0 a) ∧ σ[i]? = some v ∧ SlotOk G F H v s f ∧
    ∀ F' H' v' s' f', Same F F' → (∀ a o, T0 a ≠ 0 → H a = some o → H' a = some o) → SlotOk G F' H' v' s' f' → Slots G F' H' (σ.set i v') (S.set i s') (add f' T0) := by
  induction h generalizing i with
  | nil => simp at e
  | @cons v s1 f g σ S h r ih =>
    cases i with
    | zero =>
      have e1 : s1 = s := by simpa using e
      subst e1
      exact ⟨v, f, g, fun a => rfl, rfl, h, fun F' H' v' s' f' sf m h' => .cons h' (r.mono sf m)⟩
    | succ i =>
      have e1 : S[i]? = some s := by simpa using e
      obtain ⟨v2, f2, T0, ht, hv, ho, k⟩ := ih e1
      refine ⟨v2, f2, add f T0, fun a => by simp only [add]; have := ht a; omega, by simpa using hv, ho, fun F' H' v' s' f' sf m h' => ?_⟩
      have q := k F' H' v' s' f' sf (fun a o n => m a o (by simp only [add]; omega)) h'
      have q2 : Slots G F' H' (v :: σ.set i v') (s1 :: S.set i s') (add f (add f' T0)) := .cons (h.mono sf fun a o n => m a o (by simp only [add]; omega)) q
      have e3 : add f (add f' T0) = add f' (add f T0) := by funext a; simp only [add]; omega
      rw [e3] at q2
      simpa using q2
theorem Slots.var {i : Nat} {k : Kd} {d : D} (h : Slots G F H σ S T) (e : S[i]? = some (some (k, d))) : ∃ v f, σ[i]? = some (some v) ∧ Own G F H k v d f ∧ ∀ a, f a ≤ T a := by
  obtain ⟨v, f, T0, ht, hv, ho, _⟩ := h.at e
  cases ho with
  | yes ho => exact ⟨_, f, hv, ho, fun a => by have := ht a; omega⟩
end
/-- the state between two steps: F the frozen part of the heap, T what the slots own -/
structure St' (G : Cfgx) (F H : Hp) (σ : L2.St) (S : List Slot) (T : Cnt) : Prop where
  pi : ∀ i, i ∈ G.pk → σ[i]? = some (G.pv i)
  sub : Same F H
  sl : Slots G F H σ S T
  le : ∀ a, T a ≤ 1
  di : ∀ a, F a ≠ none → T a = 0
/-- what a step may do to the heap -/
structure Step (F H : Hp) (T : Cnt) (F' H' : Hp) (T' : Cnt) : Prop where
  sF : Same F F'
  fr : ∀ a o, T a = 0 → H a = some o → H' a = some o
  nT : ∀ a, T' a ≠ 0 → T a ≠ 0 ∨ H a = none
  nF : ∀ a, F a = none → F' a ≠ none → H a = none ∨ T a ≠ 0 ∨ TupAt (H a)
  tl : ∀ a, H a ≠ none → H' a ≠ none
theorem Step.refl (F H : Hp) (T : Cnt) : Step F H T F H T := ⟨Same.refl F, fun _ _ _ h => h, fun _ h => .inl h, fun _ h n => absurd h n, fun _ h => h⟩
theorem Step.trans {F H F1 H1 F2 H2 : Hp} {T T1 T2 : Cnt} (a : Step F H T F1 H1 T1) (b : Step F1 H1 T1 F2 H2 T2) : Step F H T F2 H2 T2 := by
  refine ⟨a.sF.trans b.sF, fun x o t h => ?_, fun x n => ?_, fun x h n => ?_, fun x h => b.tl x (a.tl x h)⟩
  · have h1 := a.fr x o t h
    refine b.fr x o ?_ h1
    by_cases q : T1 x = 0
    · exact q
    · rcases a.nT x q with z | z
      · exact absurd t z
      · rw [h] at z; cases z
  · rcases b.nT x n with z | z
    · exact a.nT x z
    · by_cases q : H x = none
      · exact .inr q
      · exact absurd z (a.tl x q)
  · by_cases q : F1 x = none
    · rcases b.nF x q n with z | z | z
      · by_cases q2 : H x = none
        · exact .inl q2
        · exact absurd z (a.tl x q2)
      · rcases a.nT x z with y | y
        · exact .inr (.inl y)
        · exact .inl y
      · cases q2 : H x with
        | none => exact .inl rfl
        | some o =>
          by_cases t : T x = 0
          · rw [a.fr x o t q2] at z; exact .inr (.inr z)
          · exact .inr (.inl t)
    · exact a.nF x h q
theorem Step.castR {F H F1 H1 : Hp} {T T1 T1' : Cnt} (a : Step F H T F1 H1 T1) (e : ∀ x, T1 x = T1' x) : Step F H T F1 H1 T1' := (show T1 = T1' from funext e) ▸ a
/-- less is owned afterwards -/
theorem Step.less {F H F1 H1 : Hp} {T T1 T2 : Cnt} (a : Step F H T F1 H1 T1) (e : ∀ x, T2 x ≤ T1 x) : Step F H T F1 H1 T2 := ⟨a.sF, a.fr, fun x n => a.nT x (by have := e x; omega), a.nF, a.tl⟩
/-- a part that is owned besides stays as it is -/
theorem Step.frame {F H F1 H1 : Hp} {T T1 R : Cnt} (a : Step F H T F1 H1 T1) (hT : ∀ x, T x + R x ≤ 1) (hR : ∀ x, R x ≠ 0 → H x ≠ none) : Step F H (add T R) F1 H1 (add T1 R) ∧ (∀ x, R x ≠ 0 → T1 x = 0) ∧ (∀ x o, R x ≠ 0 → H x = some o → H1 x = some o) := by
  have d : ∀ x, R x ≠ 0 → T x = 0 := fun x n => by have := hT x; omega
  refine ⟨⟨a.sF, fun x o t h => a.fr x o (by simp only [add] at t; omega) h, fun x n => ?_, fun x h n => (a.nF x h n).imp id fun z => z.imp (fun z => by simp only [add]; omega) id, a.tl⟩, fun x n => ?_, fun x o n h => a.fr x o (d x n) h⟩
  · by_cases q : T1 x = 0
    · exact .inl (by simp only [add] at n ⊢; omega)
    · exact (a.nT x q).imp (fun z => by simp only [add]; omega) id
  · by_cases q : T1 x = 0
    · exact q
    · rcases a.nT x q with z | z
      · exact absurd (d x n) z
      · exact absurd z (hR x n)
section
variable {G : Cfgx} {F F' H H' : Hp} {σ : L2.St} {S : List Slot} {T T' : Cnt}
theorem St'.noT (s : St' G F H σ S T) (a : Addr) (n : T a ≠ 0) : ¬ TupAt (H a) := s.sl.noT a n
theorem St'.there (s : St' G F H σ S T) (a : Addr) (n : T a ≠ 0) : H a ≠ none := s.sl.there a n
theorem St'.cast (s : St' G F H σ S T) (e : ∀ a, T a = T' a) : St' G F H σ S T' := (show T = T' from funext e) ▸ s
/-- a new object that nobody owns is frozen -/
theorem Step.newF {p : Addr} {o : HO} (hp : H p = none) (sub : Same F H) (nt : T p = 0) : Step F H T (upd F p o) (upd H p o) T := by
  have hf : F p = none := sub.free hp
  refine ⟨fun a u e => ?_, fun a u _ e => ?_, fun _ n => .inl n, fun a h n => ?_, fun a h => ?_⟩
  · rw [upd_ne (ne_of_none e hf)]; exact e
  · rw [upd_ne (ne_of_none e hp)]; exact e
  · by_cases q : a = p
    · rw [q]; exact .inl hp
    · rw [upd_ne q] at n; exact absurd h n
  · by_cases q : a = p
    · rw [q, upd_same]; simp
    · rw [upd_ne q]; exact h
/-- a new object, owned -/
theorem Step.newT {p : Addr} {o : HO} (hp : H p = none) : Step F H T F (upd H p o) (add T (one p)) := by
  refine ⟨Same.refl F, fun a u _ e => ?_, fun a n => ?_, fun a h n => absurd h n, fun a h => ?_⟩
  · rw [upd_ne (ne_of_none e hp)]; exact e
  · by_cases q : a = p
    · rw [q]; exact .inr hp
    · exact .inl (by simp only [add, one, if_neg q] at n; omega)
  · by_cases q : a = p
    · rw [q, upd_same]; simp
    · rw [upd_ne q]; exact h
/-- an owned object changed -/
theorem Step.put {p : Addr} {o : HO} (hp : T p ≠ 0) : Step F H T F (upd H p o) T := by
  refine ⟨Same.refl F, fun a u t e => ?_, fun a n => .inl n, fun a h n => absurd h n, fun a h => ?_⟩
  · rw [upd_ne (fun (q : a = p) => hp (by rw [← q]; exact t))]; exact e
  · by_cases q : a = p
    · rw [q, upd_same]; simp
    · rw [upd_ne q]; exact h
theorem St'.newF {p : Addr} {o : HO} (s : St' G F H σ S T) (hp : H p = none) : St' G (upd F p o) (upd H p o) σ S T ∧ Step F H T (upd F p o) (upd H p o) T := by
  have nt : T p = 0 := Decidable.byContradiction fun n => s.there p n hp
  have st := Step.newF (o := o) hp s.sub nt
  refine ⟨⟨s.pi, fun a u e => ?_, s.sl.mono st.sF fun a u n e => by rw [upd_ne (ne_of_none e hp)]; exact e, s.le, fun a n => ?_⟩, st⟩
  · by_cases q : a = p
    · rw [q, upd_same] at e ⊢; exact e
    · rw [upd_ne q] at e ⊢; exact s.sub _ _ e
  · by_cases q : a = p
    · rw [q]; exact nt
    · rw [upd_ne q] at n; exact s.di a n
theorem St'.newT {p : Addr} {o : HO} (s : St' G F H σ S T) (hp : H p = none) : St' G F (upd H p o) σ S T ∧ Step F H T F (upd H p o) (add T (one p)) ∧ (∀ a, T a + one p a ≤ 1) ∧ F p = none := by
  have nt : T p = 0 := Decidable.byContradiction fun n => s.there p n hp
  refine ⟨⟨s.pi, fun a u e => ?_, s.sl.mono (Same.refl F) fun a u n e => by rw [upd_ne (ne_of_none e hp)]; exact e, s.le, s.di⟩, Step.newT hp, fun a => ?_, s.sub.free hp⟩
  · rw [upd_ne (ne_of_none (s.sub _ _ e) hp)]; exact s.sub _ _ e
  · have := s.le a
    unfold one
    split
    · rename_i q; rw [q, nt]; omega
    · omega
end
end TB
namespace TB
open PySem L2
/-- an exception as it lies: no field, or a dict of its own with one number -/
def ExcR (G : Cfg) (x : Xc) (cls : Value) (dx : Option Addr) (H : Hp) : Prop :=
  cls = .ref (G.ca x.c) ∧ ((x.arg = .non ∧ dx = none) ∨ ∃ d i, x.arg = .int i ∧ dx = some d ∧ H d = some (.xd ((G.cn x.c).map fun n => (n, V.int i))))
def PX (G : Cfgx) (W : WX) (F H : Hp) (σ : L2.St) (T : Cnt) (x : Xc) (S' : List Slot) : Prop :=
  ∀ cls dx F' H' T', Step F H T F' H' T' → St' G F' H' σ S' T' → ExcR G x cls dx H' → W cls dx σ H'
def PR {α : Type} (G : Cfgx) (W : WX) (F H : Hp) (σ : L2.St) (T : Cnt) (K : α → List Slot → Prop) : R α → Prop
  | .ok a S => K a S
  | .exc x S => PX G W F H σ T x S
  | .bad => False
def KE (G : Cfgx) (F H : Hp) (σ : L2.St) (T : Cnt) (Q : VK) (kd : KD) (S' : List Slot) : Prop :=
  ∀ v F' H' T' f, Step F H T F' H' (add T' f) → St' G F' H' σ S' T' → Own G F' H' kd.1 v kd.2 f → (∀ a, T' a + f a ≤ 1) → (∀ a, F' a ≠ none → f a = 0) → Q v H'
def KDt (G : Cfgx) (F H : Hp) (σ : L2.St) (T : Cnt) (Q : VK) (d : D) (S' : List Slot) : Prop :=
  ∀ v F' H' T', Step F H T F' H' T' → St' G F' H' σ S' T' → Rep G F' v d → Q v H'
def KB (G : Cfgx) (F H : Hp) (σ : L2.St) (T : Cnt) (Q : Bool → Hp → Prop) (b : Bool) (S' : List Slot) : Prop :=
  ∀ F' H' T', Step F H T F' H' T' → St' G F' H' σ S' T' → Q b H'
def KL (G : Cfgx) (F H : Hp) (σ : L2.St) (T : Cnt) (Q : List V → Hp → Prop) (ds : List D) (S' : List Slot) : Prop :=
  ∀ vs F' H' T', Step F H T F' H' T' → St' G F' H' σ S' T' → Reps G F' vs ds → Q vs H'
section
variable {G : Cfgx} {W : WX} {F H F1 H1 : Hp} {σ : L2.St} {T T1 : Cnt} {α β : Type}
theorem PX.re {x : Xc} {S : List Slot} (s : Step F H T F1 H1 T1) (h : PX G W F H σ T x S) : PX G W F1 H1 σ T1 x S := fun cls dx F' H' T' s' st e => h cls dx F' H' T' (s.trans s') st e
theorem PR.bind {K1 : α → List Slot → Prop} {K2 : β → List Slot → Prop} {r : R α} {f : α → M β} (h : PR G W F H σ T K2 (r.bind f)) (k : ∀ a S, PR G W F H σ T K2 (f a S) → K1 a S) : PR G W F H σ T K1 r := by
  cases r with
  | ok a S => exact k a S h
  | exc x S => exact h
  | bad => exact h
theorem PR.re {K1 K2 : α → List Slot → Prop} {r : R α} (s : Step F H T F1 H1 T1) (k : ∀ a S, K1 a S → K2 a S) (h : PR G W F H σ T K1 r) : PR G W F1 H1 σ T1 K2 r := by
  cases r with
  | ok a S => exact k a S h
  | exc x S => exact PX.re s h
  | bad => exact h
theorem PR.imp {K1 K2 : α → List Slot → Prop} {r : R α} (k : ∀ a S, K1 a S → K2 a S) (h : PR G W F H σ T K1 r) : PR G W F H σ T K2 r := PR.re (Step.refl F H T) k h
theorem KE.re {Q : VK} {kd : KD} {S : List Slot} (s : Step F H T F1 H1 T1) (h : KE G F H σ T Q kd S) : KE G F1 H1 σ T1 Q kd S := fun v F' H' T' f s' st o l d => h v F' H' T' f (s.trans s') st o l d
theorem KDt.re {Q : VK} {d : D} {S : List Slot} (s : Step F H T F1 H1 T1) (h : KDt G F H σ T Q d S) : KDt G F1 H1 σ T1 Q d S := fun v F' H' T' s' st o => h v F' H' T' (s.trans s') st o
theorem KB.re {Q : Bool → Hp → Prop} {d : Bool} {S : List Slot} (s : Step F H T F1 H1 T1) (h : KB G F H σ T Q d S) : KB G F1 H1 σ T1 Q d S := fun F' H' T' s' st => h F' H' T' (s.trans s') st
theorem KL.re {Q : List V → Hp → Prop} {d : List D} {S : List Slot} (s : Step F H T F1 H1 T1) (h : KL G F H σ T Q d S) : KL G F1 H1 σ T1 Q d S := fun v F' H' T' s' st o => h v F' H' T' (s.trans s') st o
theorem PR.reE {Q : VK} {r : R KD} (s : Step F H T F1 H1 T1) (h : PR G W F H σ T (KE G F H σ T Q) r) : PR G W F1 H1 σ T1 (KE G F1 H1 σ T1 Q) r := PR.re s (fun _ _ => KE.re s) h
/-- data as it is, nothing changed -/
theorem KE.val {Q : VK} {d : D} {S : List Slot} {v : V} (h : KE G F H σ T Q (.fz, d) S) (st : St' G F H σ S T) (r : Rep G F v d) : Q v H :=
  h v F H T nil0 ((Step.refl F H T).castR fun a => rfl) st (.fz r) (fun a => st.le a) fun _ _ => rfl
/-- a new frozen object -/
theorem KE.newF {Q : VK} {d : D} {S : List Slot} {o : HO} (h : KE G F H σ T Q (.fz, d) S) (st : St' G F H σ S T) (r : ∀ p, Rep G (upd F p o) (.ref p) d ∨ F p ≠ none) (p : Addr) (hp : H p = none) : Q (.ref p) (upd H p o) := by
  obtain ⟨st2, s⟩ := st.newF (o := o) hp
  have hf : F p = none := st.sub.free hp
  exact h (.ref p) _ _ T nil0 (s.castR fun a => rfl) st2 (.fz ((r p).resolve_right fun n => n hf)) (fun a => st2.le a) fun _ _ => rfl
/-- a new list, owned -/
theorem KE.newL {Q : VK} {vs : List V} {ds : List D} {S : List Slot} (h : KE G F H σ T Q (.li .fz, .lst ds) S) (st : St' G F H σ S T) (r : Reps G F vs ds) (p : Addr) (hp : H p = none) : Q (.ref p) (upd H p (.lst vs)) := by
  obtain ⟨st2, s, le, fp⟩ := st.newT (o := .lst vs) hp
  have ow : ∀ {vs : List V} {ds : List D}, Reps G F vs ds → Owns G F (upd H p (.lst vs)) .fz vs ds nil0 ∧ ∀ H', Owns G F H' .fz vs ds nil0 := by
    intro vs ds r
    induction vs generalizing ds with
    | nil => cases r; exact ⟨.nil, fun _ => .nil⟩
    | cons v vs ih =>
      cases r with
      | cons r1 r2 => exact ⟨.cons (.fz r1) ((ih r2).2 _), fun H' => .cons (.fz r1) ((ih r2).2 H')⟩
  refine h (.ref p) F _ T (add (one p) nil0) (s.castR fun a => rfl) st2 (.li upd_same ((ow r).2 _)) (fun a => le a) fun a n => ?_
  show one p a + 0 = 0
  unfold one
  split
  · rename_i q; rw [q, fp] at n; exact absurd rfl n
  · rfl
theorem owns_fz {vs : List V} {ds : List D} (r : Reps G F vs ds) : Owns G F H .fz vs ds nil0 := by
  induction vs generalizing ds with
  | nil => cases r; exact .nil
  | cons v vs ih =>
    cases r with
    | cons r1 r2 => exact .cons (.fz r1) (ih r2)
theorem reps_fz {vs : List V} {ds : List D} {f : Cnt} (r : Owns G F H .fz vs ds f) : Reps G F vs ds ∧ f = nil0 := by
  induction vs generalizing ds f with
  | nil => cases r; exact ⟨.nil, rfl⟩
  | cons v vs ih =>
    cases r with
    | cons r1 r2 =>
      cases r1 with
      | fz r1 =>
        obtain ⟨a, b⟩ := ih r2
        subst b
        exact ⟨.cons r1 a, rfl⟩
end
def DenE (G : Cfgx) (W : WX) (t : TE) (m : E) : Prop := ∀ F H σ S T Q, St' G F H σ S T → PR G W F H σ T (KE G F H σ T Q) (m S) → t σ H Q
def DenD (G : Cfgx) (W : WX) (t : TE) (m : M D) : Prop := ∀ F H σ S T Q, St' G F H σ S T → PR G W F H σ T (KDt G F H σ T Q) (m S) → t σ H Q
def DenT (G : Cfgx) (W : WX) (t : TT) (m : T) : Prop := ∀ F H σ S T Q, St' G F H σ S T → PR G W F H σ T (KB G F H σ T Q) (m S) → t σ H Q
def DenA (G : Cfgx) (W : WX) (t : TA) (m : M (List D)) : Prop := ∀ F H σ S T Q, St' G F H σ S T → PR G W F H σ T (KL G F H σ T Q) (m S) → t σ H Q
def TrE (X : Cx) (G : Cfgx) (W : WX) (e : Expr) (m : E) : Prop := ∃ t, PE X e t ∧ DenE G W t m
def TrT (X : Cx) (G : Cfgx) (W : WX) (e : Expr) (m : T) : Prop := ∃ t, PT X e t ∧ DenT G W t m
def TrW (X : Cx) (G : Cfgx) (W : WX) (e : Expr) (m : T) : Prop := ∃ t, PW X e t ∧ DenT G W t m
def TrA (X : Cx) (G : Cfgx) (W : WX) (es : List Expr) (ms : List E) : Prop := ∃ t, PA X es t ∧ DenA G W t (eAll ms)
theorem takesN0 {X : Cx} : L2N.Takes X (fun _ _ _ _ => False) := fun _ _ z => by
  obtain ⟨_, _, _, _, _, _, _, _, _, _, _, _, _, _, _, _, z⟩ := z
  exact z.elim
/-- the context of a body -/
structure Cok (X : Cx) (G : Cfgx) (W : WX) (k : Nat) : Prop where
  hK : X.K = G.K
  tk : L2N.Takes X W
  po : PassesOwn (model X.prog X.w) X.A X.env X.xe
  calm : X.calm = true
  room : Room k X.A
  nd : X.N.Nodup
/-- an operation on two values -/
def S2 (G : Cfgx) (r : R2) (f : D → D → Option KD) : Prop := ∀ F H σ S T x y dx dy kd Q, St' G F H σ S T → Rep G F x dx → Rep G F y dy → f dx dy = some kd → KE G F H σ T Q kd S → r x y H Q
def S1 (G : Cfgx) (r : V → Hp → VK → Prop) (f : D → Option KD) : Prop := ∀ F H σ S T x dx kd Q, St' G F H σ S T → Rep G F x dx → f dx = some kd → KE G F H σ T Q kd S → r x H Q
def SN (G : Cfgx) (r : List V → Hp → VK → Prop) (f : List D → Option KD) : Prop := ∀ F H σ S T xs dxs kd Q, St' G F H σ S T → Reps G F xs dxs → f dxs = some kd → KE G F H σ T Q kd S → r xs H Q
/-- what a temporary owns becomes frozen -/
theorem freeze_core {G : Cfgx} {F H F' H' : Hp} {σ : L2.St} {S : List Slot} {T T' f : Cnt} {k : Kd} {v : V} {d : D} (s' : Step F H T F' H' (add T' f)) (st' : St' G F' H' σ S T') (o : Own G F' H' k v d f) (le : ∀ a, T' a + f a ≤ 1) (di : ∀ a, F' a ≠ none → f a = 0) :
    ∃ F2, Step F H T F2 H' T' ∧ St' G F2 H' σ S T' ∧ Rep G F2 v d ∧ Same F' F2 := by
  have hO : Same F' H' := st'.sub
  let F2 : Hp := fun a => if f a = 0 then F' a else H' a
  have sf : Same F' F2 := fun a o e => by
    show (if f a = 0 then F' a else H' a) = some o
    rw [if_pos (di a (by rw [e]; simp))]; exact e
  have sub2 : Same F2 H' := fun a o e => by
    have e : (if f a = 0 then F' a else H' a) = some o := e
    by_cases z : f a = 0
    · rw [if_pos z] at e; exact hO _ _ e
    · rw [if_neg z] at e; exact e
  have ff : ∀ a, f a ≠ 0 → F2 a = H' a := fun a n => if_neg n
  have rp : ∀ {k : Kd} {v : V} {d : D} {g : Cnt}, Own G F' H' k v d g → (∀ a, g a ≤ f a) → Own G F2 F2 k v d g := fun o l => o.mono sf fun a u n e => by
    rw [ff a (by have := l a; omega)]; exact e
  have r2 : Rep G F2 v d := (rp o fun a => Nat.le_refl _).rep (Same.refl F2)
  refine ⟨F2, ⟨s'.sF.trans sf, s'.fr, fun a n => s'.nT a (by simp only [add]; omega), fun a h n => ?_, s'.tl⟩, ⟨st'.pi, sub2, st'.sl.mono sf fun _ _ _ h => h, st'.le, fun a n => ?_⟩, r2, sf⟩
  · by_cases z : f a = 0
    · refine s'.nF a h ?_
      have n : (if f a = 0 then F' a else H' a) ≠ none := n
      rwa [if_pos z] at n
    · exact ((s'.nT a (by simp only [add]; omega)).symm).imp id .inl
  · have n : (if f a = 0 then F' a else H' a) ≠ none := n
    by_cases z : f a = 0
    · rw [if_pos z] at n; exact st'.di a n
    · have := le a; omega
theorem KDt.freeze {G : Cfgx} {F H : Hp} {σ : L2.St} {T : Cnt} {Q : VK} {kd : KD} {S : List Slot} (q : KDt G F H σ T Q kd.2 S) : KE G F H σ T Q kd S := fun v F' H' T' f s' st' o le di => by
  obtain ⟨F2, s2, st2, r2, _⟩ := freeze_core s' st' o le di
  exact q v F2 H' T' s2 st2 r2
section
variable {X : Cx} {G : Cfgx} {W : WX} {k : Nat}
theorem DenE.dat {t : TE} {m : E} (h : DenE G W t m) : DenD G W t (eDat m) := fun F H σ S T Q st p =>
  h F H σ S T Q st (PR.bind (f := fun kd => M.pure kd.2) p fun kd S1 q => KDt.freeze (show KDt G F H σ T Q kd.2 S1 from q))
theorem tr_var (i : Nat) {x : PySem.Str} {pos : Pos} (hN : X.N[i]? = some x := by rfl) (hv : Vis X.env.scope x := by first | exact Or.inl rfl | exact Or.inr (Or.inl rfl) | exact Or.inr (Or.inr rfl)) (hd : (x == ("__debug__" : PySem.Str)) = false := by decide)
    (hcd : (x == ("__classdict__" : PySem.Str)) = false := by decide) : TrE X G W (.Name x pos) (eVar i) := by
  refine ⟨_, pe_var hN hv hd hcd, fun F H σ S T Q st p => ?_⟩
  unfold eVar at p
  cases e : S[i]? with
  | none => rw [e] at p; exact p.elim
  | some s =>
    rw [e] at p
    cases s with
    | none => exact p.elim
    | some kd =>
      obtain ⟨kk, d⟩ := kd
      cases kk with
      | fz =>
        obtain ⟨v, f, hv, o, _⟩ := st.sl.var e
        cases o with
        | fz r => exact ⟨v, hv, KE.val p st r⟩
      | _ => exact p.elim
theorem tr_int {i : Int} {j} {pos : Pos} : TrE X G W (.Constant (.int i) j pos) (eCon (.int i)) := ⟨_, pe_int, fun F H σ S T Q st p => KE.val p st (.int i)⟩
theorem tr_bl {b : Bool} {j} {pos : Pos} : TrE X G W (.Constant (.bool b) j pos) (eCon (.bl b)) := ⟨_, pe_bl, fun F H σ S T Q st p => KE.val p st (.bl b)⟩
theorem tr_non {j} {pos : Pos} : TrE X G W (.Constant .none j pos) (eCon .non) := ⟨_, pe_non, fun F H σ S T Q st p => KE.val p st .non⟩
theorem tr_str {z : PySem.Str} {j} {pos : Pos} (s : List Nat) (hs : z.cps.toList = s := by rfl) : TrE X G W (.Constant (.str z) j pos) (eCon (.str s)) := ⟨_, pe_str, fun F H σ S T Q st p => KE.val p st (hs ▸ .str z)⟩
/-- a constant of the module -/
theorem tr_glob {x : PySem.Str} {v : V} {u : Value} {pos : Pos} {d : D} (hm : X.mg x = some u) (r : RelV v u) (rep : ∀ F, Rep G F v d) (hg : Gl X x := by rfl) (hd : (x == ("__debug__" : PySem.Str)) = false := by decide) : TrE X G W (.Name x pos) (eCon d) :=
  ⟨_, pe_glob hg hm r hd, fun F H σ S T Q st p => KE.val p st (rep F)⟩
theorem tr_fr {e : Expr} {m : E} (h : TrE X G W e m) : TrE X G W e (eFr m) := by
  obtain ⟨t, hp, hd⟩ := h
  refine ⟨t, hp, fun F H σ S T Q st p => ?_⟩
  refine hd F H σ S T Q st (PR.bind (f := fun kd => M.pure ((.fz, kd.2) : KD)) p fun kd S1 q => KDt.freeze fun v F' H' T' s' st' r => ?_)
  exact (show KE G F H σ T Q (.fz, kd.2) S1 from q) v F' H' T' nil0 (s'.castR fun a => rfl) st' (.fz r) (fun a => st'.le a) fun _ _ => rfl
/-- a look at owned things -/
theorem flat_rep {F : Hp} {v : V} {d : D} (h : d.flat = true) (r : Rep G F v d) (F' : Hp) : Rep G F' v d := by
  cases r with
  | non => exact .non
  | bl b => exact .bl b
  | int i => exact .int i
  | str z => exact .str z
  | _ => cases h
theorem slots_frz {F H : Hp} {σ : L2.St} {S : List Slot} {T : Cnt} (e : Same F H) (h : Slots G F H σ S T) : Slots G H H σ (S.map frz) nil0 := by
  induction h with
  | nil => exact .nil
  | @cons v s f g σ S h r ih =>
    have : Slots G H H (v :: σ) (frz s :: S.map frz) (add nil0 nil0) := by
      refine .cons ?_ ih
      cases h with
      | no v => exact .no v
      | yes o => exact .yes (.fz (o.rep e))
    exact this
theorem tra_nil : TrA X G W [] [] := ⟨_, pa_nil, fun F H σ S T Q st p => by
  have p : KL G F H σ T Q [] S := p
  exact p [] F H T (Step.refl F H T) st .nil⟩
theorem tra_cons {e : Expr} {es : List Expr} {m : E} {ms : List E} (h : TrE X G W e m) (r : TrA X G W es ms) (hs : starEach (e :: es) X.env = (false, eval e X.env) :: starEach es X.env := by rfl) : TrA X G W (e :: es) (m :: ms) := by
  obtain ⟨t, hp, hd⟩ := h
  obtain ⟨u, hq, hu⟩ := r
  refine ⟨_, pa_cons hp hq hs, fun F H σ S T Q st p => ?_⟩
  refine DenE.dat hd F H σ S T _ st (PR.bind p fun d S1 q => ?_)
  intro v F1 H1 T1 s1 st1 r1
  refine hu F1 H1 σ S1 T1 _ st1 (PR.bind (PR.re s1 (fun _ _ h => h) q) fun ds S2 q2 => ?_)
  intro vs F2 H2 T2 s2 st2 r2
  have q2 : KL G F H σ T Q (d :: ds) S2 := q2
  exact q2 (v :: vs) F2 H2 T2 (s1.trans s2) st2 (.cons (r1.mono s2.sF) r2)
end
end TB
namespace TB
open PySem L2
theorem Reps.len {G : Cfg} {F : Hp} : ∀ {vs : List V} {ds : List D}, Reps G F vs ds → vs.length = ds.length
  | _, _, .nil => rfl
  | _, _, .cons _ r => by simp [Reps.len r]
section
variable {X : Cx} {G : Cfgx} {W : WX} {k : Nat}
theorem tr_tup {es : List Expr} {ms : List E} {c} {pos : Pos} (h : TrA X G W es ms) : TrE X G W (.Tuple es c pos) (eApp fTup ms) := by
  obtain ⟨t, hp, hd⟩ := h
  refine ⟨_, pe_tup hp, fun F H σ S T Q st p => hd F H σ S T _ st (PR.bind p fun ds S1 q => ?_)⟩
  intro vs F1 H1 T1 s1 st1 r1
  have hl : vs.length = ds.length := r1.len
  have q : PR G W F H σ T (KE G F H σ T Q) (ofO (fTup ds) S1) := q
  unfold fTup at q
  by_cases z : ds.length ≤ sizeMax
  · rw [if_pos z] at q
    have q : KE G F H σ T Q (.fz, .tup ds) S1 := q
    exact ⟨by rw [hl]; exact z, fun x hx => KE.newF (q.re s1) st1 (fun x => by
      by_cases n : F1 x = none
      · exact .inl (.tup (.inl (.inl upd_same)) (r1.mono fun a u e => by rw [upd_ne (ne_of_none e n)]; exact e))
      · exact .inr n) x hx⟩
  · rw [if_neg z] at q; exact q.elim
theorem tr_lst {es : List Expr} {ms : List E} {pos : Pos} (h : TrA X G W es ms) : TrE X G W (.List es pos) (eApp fLst ms) := by
  obtain ⟨t, hp, hd⟩ := h
  refine ⟨_, pe_lst hp, fun F H σ S T Q st p => hd F H σ S T _ st (PR.bind p fun ds S1 q => ?_)⟩
  intro vs F1 H1 T1 s1 st1 r1
  have hl : vs.length = ds.length := r1.len
  have q : PR G W F H σ T (KE G F H σ T Q) (ofO (fLst ds) S1) := q
  unfold fLst at q
  by_cases z : ds.length ≤ sizeMax
  · rw [if_pos z] at q
    have q : KE G F H σ T Q (.li .fz, .lst ds) S1 := q
    exact ⟨by rw [hl]; exact z, fun x hx => KE.newL (q.re s1) st1 r1 x hx⟩
  · rw [if_neg z] at q; exact q.elim
theorem den_op {r : R2} {f : D → D → Option KD} (hs : S2 G r f) {ta tb : TE} {a b : E} (ha : DenE G W ta a) (hb : DenE G W tb b) : DenE G W (tOp r ta tb) (eOp f a b) := fun F H σ S T Q st p => by
  refine ha.dat F H σ S T _ st (PR.bind p fun dx S1 q => ?_)
  intro v F1 H1 T1 s1 st1 r1
  refine hb.dat F1 H1 σ S1 T1 _ st1 (PR.bind (PR.re s1 (fun _ _ h => h) q) fun dy S2 q2 => ?_)
  intro u F2 H2 T2 s2 st2 r2
  cases e : f dx dy with
  | none => rw [e] at q2; exact q2.elim
  | some d =>
    rw [e] at q2
    have q2 : KE G F H σ T Q d S2 := q2
    exact hs F2 H2 σ S2 T2 v u dx dy d Q st2 (r1.mono s2.sF) r2 e (q2.re (s1.trans s2))
theorem den_app {r : List V → Hp → VK → Prop} {f : List D → Option KD} (hs : SN G r f) {ta : TA} {ms : List E} (ha : DenA G W ta (eAll ms)) : DenE G W (tCB r ta) (eApp f ms) := fun F H σ S T Q st p => by
  refine ha F H σ S T _ st (PR.bind p fun dx S1 q => ?_)
  intro v F1 H1 T1 s1 st1 r1
  cases e : f dx with
  | none => rw [e] at q; exact q.elim
  | some d =>
    rw [e] at q
    have q : KE G F H σ T Q d S1 := q
    exact hs F1 H1 σ S1 T1 v dx d Q st1 r1 e (q.re s1)
theorem tr_op {op : Operator} {r : R2} {f : D → D → Option KD} {a b : Expr} {ma mb : E} {pos : Pos} (ho : OpR X (binaryOp op) r) (hs : S2 G r f) (ha : TrE X G W a ma) (hb : TrE X G W b mb) : TrE X G W (.BinOp a op b pos) (eOp f ma mb) := by
  obtain ⟨ta, pa, da⟩ := ha
  obtain ⟨tb, pb, db⟩ := hb
  exact ⟨_, pe_op ho pa pb, den_op hs da db⟩
theorem tr_cmp {op : CmpOp} {r : R2} {f : D → D → Option KD} {a b : Expr} {ma mb : E} {pos : Pos} (ho : OpR X (compareOp op) r) (hs : S2 G r f) (ha : TrE X G W a ma) (hb : TrE X G W b mb) (hm : behindInMarks op b = false) : TrE X G W (.Compare a [op] [b] pos) (eOp f ma mb) := by
  obtain ⟨ta, pa, da⟩ := ha
  obtain ⟨tb, pb, db⟩ := hb
  exact ⟨_, pe_cmpR ho pa pb hm, den_op hs da db⟩
theorem tr_ix {r : R2} {f : D → D → Option KD} {a b : Expr} {ma mb : E} {pos : Pos} (ho : IxR X r) (hs : S2 G r f) (ha : TrE X G W a ma) (hb : TrE X G W b mb) (hp : PlainIx b := by exact fun _ _ => rfl) : TrE X G W (.Subscript a b pos) (eOp f ma mb) := by
  obtain ⟨ta, pa, da⟩ := ha
  obtain ⟨tb, pb, db⟩ := hb
  exact ⟨_, pe_ix ho pa pb hp, den_op hs da db⟩
theorem den_test {t : TE} {m : E} (h : DenE G W t m) : DenT G W (tTest t) (eBool m) := fun F H σ S T Q st p => by
  refine h F H σ S T _ st (PR.bind p fun kd S1 q => ?_)
  obtain ⟨kk, d⟩ := kd
  intro v F' H' T' f s' st' o le di
  cases d with
  | bl b =>
    have q : KB G F H σ T Q b S1 := q
    cases o with
    | fz r => cases r; exact ⟨b, rfl, q F' H' T' (s'.castR fun a => rfl) st'⟩
  | _ => exact q.elim
theorem tt_cmp {op : CmpOp} {r : R2} {f : D → D → Option KD} {a b : Expr} {ma mb : E} {pos : Pos} (ho : OpR X (compareOp op) r) (hs : S2 G r f) (ha : TrE X G W a ma) (hb : TrE X G W b mb) (hm : behindInMarks op b = false) : TrT X G W (.Compare a [op] [b] pos) (eBool (eOp f ma mb)) := by
  obtain ⟨ta, pa, da⟩ := ha
  obtain ⟨tb, pb, db⟩ := hb
  exact ⟨_, pt_cmpR ho pa pb hm, den_test (den_op hs da db)⟩
theorem tt_val {e : Expr} {m : E} (h : TrE X G W e m) (he : ∀ whole, isTrue e X.env whole = (do let v ← whole; standAt e.pos; holding [v] (truthy v)) := by intro _; rfl) : TrT X G W e (eBool m) := by
  obtain ⟨t, pa, da⟩ := h
  exact ⟨_, pt_val pa he, den_test da⟩
theorem tw_and1 {a : Expr} {ma : T} {pos : Pos} (ha : TrT X G W a ma) : TrW X G W (.BoolOp .And [a] pos) ma := by
  obtain ⟨t, p, d⟩ := ha
  exact ⟨_, pw_and1 p, d⟩
theorem tw_or1 {a : Expr} {ma : T} {pos : Pos} (ha : TrT X G W a ma) : TrW X G W (.BoolOp .Or [a] pos) ma := by
  obtain ⟨t, p, d⟩ := ha
  exact ⟨_, pw_or1 p, d⟩
theorem tw_and {a b : Expr} {rest : List Expr} {ma mb : T} {pos : Pos} (ha : TrT X G W a ma) (hb : TrW X G W (.BoolOp .And (b :: rest) pos) mb) : TrW X G W (.BoolOp .And (a :: b :: rest) pos) (tAnd ma mb) := by
  obtain ⟨t, p, d⟩ := ha
  obtain ⟨u, q, e⟩ := hb
  refine ⟨_, pw_and p q, fun F H σ S T Q st z => d F H σ S T _ st (PR.bind z fun c S1 y => ?_)⟩
  intro F1 H1 T1 s1 st1
  cases c with
  | true => exact e F1 H1 σ S1 T1 Q st1 (PR.re s1 (fun _ _ => KB.re s1) y)
  | false => exact (show KB G F H σ T Q false S1 from y) F1 H1 T1 s1 st1
theorem tw_or {a b : Expr} {rest : List Expr} {ma mb : T} {pos : Pos} (ha : TrT X G W a ma) (hb : TrW X G W (.BoolOp .Or (b :: rest) pos) mb) : TrW X G W (.BoolOp .Or (a :: b :: rest) pos) (tOr ma mb) := by
  obtain ⟨t, p, d⟩ := ha
  obtain ⟨u, q, e⟩ := hb
  refine ⟨_, pw_or p q, fun F H σ S T Q st z => d F H σ S T _ st (PR.bind z fun c S1 y => ?_)⟩
  intro F1 H1 T1 s1 st1
  cases c with
  | false => exact e F1 H1 σ S1 T1 Q st1 (PR.re s1 (fun _ _ => KB.re s1) y)
  | true => exact (show KB G F H σ T Q true S1 from y) F1 H1 T1 s1 st1
theorem tt_w {e : Expr} {m : T} (h : TrW X G W e m) : TrT X G W e m := by
  obtain ⟨t, p, d⟩ := h
  exact ⟨t, p.pt, d⟩
theorem tt_not {a : Expr} {ma : T} {pos : Pos} (ha : TrT X G W a ma) : TrT X G W (.UnaryOp .Not a pos) (tNot ma) := by
  obtain ⟨t, p, d⟩ := ha
  refine ⟨_, pt_not p, fun F H σ S T Q st z => d F H σ S T _ st (PR.bind z fun c S1 y => ?_)⟩
  intro F1 H1 T1 s1 st1
  exact (show KB G F H σ T Q (!c) S1 from y) F1 H1 T1 s1 st1
theorem den_boolE {t : TE} {m : E} (h : DenE G W t m) : ∀ F H σ S T (Q : V → Hp → Prop), St' G F H σ S T → PR G W F H σ T (fun b S' => ∀ F' H' T', Step F H T F' H' T' → St' G F' H' σ S' T' → Q (.bl b) H') (eBool m S) → t σ H Q := fun F H σ S T Q st p => by
  refine h F H σ S T _ st (PR.bind p fun kd S1 q => ?_)
  obtain ⟨kk, d⟩ := kd
  intro v F' H' T' f s' st' o le di
  cases d with
  | bl b =>
    have q : ∀ F' H' T', Step F H T F' H' T' → St' G F' H' σ S1 T' → Q (.bl b) H' := q
    cases o with
    | fz r => cases r; exact q F' H' T' (s'.castR fun a => rfl) st'
  | _ => exact q.elim
theorem tr_one {op} {a : Expr} {m : E} {pos : Pos} (h : TrE X G W a m) : TrE X G W (.BoolOp op [a] pos) m := by
  obtain ⟨t, p, d⟩ := h
  exact ⟨t, pe_one p, d⟩
theorem tr_and {a b : Expr} {rest : List Expr} {ma mb : E} {pos : Pos} (ha : TrE X G W a ma) (hb : TrE X G W (.BoolOp .And (b :: rest) pos) mb) : TrE X G W (.BoolOp .And (a :: b :: rest) pos) (eAnd ma mb) := by
  obtain ⟨t, p, d⟩ := ha
  obtain ⟨u, q, e⟩ := hb
  refine ⟨_, pe_and p q, fun F H σ S T Q st z => den_boolE d F H σ S T _ st (PR.bind z fun c S1 y => ?_)⟩
  intro F1 H1 T1 s1 st1
  refine ⟨c, rfl, ?_⟩
  cases c with
  | true => exact e F1 H1 σ S1 T1 Q st1 (PR.reE s1 y)
  | false => exact KE.val (KE.re s1 (show KE G F H σ T Q (.fz, .bl false) S1 from y)) st1 (.bl false)
theorem tr_not {a : Expr} {ma : E} {pos : Pos} (ha : TrE X G W a ma) : TrE X G W (.UnaryOp .Not a pos) (eNot ma) := by
  obtain ⟨t, p, d⟩ := ha
  refine ⟨_, pe_not p, fun F H σ S T Q st z => den_boolE d F H σ S T _ st (PR.bind z fun c S1 y => ?_)⟩
  intro F1 H1 T1 s1 st1
  exact ⟨c, rfl, KE.val (KE.re s1 (show KE G F H σ T Q (.fz, .bl (!c)) S1 from y)) st1 (.bl (!c))⟩
theorem tr_if {c a b : Expr} {mc : T} {ma mb : E} {pos : Pos} (hc : TrT X G W c mc) (ha : TrE X G W a ma) (hb : TrE X G W b mb) : TrE X G W (.IfExp c a b pos) (eIf mc ma mb) := by
  obtain ⟨t, p, d⟩ := hc
  obtain ⟨u, q, e⟩ := ha
  obtain ⟨w, r, g⟩ := hb
  refine ⟨_, pe_ifExp p q r, fun F H σ S T Q st z => d F H σ S T _ st (PR.bind z fun x S1 y => ?_)⟩
  intro F1 H1 T1 s1 st1
  cases x with
  | true => exact e F1 H1 σ S1 T1 Q st1 (PR.reE s1 y)
  | false => exact g F1 H1 σ S1 T1 Q st1 (PR.reE s1 y)
theorem den_chain {r r' : R2} {f g : D → D → Option KD} (hs : S2 G r f) (hs' : S2 G r' g) {ta tb tc : TE} {a b c : E} (ha : DenE G W ta a) (hb : DenE G W tb b) (hc : DenE G W tc c) : DenE G W (tChain r r' ta tb tc) (eChain f g a b c) := fun F H σ S T Q st p => by
  refine ha.dat F H σ S T _ st (PR.bind p fun dx S1 q => ?_)
  intro v F1 H1 T1 s1 st1 r1
  refine hb.dat F1 H1 σ S1 T1 _ st1 (PR.bind (PR.re s1 (fun _ _ h => h) q) fun dy S2 q2 => ?_)
  intro u F2 H2 T2 s2 st2 r2
  cases e : f dx dy with
  | none => rw [e] at q2; exact q2.elim
  | some d =>
    rw [e] at q2
    refine hs F2 H2 σ S2 T2 v u dx dy d _ st2 (r1.mono s2.sF) r2 e ?_
    intro z F3 H3 T3 f3 s3 st3 o le di
    obtain ⟨kk, d⟩ := d
    cases kk with
    | fz =>
      cases d with
      | bl bb =>
        cases o with
        | fz rr =>
          cases rr
          refine ⟨bb, rfl, ?_⟩
          have s03 : Step F H T F3 H3 T3 := (s1.trans s2).trans (s3.castR fun a => rfl)
          cases bb with
          | false => exact KE.val (KE.re s03 (show KE G F H σ T Q (.fz, .bl false) S2 from q2)) st3 (.bl false)
          | true =>
            show tc σ H3 _
            have q2 : PR G W F1 H1 σ T1 (KE G F H σ T Q) (M.bind (eDat c) (fun z => ofO (g dy z)) S2) := q2
            refine hc.dat F3 H3 σ S2 T3 _ st3 (PR.bind (PR.re (s2.trans (s3.castR fun a => rfl)) (fun _ _ h => h) q2) fun dz S4 q4 => ?_)
            intro w F4 H4 T4 s4 st4 r4
            cases e4 : g dy dz with
            | none => rw [e4] at q4; exact q4.elim
            | some d4 =>
              rw [e4] at q4
              have q4 : KE G F H σ T Q d4 S4 := q4
              exact hs' F4 H4 σ S4 T4 u w dy dz d4 Q st4 ((r2.mono s3.sF).mono s4.sF) r4 e4 (q4.re (s03.trans s4))
      | _ => exact q2.elim
    | _ => exact q2.elim
theorem tr_chain {op op' : CmpOp} {r r' : R2} {f g : D → D → Option KD} {a b c : Expr} {ma mb mc : E} {pos : Pos} (ho : OpR X (compareOp op) r) (ho' : OpR X (compareOp op') r') (hs : S2 G r f) (hs' : S2 G r' g) (ha : TrE X G W a ma) (hb : TrE X G W b mb) (hc : TrE X G W c mc)
    (hm : lastMarks [op, op'] [b, c] = false := by with_unfolding_all rfl) : TrE X G W (.Compare a [op, op'] [b, c] pos) (eChain f g ma mb mc) := by
  obtain ⟨ta, pa, da⟩ := ha
  obtain ⟨tb, pb, db⟩ := hb
  obtain ⟨tc, pc, dc⟩ := hc
  exact ⟨_, pe_chain ho ho' pa pb pc hm, den_chain hs hs' da db dc⟩
theorem tt_chain {op op' : CmpOp} {r r' : R2} {f g : D → D → Option KD} {a b c : Expr} {ma mb mc : E} {pos : Pos} (ho : OpR X (compareOp op) r) (ho' : OpR X (compareOp op') r') (hs : S2 G r f) (hs' : S2 G r' g) (ha : TrE X G W a ma) (hb : TrE X G W b mb) (hc : TrE X G W c mc)
    (hm : lastMarks [op, op'] [b, c] = false := by with_unfolding_all rfl) : TrT X G W (.Compare a [op, op'] [b, c] pos) (eBool (eChain f g ma mb mc)) := by
  obtain ⟨ta, pa, da⟩ := ha
  obtain ⟨tb, pb, db⟩ := hb
  obtain ⟨tc, pc, dc⟩ := hc
  exact ⟨_, pt_chain ho ho' pa pb pc hm, den_test (den_chain hs hs' da db dc)⟩
theorem tr_callB {x : PySem.Str} {id : String} {r : List V → Hp → VK → Prop} {f : List D → Option KD} {p pos : Pos} {e : Expr} {es : List Expr} {ms : List E} (hc : CallR X (.builtin id) r) (hs : SN G r f) (hm : X.mg x = none) (hv : bootBuiltins x = some (.builtin id)) (ha : TrA X G W (e :: es) ms) (hg : Gl X x := by rfl)
    (hn : x ≠ "__name__" := by decide) (hdb : (x == ("__debug__" : PySem.Str)) = false := by decide) (he : starEach (e :: es) X.env = (false, eval e X.env) :: starEach es X.env := by rfl) (hpl : (backTo pos (starEach es X.env)).any (·.1) = false := by rfl) : TrE X G W (.Call (.Name x p) (e :: es) [] pos) (eApp f ms) := by
  obtain ⟨t, pa, da⟩ := ha
  exact ⟨_, pe_callB hc hg hm hv pa hn hdb he hpl, den_app hs da⟩
theorem tr_callT {x : PySem.Str} {id : String} {r : List V → Hp → VK → Prop} {f : List D → Option KD} {p pos : Pos} {e : Expr} {es : List Expr} {ms : List E} (hc : CallR X (.type id) r) (hs : SN G r f) (hm : X.mg x = none) (hv : bootBuiltins x = some (.type id)) (ha : TrA X G W (e :: es) ms) (hg : Gl X x := by rfl)
    (hn : x ≠ "__name__" := by decide) (hdb : (x == ("__debug__" : PySem.Str)) = false := by decide) (he : starEach (e :: es) X.env = (false, eval e X.env) :: starEach es X.env := by rfl) (hpl : (backTo pos (starEach es X.env)).any (·.1) = false := by rfl) : TrE X G W (.Call (.Name x p) (e :: es) [] pos) (eApp f ms) := by
  obtain ⟨t, pa, da⟩ := ha
  exact ⟨_, pe_callTy hc hg hm hv pa hn hdb he hpl, den_app hs da⟩
end
end TB
namespace TB
open PySem L2
def PXs (G : Cfgx) (W : WX) (F H : Hp) (T : Cnt) (x : Xc) (S' : List Slot) : Prop :=
  ∀ σ' cls dx F' H' T', Step F H T F' H' T' → St' G F' H' σ' S' T' → ExcR G x cls dx H' → W cls dx σ' H'
def KS (G : Cfgx) (F H : Hp) (T : Cnt) (D : Ends) (f : Fl) (S' : List Slot) : Prop := match f with
  | .nx => ∀ σ' F' H' T', Step F H T F' H' T' → St' G F' H' σ' S' T' → D.nx σ' H'
  | .bk => ∀ σ' F' H' T', Step F H T F' H' T' → St' G F' H' σ' S' T' → D.bk σ' H'
  | .ct => ∀ σ' F' H' T', Step F H T F' H' T' → St' G F' H' σ' S' T' → D.ct σ' H'
  | .rt r => ∀ v σ' F' H' T' f, Step F H T F' H' (add T' f) → St' G F' H' σ' S' T' → Own G F' H' r.1 v r.2 f → (∀ a, T' a + f a ≤ 1) → (∀ a, F' a ≠ none → f a = 0) → D.rt v H'
def PRs {α : Type} (G : Cfgx) (W : WX) (F H : Hp) (T : Cnt) (K : α → List Slot → Prop) : R α → Prop
  | .ok a S => K a S
  | .exc x S => PXs G W F H T x S
  | .bad => False
section
variable {G : Cfgx} {W : WX} {F H F1 H1 : Hp} {σ : L2.St} {T T1 : Cnt} {α β : Type}
theorem PXs.re {x : Xc} {S : List Slot} (s : Step F H T F1 H1 T1) (h : PXs G W F H T x S) : PXs G W F1 H1 T1 x S := fun σ' cls dx F' H' T' s' st e => h σ' cls dx F' H' T' (s.trans s') st e
theorem KS.re {D : Ends} {f : Fl} {S : List Slot} (s : Step F H T F1 H1 T1) (h : KS G F H T D f S) : KS G F1 H1 T1 D f S := by
  cases f with
  | nx => exact fun σ' F' H' T' s' st => (show ∀ σ' F' H' T', Step F H T F' H' T' → St' G F' H' σ' S T' → D.nx σ' H' from h) σ' F' H' T' (s.trans s') st
  | bk => exact fun σ' F' H' T' s' st => (show ∀ σ' F' H' T', Step F H T F' H' T' → St' G F' H' σ' S T' → D.bk σ' H' from h) σ' F' H' T' (s.trans s') st
  | ct => exact fun σ' F' H' T' s' st => (show ∀ σ' F' H' T', Step F H T F' H' T' → St' G F' H' σ' S T' → D.ct σ' H' from h) σ' F' H' T' (s.trans s') st
  | rt r => exact fun v σ' F' H' T' f s' st => (show ∀ v σ' F' H' T' f, Step F H T F' H' (add T' f) → St' G F' H' σ' S T' → Own G F' H' r.1 v r.2 f → (∀ a, T' a + f a ≤ 1) → (∀ a, F' a ≠ none → f a = 0) → D.rt v H' from h) v σ' F' H' T' f (s.trans s') st
theorem PRs.bind {K1 : α → List Slot → Prop} {K2 : β → List Slot → Prop} {r : R α} {f : α → M β} (h : PRs G W F H T K2 (r.bind f)) (k : ∀ a S, PRs G W F H T K2 (f a S) → K1 a S) : PR G W F H σ T K1 r := by
  cases r with
  | ok a S => exact k a S h
  | exc x S => exact fun cls dx F' H' T' s st e => (show PXs G W F H T x S from h) σ cls dx F' H' T' s st e
  | bad => exact h
theorem PRs.binds {K1 : α → List Slot → Prop} {K2 : β → List Slot → Prop} {r : R α} {f : α → M β} (h : PRs G W F H T K2 (r.bind f)) (k : ∀ a S, PRs G W F H T K2 (f a S) → K1 a S) : PRs G W F H T K1 r := by
  cases r with
  | ok a S => exact k a S h
  | exc x S => exact h
  | bad => exact h
theorem PRs.re {K1 K2 : α → List Slot → Prop} {r : R α} (s : Step F H T F1 H1 T1) (k : ∀ a S, K1 a S → K2 a S) (h : PRs G W F H T K1 r) : PRs G W F1 H1 T1 K2 r := by
  cases r with
  | ok a S => exact k a S h
  | exc x S => exact PXs.re s h
  | bad => exact h
theorem PRs.reS {D : Ends} {r : R Fl} (s : Step F H T F1 H1 T1) (h : PRs G W F H T (KS G F H T D) r) : PRs G W F1 H1 T1 (KS G F1 H1 T1 D) r := PRs.re s (fun _ _ => KS.re s) h
end
def DenS (G : Cfgx) (W : WX) (t : TS) (m : St) : Prop := ∀ F H σ S T D, St' G F H σ S T → PRs G W F H T (KS G F H T D) (m S) → t D σ H
def TrS (X : Cx) (G : Cfgx) (W : WX) (s : Stmt) (m : St) : Prop := ∃ t, L2.PS X s t ∧ DenS G W t m
def TrSs (X : Cx) (G : Cfgx) (W : WX) (s : List Stmt) (m : St) : Prop := ∃ t, PSs X s t ∧ DenS G W t m
/-- the slot i filled anew -/
theorem St'.set {G : Cfgx} {F H : Hp} {σ : L2.St} {S : List Slot} {T f : Cnt} {i : Nat} {k : Kd} {v : V} {d : D} (st : St' G F H σ S T) (hi : i < S.length) (hp : i ∉ G.pk) (o : Own G F H k v d f) (le : ∀ a, T a + f a ≤ 1) (di : ∀ a, F a ≠ none → f a = 0) :
    ∃ T', St' G F H (σ.set i (some v)) (S.set i (some (k, d))) T' ∧ ∀ a, T' a ≤ T a + f a := by
  obtain ⟨v0, f0, T0, ht, hv, ho, back⟩ := st.sl.at (List.getElem?_eq_getElem hi)
  refine ⟨add f T0, ⟨fun j hj => by rw [List.getElem?_set_ne (fun e => hp (by rw [e]; exact hj))]; exact st.pi j hj, st.sub, back F H (some v) (some (k, d)) f (Same.refl F) (fun _ _ _ h => h) (.yes o), fun a => ?_, fun a n => ?_⟩, fun a => ?_⟩
  · have := ht a; have := le a; simp only [add]; omega
  · have := ht a; have := di a n; have := st.di a n; simp only [add]; omega
  · have := ht a; simp only [add]; omega
/-- the slot i emptied -/
theorem St'.drop {G : Cfgx} {F H : Hp} {σ : L2.St} {S : List Slot} {T : Cnt} {i : Nat} (st : St' G F H σ S T) (hp : i ∉ G.pk) (v : Option V) : ∃ T', St' G F H (σ.set i v) (S.set i none) T' ∧ ∀ a, T' a ≤ T a := by
  by_cases hi : i < S.length
  · obtain ⟨v0, f0, T0, ht, hv, ho, back⟩ := st.sl.at (List.getElem?_eq_getElem hi)
    refine ⟨add nil0 T0, ⟨fun j hj => by rw [List.getElem?_set_ne (fun e => hp (by rw [e]; exact hj))]; exact st.pi j hj, st.sub, back F H v none nil0 (Same.refl F) (fun _ _ _ h => h) (.no v), fun a => ?_, fun a n => ?_⟩, fun a => ?_⟩
    · have := ht a; have := st.le a; simp only [add, nil0]; omega
    · have := ht a; have := st.di a n; simp only [add, nil0]; omega
    · have := ht a; simp only [add, nil0]; omega
  · have hs : σ.length ≤ i := by rw [st.sl.len]; omega
    rw [List.set_eq_of_length_le hs, List.set_eq_of_length_le (by omega)]
    exact ⟨T, st, fun a => Nat.le_refl _⟩
section
variable {X : Cx} {G : Cfgx} {W : WX} {k : Nat}
theorem ts_nil : TrSs X G W [] sNx := ⟨_, pss_nil, fun F H σ S T D st p => (show KS G F H T D .nx S from p) σ F H T (Step.refl F H T) st⟩
theorem ts_one {s : Stmt} {m : St} (h : TrS X G W s m) : TrSs X G W [s] m := by
  obtain ⟨t, p, d⟩ := h
  exact ⟨t, pss_one p, d⟩
theorem ts_cons {s : Stmt} {r : List Stmt} {m n : St} (h : TrS X G W s m) (g : TrSs X G W r n) : TrSs X G W (s :: r) (sSeq m n) := by
  obtain ⟨t, p, d⟩ := h
  obtain ⟨u, q, e⟩ := g
  refine ⟨_, pss_cons p q, fun F H σ S T D st z => ?_⟩
  refine d F H σ S T { D with nx := u D } st (PRs.binds z fun f S1 y => ?_)
  cases f with
  | nx => exact fun σ' F' H' T' s' st' => e F' H' σ' S1 T' D st' (PRs.reS s' y)
  | bk => exact y
  | ct => exact y
  | rt r => exact y
theorem pin_ok {i : Nat} (h : G.pk.contains i = false) : i ∉ G.pk := fun z => by rw [List.contains_iff_mem.mpr z] at h; cases h
theorem tr_set (i : Nat) {x : PySem.Str} {e : Expr} {m : E} {p pos : Pos} (C : Cok X G W k) (h : TrE X G W e m) (hp : G.pk.contains i = false := by rfl) (hi : X.N[i]? = some x := by rfl) (hx : Loc X.env.scope x := by first | exact Or.inl rfl | exact Or.inr rfl) (hs : swapsWith e (some (.Name x p)) pos.line X.env = pure false := by rfl)
    (hf : X.fn x = true ∨ X.env.scope.names.lookup x = some .local := by first | exact .inl rfl | exact .inr rfl) : TrS X G W (.Assign [.Name x p] e pos) (sSet i m) := by
  obtain ⟨t, q, d⟩ := h
  refine ⟨_, ps_set C.nd hi hx q hs hf, fun F H σ S T D st z => d F H σ S T _ st (PRs.bind z fun kd S1 y => ?_)⟩
  obtain ⟨kk, dd⟩ := kd
  intro v F' H' T' f s' st' o le di
  show D.nx (σ.set i (some v)) H'
  by_cases hl : i < S1.length
  · have y : PRs G W F H T (KS G F H T D) (if i < S1.length then .ok .nx (S1.set i (some (kk, dd))) else .bad) := y
    rw [if_pos hl] at y
    obtain ⟨T2, st2, l2⟩ := st'.set hl (pin_ok hp) o le di
    exact (show KS G F H T D .nx _ from y) _ F' H' T2 (s'.less l2) st2
  · have y : PRs G W F H T (KS G F H T D) (if i < S1.length then .ok .nx (S1.set i (some (kk, dd))) else .bad) := y
    rw [if_neg hl] at y
    exact y.elim
theorem tr_drop {e : Expr} {m : E} {pos : Pos} (h : TrE X G W e m) (hs : swapsWith e none pos.line X.env = pure false := by rfl) : TrS X G W (.Expr e pos) (sDrop m) := by
  obtain ⟨t, q, d⟩ := h
  refine ⟨_, ps_expr q hs, fun F H σ S T D st z => d F H σ S T _ st (PRs.bind z fun kd S1 y => ?_)⟩
  intro v F' H' T' f s' st' o le di
  exact (show KS G F H T D .nx S1 from y) σ F' H' T' (s'.less fun a => by simp only [add]; omega) st'
theorem tr_ret {e : Expr} {m : E} {pos : Pos} (h : TrE X G W e m) : TrS X G W (.Return (some e) pos) (sRet m) := by
  obtain ⟨t, q, d⟩ := h
  refine ⟨_, ps_ret q, fun F H σ S T D st z => d F H σ S T _ st (PRs.bind z fun kd S1 y => ?_)⟩
  intro v F' H' T' f s' st' o le di
  exact (show KS G F H T D (.rt kd) S1 from y) v σ F' H' T' f s' st' o le di
theorem tr_ifS {c : Expr} {a b : List Stmt} {mc : T} {ma mb : St} {pos : Pos} (hc : TrT X G W c mc) (ha : TrSs X G W a ma) (hb : TrSs X G W b mb) : TrS X G W (.If c a b pos) (sIf mc ma mb) := by
  obtain ⟨t, p, d⟩ := hc
  obtain ⟨u, q, e⟩ := ha
  obtain ⟨w, r, g⟩ := hb
  refine ⟨_, ps_if p q r, fun F H σ S T D st z => d F H σ S T _ st (PRs.bind z fun x S1 y => ?_)⟩
  intro F1 H1 T1 s1 st1
  cases x with
  | true => exact e F1 H1 σ S1 T1 D st1 (PRs.reS s1 y)
  | false => exact g F1 H1 σ S1 T1 D st1 (PRs.reS s1 y)
theorem tr_while (n : Nat) {c : Expr} {b : List Stmt} {mc : T} {mb : St} {pos : Pos} (C : Cok X G W k) (hc : TrT X G W c mc) (hb : TrSs X G W b mb) : TrS X G W (.While c b [] pos) (sWhile n mc mb) := by
  obtain ⟨t, p, d⟩ := hc
  obtain ⟨u, q, e⟩ := hb
  refine ⟨_, ps_while C.po p q, fun F H σ S T D st z => ?_⟩
  refine ⟨fun m σ1 H1 => ∃ F1 S1 T1, St' G F1 H1 σ1 S1 T1 ∧ PRs G W F1 H1 T1 (KS G F1 H1 T1 D) (sWhile m mc mb S1), ⟨n, F, S, T, st, z⟩, ?_⟩
  rintro m σ1 H1 ⟨F1, S1, T1, st1, z1⟩
  cases m with
  | zero => exact z1.elim
  | succ m =>
    have z1 : PRs G W F1 H1 T1 (KS G F1 H1 T1 D) ((mc S1).bind fun x => if x then M.bind mb (fun f => match f with | .nx => sWhile m mc mb | .ct => sWhile m mc mb | .bk => M.pure .nx | .rt r => M.pure (.rt r)) else M.pure .nx) := z1
    refine d F1 H1 σ1 S1 T1 _ st1 (PRs.bind z1 fun x S2 y => ?_)
    intro F2 H2 T2 s2 st2
    cases x with
    | false => exact (show KS G F1 H1 T1 D .nx S2 from y) σ1 F2 H2 T2 s2 st2
    | true =>
      have y : PRs G W F1 H1 T1 (KS G F1 H1 T1 D) ((mb S2).bind fun f => match f with | .nx => sWhile m mc mb | .ct => sWhile m mc mb | .bk => M.pure .nx | .rt r => M.pure (.rt r)) := y
      have y := PRs.reS s2 y
      refine ⟨fun σ3 H3 => ∃ F3 S3 T3, St' G F3 H3 σ3 S3 T3 ∧ PRs G W F3 H3 T3 (KS G F3 H3 T3 D) (sWhile m mc mb S3), fun σ' H' w => ⟨m, Nat.lt_succ_self m, w⟩, ?_⟩
      refine e F2 H2 σ1 S2 T2 _ st2 (PRs.binds y fun f S3 z3 => ?_)
      cases f with
      | nx => exact fun σ' F' H' T' s' st' => ⟨F', S3, T', st', PRs.reS s' z3⟩
      | ct => exact fun σ' F' H' T' s' st' => ⟨F', S3, T', st', PRs.reS s' z3⟩
      | bk => exact fun σ' F' H' T' s' st' => (show KS G F2 H2 T2 D .nx S3 from z3) σ' F' H' T' s' st'
      | rt r => exact (show KS G F2 H2 T2 D (.rt r) S3 from z3)
/-- an item, in a heap that may have got a tuple more -/
def YD (G : Cfgx) (F H : Hp) (x : V) (H' : Hp) (d : D) : Prop := (H' = H ∧ Rep G F x d) ∨ ∃ p vs ds, x = .ref p ∧ H p = none ∧ H' = upd H p (.tup vs) ∧ d = .tup ds ∧ Reps G F vs ds
def WalkD (G : Cfgx) (F : Hp) (J : L2.It) (ds : List D) : Prop := ∃ Y, L2.Walk J ds.length (fun H => Same F H) Y ∧ ∀ i H x H' d, ds[i]? = some d → Y i H x H' → YD G F H x H' d
def KI (G : Cfgx) (F H : Hp) (σ : L2.St) (T : Cnt) (R : L2.It → Hp → Prop) (ds : List D) (S' : List Slot) : Prop :=
  ∀ J F' H' T', Step F H T F' H' T' → St' G F' H' σ S' T' → WalkD G F' J ds → R J H'
def DenI (G : Cfgx) (W : WX) (wi : TI) (m : It) : Prop := ∀ F H σ S T R, St' G F H σ S T → PR G W F H σ T (KI G F H σ T R) (m S) → wi σ H R
def TrI (X : Cx) (G : Cfgx) (W : WX) (tg e : Expr) (m : It) : Prop := ∃ wi, PI X tg e wi ∧ DenI G W wi m
def DenG (G : Cfgx) (g : TG) (tg : Tg) : Prop := ∀ F H σ S T v d S' (Q : L2.St → Hp → Prop), St' G F H σ S T → Rep G F v d → tg.put d S = some S' → (∀ σ' T', St' G F H σ' S' T' → (∀ a, T' a ≤ T a) → (∀ j, j ∉ tg.sl → σ'[j]? = σ[j]?) → Q σ' H) → g v σ H Q
def DenGs (G : Cfgx) (g : TGs) (tg : List Tg) : Prop := ∀ F H σ S T vs ds S' (Q : L2.St → Hp → Prop), St' G F H σ S T → Reps G F vs ds → Tg.puts tg ds S = some S' → (∀ σ' T', St' G F H σ' S' T' → (∀ a, T' a ≤ T a) → (∀ j, j ∉ Tg.sls tg → σ'[j]? = σ[j]?) → Q σ' H) → g vs σ H Q
def TrG (X : Cx) (G : Cfgx) (e : Expr) (tg : Tg) : Prop := ∃ g, PG X e g ∧ DenG G g tg
def TrGs (X : Cx) (G : Cfgx) (es : List Expr) (tg : List Tg) : Prop := ∃ g, PGs X es g ∧ DenGs G g tg
theorem tg_nm (i : Nat) {x : PySem.Str} {pos : Pos} (nd : X.N.Nodup) (hp : G.pk.contains i = false := by rfl) (hi : X.N[i]? = some x := by rfl) (hx : Loc X.env.scope x := by first | exact Or.inl rfl | exact Or.inr rfl) (hf : X.fn x = true ∨ X.env.scope.names.lookup x = some .local := by first | exact .inl rfl | exact .inr rfl) : TrG X G (.Name x pos) (.nm i) := by
  refine ⟨_, pg_name nd hi hx hf, fun F H σ S T v d S' Q st r e k => ?_⟩
  unfold Tg.put at e
  by_cases hl : i < S.length
  · rw [if_pos hl] at e
    cases e
    obtain ⟨T2, st2, l2⟩ := st.set hl (pin_ok hp) (.fz r) (fun a => by simp only [nil0]; exact st.le a) fun _ _ => rfl
    exact k _ T2 st2 (fun a => by have := l2 a; simp only [nil0] at this; omega) fun j hj => List.getElem?_set_ne fun e => hj (by simp [Tg.sl, e])
  · rw [if_neg hl] at e; cases e
theorem tg_nil : TrGs X G [] [] := ⟨_, pgs_nil, fun F H σ S T vs ds S' Q st r e k => by
  cases r with
  | nil => unfold Tg.puts at e; cases e; exact ⟨rfl, k σ T st (fun a => Nat.le_refl _) fun _ _ => rfl⟩
  | cons a b => unfold Tg.puts at e; cases e⟩
theorem tg_cons {e : Expr} {es : List Expr} {t : Tg} {ts : List Tg} (h : TrG X G e t) (hs : TrGs X G es ts) (ha : (assignEach (e :: es) X.env).map (·.2) = assign e X.env :: (assignEach es X.env).map (·.2) := by rfl) : TrGs X G (e :: es) (t :: ts) := by
  obtain ⟨g, p, d⟩ := h
  obtain ⟨g2, p2, d2⟩ := hs
  refine ⟨_, pgs_cons p p2 ha, fun F H σ S T vs ds S' Q st r e k => ?_⟩
  cases r with
  | nil => unfold Tg.puts at e; cases e
  | @cons v dd vs ds r1 r2 =>
    unfold Tg.puts at e
    cases e1 : Tg.put t dd S with
    | none => rw [e1] at e; cases e
    | some S1 =>
      rw [e1] at e
      exact ⟨v, vs, rfl, d F H σ S T v dd S1 _ st r1 e1 fun σ1 T1 st1 l1 a1 => d2 F H σ1 S1 T1 vs ds S' Q st1 r2 e fun σ2 T2 st2 l2 a2 => k σ2 T2 st2 (fun a => Nat.le_trans (l2 a) (l1 a)) fun j hj => by
        unfold Tg.sls at hj
        exact (a2 j fun z => hj (List.mem_append_right _ z)).trans (a1 j fun z => hj (List.mem_append_left _ z))⟩
theorem tg_tup {es : List Expr} {kk : Nat} {ts : List Tg} {n : Nat} {pos : Pos} (C : Cok X G W k) (h : TrGs X G es ts) (hl : ts.length = n := by rfl) (hn : (assignEach es X.env).length = n := by rfl) (hst : (assignEach es X.env).findIdx? (·.1) = none := by rfl) : TrG X G (.Tuple es kk pos) (.tp ts) := by
  obtain ⟨g, p, d⟩ := h
  refine ⟨_, pg_tup C.calm p hn hst, fun F H σ S T v dd S' Q st r e k => ?_⟩
  cases r with
  | tup hs rs =>
    unfold Tg.put at e
    refine ⟨_, _, rfl, C.hK ▸ same_t st.sub hs, ?_, d F H σ S T _ _ S' Q st rs e (fun σ' T' st' l a => k σ' T' st' l fun j hj => a j (by unfold Tg.sl at hj; exact hj))⟩
    have : ∀ (ts : List Tg) (ds : List D) (S S' : List Slot), Tg.puts ts ds S = some S' → ds.length = ts.length := by
      intro ts
      induction ts with
      | nil => intro ds S S' e; cases ds with
        | nil => rfl
        | cons a b => unfold Tg.puts at e; cases e
      | cons t ts ih => intro ds S S' e; cases ds with
        | nil => unfold Tg.puts at e; cases e
        | cons a b =>
          unfold Tg.puts at e
          cases e1 : Tg.put t a S with
          | none => rw [e1] at e; cases e
          | some S1 => rw [e1] at e; simp [ih _ _ _ e]
    rw [rs.len, this _ _ _ _ e, hl]
  | _ => unfold Tg.put at e; cases e
theorem den_loop {wi : TI} {it : It} {g : TG} {tg : Tg} {tb : TS} {mb : St} (hi : DenI G W wi it) (hg : DenG G g tg) (hb : DenS G W tb mb) : DenS G W (tFor wi g tb) (sFor it tg mb) := fun F H σ S T D st z => by
  refine hi F H σ S T _ st (PRs.bind z fun ds S1 y => ?_)
  intro J F1 H1 T1 s1 st1 ⟨Y, w, hY⟩
  refine L2.for_it w (fun i σ' H' => ∃ F' S' T', St' G F' H' σ' S' T' ∧ Same F1 F' ∧ PRs G W F' H' T' (KS G F' H' T' D) (loop tg mb (ds.drop i) S')) ⟨F1, S1, T1, st1, Same.refl F1, PRs.reS s1 y⟩ (fun i σ' H' _ ⟨F', S', T', st', sf, _⟩ => sf.trans st'.sub) ?_ ?_
  · rintro i x σ2 H2 H3 hi ⟨F2, S2, T2, st2, sf2, p⟩ hy
    have hd : ds[i]? = some ds[i] := List.getElem?_eq_getElem hi
    have yd := hY i H2 x H3 ds[i] hd hy
    rw [List.drop_eq_getElem_cons hi] at p
    unfold loop at p
    cases e : tg.put ds[i] S2 with
    | none => rw [e] at p; exact p.elim
    | some S3 =>
      rw [e] at p
      have p : PRs G W F2 H2 T2 (KS G F2 H2 T2 D) ((mb S3).bind fun f => match f with | .nx => loop tg mb (ds.drop (i + 1)) | .ct => loop tg mb (ds.drop (i + 1)) | .bk => M.pure .nx | .rt r => M.pure (.rt r)) := p
      have turn : ∀ F3 H3 T3, Step F2 H2 T2 F3 H3 T3 → St' G F3 H3 σ2 S2 T3 → Rep G F3 x ds[i] → g x σ2 H3 fun σ4 H4 => tb { D with nx := fun σ' H' => ∃ F' S' T', St' G F' H' σ' S' T' ∧ Same F1 F' ∧ PRs G W F' H' T' (KS G F' H' T' D) (loop tg mb (ds.drop (i + 1)) S'), ct := fun σ' H' => ∃ F' S' T', St' G F' H' σ' S' T' ∧ Same F1 F' ∧ PRs G W F' H' T' (KS G F' H' T' D) (loop tg mb (ds.drop (i + 1)) S'), bk := D.nx } σ4 H4 := by
        intro F3 H3 T3 s3 st3 r3
        refine hg F3 H3 σ2 S2 T3 x ds[i] S3 _ st3 r3 e fun σ4 T4 st4 l4 _ => ?_
        have s4 : Step F2 H2 T2 F3 H3 T4 := s3.less l4
        refine hb F3 H3 σ4 S3 T4 _ st4 (PRs.binds (PRs.reS s4 p) fun f S5 q => ?_)
        cases f with
        | nx => exact fun σ' F' H' T' s' st' => ⟨F', S5, T', st', (sf2.trans s4.sF).trans s'.sF, PRs.reS s' q⟩
        | ct => exact fun σ' F' H' T' s' st' => ⟨F', S5, T', st', (sf2.trans s4.sF).trans s'.sF, PRs.reS s' q⟩
        | bk => exact fun σ' F' H' T' s' st' => (show KS G F3 H3 T4 D .nx S5 from q) σ' F' H' T' s' st'
        | rt r => exact (show KS G F3 H3 T4 D (.rt r) S5 from q)
      rcases yd with ⟨e1, r⟩ | ⟨pp, vs, dd, e1, hp, e2, e3, r⟩
      · subst e1
        exact turn F2 H3 T2 (Step.refl _ _ _) st2 (r.mono sf2)
      · subst e1 e2
        obtain ⟨st3, s3⟩ := st2.newF (o := .tup vs) hp
        refine turn _ _ T2 s3 st3 ?_
        rw [e3]
        exact .tup (.inl (.inl upd_same)) ((r.mono sf2).mono s3.sF)
  · rintro σ2 H2 ⟨F2, S2, T2, st2, sf2, p⟩
    rw [List.drop_length] at p
    exact (show KS G F2 H2 T2 D .nx S2 from p) σ2 F2 H2 T2 (Step.refl _ _ _) st2
theorem tr_for {tg iter : Expr} {body : List Stmt} {it : It} {t : Tg} {mb : St} {pos : Pos} (C : Cok X G W k) (hi : TrI X G W tg iter it) (hg : TrG X G tg t) (hb : TrSs X G W body mb) (hs : ∀ x, foldedSetIterable iter X.env x = pure x := by intro _; rfl) : TrS X G W (.For tg iter body [] pos) (sFor it t mb) := by
  obtain ⟨wi, p, d⟩ := hi
  obtain ⟨g, q, e⟩ := hg
  obtain ⟨tb, r, f⟩ := hb
  exact ⟨_, ps_for C.po C.calm p q r hs, den_loop d e f⟩
def tE (G : Cfgx) (W : WX) (m : E) : TE := fun σ H Q => ∃ F S T, St' G F H σ S T ∧ PR G W F H σ T (KE G F H σ T Q) (m S)
def tT (G : Cfgx) (W : WX) (m : T) : TT := fun σ H Q => ∃ F S T, St' G F H σ S T ∧ PR G W F H σ T (KB G F H σ T Q) (m S)
def gG (G : Cfgx) (tg : Tg) : TG := fun v σ H Q => ∃ F S T d S', St' G F H σ S T ∧ Rep G F v d ∧ tg.put d S = some S' ∧ ∀ σ' T', St' G F H σ' S' T' → (∀ a, T' a ≤ T a) → (∀ j, j ∉ tg.sl → σ'[j]? = σ[j]?) → Q σ' H
theorem TrE.can {e : Expr} {m : E} (h : TrE X G W e m) : PE X e (tE G W m) := by
  obtain ⟨t, p, d⟩ := h
  exact ⟨fun pins s σ H Q I ⟨F, S, T, st, q⟩ => p.run pins s σ H Q I (d F H σ S T Q st q)⟩
theorem TrT.can {e : Expr} {m : T} (h : TrT X G W e m) : PT X e (tT G W m) := by
  obtain ⟨t, p, d⟩ := h
  exact ⟨fun pins s σ H Q I ⟨F, S, T, st, q⟩ => p.run pins s σ H Q I (d F H σ S T Q st q)⟩
theorem TrG.can {e : Expr} {tg : Tg} (h : TrG X G e tg) : PG X e (gG G tg) := by
  obtain ⟨g, p, d⟩ := h
  exact ⟨fun pins s σ H v u Q I r ⟨F, S, T, dd, S', st, rr, e, k⟩ => p.run pins s σ H v u Q I r (d F H σ S T v dd S' Q st rr e k)⟩
def TrTs (X : Cx) (G : Cfgx) (W : WX) (ifs : List Expr) (m : T) : Prop := PTs X ifs (tT G W m)
theorem tts_nil : TrTs X G W [] tTrue := ⟨fun pins s σ H Q I ⟨F, S, T, st, q⟩ => pts_nil.run pins s σ H Q I ((show KB G F H σ T Q true S from q) F H T (Step.refl F H T) st)⟩
theorem tts_one {c : Expr} {m : T} (h : TrT X G W c m) : TrTs X G W [c] m := pts_one h.can
theorem wipe_at (σ : L2.St) : ∀ (vs : List Nat) (j : Nat), (L2.wipe σ vs)[j]? = if j ∈ vs ∧ j < σ.length then some none else σ[j]?
  | [], j => by simp [L2.wipe]
  | v :: vs, j => by
    have ih := wipe_at σ vs j
    unfold L2.wipe
    by_cases h : v = j
    · subst h
      by_cases hl : v < σ.length
      · rw [List.getElem?_set_self (by rw [L2.wipe_length]; exact hl), if_pos ⟨List.mem_cons_self, hl⟩]
      · rw [List.getElem?_eq_none (by rw [List.length_set, L2.wipe_length]; omega), if_neg (fun z => hl z.2), List.getElem?_eq_none (by omega)]
    · rw [List.getElem?_set_ne h, ih]
      have e : j ∈ v :: vs ↔ j ∈ vs := by simp [Ne.symm h]
      simp only [e]
theorem wipe_eq {σ σ' : L2.St} {vs : List Nat} (hl : σ'.length = σ.length) (h : ∀ j, j ∉ vs → σ'[j]? = σ[j]?) : L2.wipe σ' vs = L2.wipe σ vs := by
  apply List.ext_getElem?
  intro j
  rw [wipe_at, wipe_at, hl]
  by_cases z : j ∈ vs
  · by_cases y : j < σ.length
    · simp [z, y]
    · rw [if_neg (fun w => y w.2), if_neg (fun w => y w.2), List.getElem?_eq_none (by omega), List.getElem?_eq_none (by omega)]
  · rw [if_neg (fun w => z w.1), if_neg (fun w => z w.1)]; exact h j z
theorem wipe_wipe (σ : L2.St) (vs : List Nat) : L2.wipe (L2.wipe σ vs) vs = L2.wipe σ vs := wipe_eq (L2.wipe_length σ vs) fun j hj => by rw [wipe_at, if_neg fun w => hj w.1]
theorem wipe_slots {F H : Hp} {σ : L2.St} {S : List Slot} {T : Cnt} (st : St' G F H σ S T) : ∀ vs : List Nat, (∀ v, v ∈ vs → v ∉ G.pk) → ∃ T', St' G F H (L2.wipe σ vs) (wipeS S vs) T' ∧ ∀ a, T' a ≤ T a
  | [], _ => ⟨T, st, fun a => Nat.le_refl _⟩
  | v :: vs, h => by
    obtain ⟨T1, st1, l1⟩ := wipe_slots st vs fun x hx => h x (List.mem_cons_of_mem _ hx)
    obtain ⟨T2, st2, l2⟩ := st1.drop (i := v) (h v List.mem_cons_self) none
    exact ⟨T2, st2, fun a => Nat.le_trans (l2 a) (l1 a)⟩
/-- the block's own slots as they were ahead -/
theorem back_slots {F F0 H H0 : Hp} {σ : L2.St} {S0 : List Slot} {T0 : Cnt} (st0 : St' G F0 H0 σ S0 T0) (sF : Same F0 F) : ∀ {vs : List Nat} {S : List Slot} {T : Cnt}, vs.all (fzAt S0) = true → noDup vs = true → St' G F H (L2.wipe σ vs) S T → ∃ T', St' G F H σ (backS S0 S vs) T' ∧ ∀ a, T' a ≤ T a
  | [], S, T, _, _, st => ⟨T, st, fun a => Nat.le_refl _⟩
  | v :: vs, S, T, h, nd, st => by
    obtain ⟨h1, h2⟩ := Bool.and_eq_true_iff.mp (show (fzAt S0 v && vs.all (fzAt S0)) = true from h)
    obtain ⟨n1, n2⟩ := Bool.and_eq_true_iff.mp (show (!vs.contains v && noDup vs) = true from nd)
    have nv : v ∉ vs := by simpa using n1
    have lS : S.length = σ.length := by rw [← st.sl.len, L2.wipe_length]
    have l0 : σ.length = S0.length := st0.sl.len
    cases e : S0[v]? with
    | none => unfold fzAt at h1; rw [e] at h1; cases h1
    | some s0 =>
      have hv : v < S0.length := (List.getElem?_eq_some_iff.mp e).1
      have gd : S0.getD v none = s0 := by rw [List.getD_eq_getElem?_getD, e]; rfl
      obtain ⟨x, f, Tr, ht, hx, ho, back⟩ := st.sl.at (i := v) (List.getElem?_eq_getElem (by omega))
      obtain ⟨x0, f0, Tr0, _, hx0, ho0, _⟩ := st0.sl.at (i := v) e
      have ok : SlotOk G F H x0 s0 nil0 := by
        unfold fzAt at h1
        rw [e] at h1
        cases ho0 with
        | no => exact .no _
        | @yes k1 v1 d1 f1 o =>
          cases k1 with
          | fz => cases o with | fz r => exact .yes (.fz (r.mono sF))
          | _ => cases h1
      have q := back F H x0 s0 nil0 (Same.refl F) (fun _ _ _ h => h) ok
      have e2 : (L2.wipe σ (v :: vs)).set v x0 = L2.wipe σ vs := by
        show ((L2.wipe σ vs).set v none).set v x0 = _
        rw [List.set_set]
        have z : (L2.wipe σ vs)[v]? = some x0 := by rw [wipe_at, if_neg fun w => nv w.1]; exact hx0
        obtain ⟨hi, q1⟩ := List.getElem?_eq_some_iff.mp z
        rw [← q1, List.set_getElem_self]
      rw [e2] at q
      have st2 : St' G F H (L2.wipe σ vs) (S.set v s0) (add nil0 Tr) := ⟨fun j hj => by
        have z := st.pi j hj
        rw [wipe_at] at z ⊢
        by_cases y : j ∈ vs ∧ j < σ.length
        · rw [if_pos ⟨List.mem_cons_of_mem _ y.1, y.2⟩] at z
          rw [if_pos y]; exact z
        · rw [if_neg y]; exact st0.pi j hj, st.sub, q, fun a => by have := ht a; have := st.le a; simp only [add, nil0]; omega, fun a n => by have := ht a; have := st.di a n; simp only [add, nil0]; omega⟩
      obtain ⟨T', st3, l3⟩ := back_slots st0 sF h2 n2 st2
      refine ⟨T', ?_, fun a => by have := l3 a; have := ht a; simp only [add, nil0] at *; omega⟩
      show St' G F H σ (backS S0 (S.set v (S0.getD v none)) vs) T'
      rw [gd]
      exact st3
abbrev W0 : WX := fun _ _ _ _ => False
theorem den_lc {wi : TI} {it : It} {tg : Tg} {vs : List Nat} {c : T} {e : E} (hpn : ∀ v, v ∈ vs → v ∉ G.pk) (hi : DenI G W wi it) : DenE G W (tLc wi (gG G tg) (tT G W0 c) (tE G W0 e) vs) (eLc it tg vs c e) := fun F H σ S T Q st z => by
  refine hi F H σ S T _ st (PR.bind z fun ds S0 y => ?_)
  intro J F1 H1 T1 s1 st1 ⟨Y, w, hY⟩ L hL
  by_cases hc : (vs.all (fzAt S0) && noDup vs && tg.sl.all vs.contains) = true
  case neg => rw [if_neg hc] at y; exact y.elim
  rw [if_pos hc] at y
  obtain ⟨hc1, hc3⟩ := Bool.and_eq_true_iff.mp hc
  obtain ⟨hc1, hc2⟩ := Bool.and_eq_true_iff.mp hc1
  have tgv : ∀ j, j ∈ tg.sl → j ∈ vs := fun j hj => by simpa using List.all_eq_true.mp hc3 j hj
  -- what the loop is to reach
  let Fin : R (List D) → Prop := fun r => match r with
    | .ok acc S' => KE G F H σ T Q (.li .fz, .lst acc) (backS S0 S' vs)
    | _ => False
  have y : Fin (cLoop tg vs c e ds [] (wipeS S0 vs)) := by
    cases q : cLoop tg vs c e ds [] (wipeS S0 vs) with
    | ok acc S' => rw [q] at y; exact y
    | exc x S' => rw [q] at y; exact y
    | bad => rw [q] at y; exact y
  obtain ⟨stN, sN, leN, fN⟩ := st1.newT (o := .lst []) hL
  obtain ⟨Tw, stw, lw⟩ := wipe_slots stN vs hpn
  have sB : Step F H T F1 (upd H1 L (.lst [])) (add Tw (one L)) := (s1.trans sN).less fun a => by have := lw a; simp only [add]; omega
  have tL : T1 L = 0 := by have := leN L; simp only [one, if_pos] at this; omega
  let Inv (i : Nat) (H' : Hp) : Prop := ∃ F' S' T' av acc, St' G F' H' (L2.wipe σ vs) S' T' ∧ Step F H T F' H' (add T' (one L)) ∧ Same F1 F' ∧ H' L = some (.lst av) ∧ Reps G F' av acc ∧ T' L = 0 ∧ F' L = none ∧ Fin (cLoop tg vs c e (ds.drop i) acc S')
  refine L2.lc_it w Inv ⟨F1, wipeS S0 vs, Tw, [], [], stw, sB, Same.refl F1, upd_same, .nil, by have := lw L; omega, fN, y⟩ (fun i H' _ ⟨F', S', T', av, acc, st', _, sf, _⟩ => sf.trans st'.sub) ?_ ?_
  · rintro i x H2 H3 hi' ⟨F2, S2, T2, av, acc, st2, s2, sf2, hl2, ra2, t2, f2, p⟩ hy
    have yd := hY i H2 x H3 ds[i] (List.getElem?_eq_getElem hi') hy
    rw [List.drop_eq_getElem_cons hi'] at p
    unfold cLoop at p
    cases ep : tg.put ds[i] S2 with
    | none => rw [ep] at p; exact p.elim
    | some S3 =>
      rw [ep] at p
      have p : Fin ((c S3).bind fun b => if b then M.bind (eDat e) fun y S => if acc.length < sizeMax then cLoop tg vs c e (ds.drop (i + 1)) (acc ++ [y]) (wipeS S vs) else .bad else fun S => cLoop tg vs c e (ds.drop (i + 1)) acc (wipeS S vs)) := p
      have turn : ∀ F3 H3, Step F H T F3 H3 (add T2 (one L)) → St' G F3 H3 (L2.wipe σ vs) S2 T2 → Same F1 F3 → H3 L = some (.lst av) → Reps G F3 av acc → F3 L = none → Rep G F3 x ds[i] →
          gG G tg x (L2.wipe σ vs) H3 fun σ2 H2 => L2.wipe σ2 vs = L2.wipe σ vs ∧ tT G W0 c σ2 H2 fun b H3 => if b = true then tE G W0 e σ2 H3 fun y H4 => ∃ acc, H4 L = some (.lst acc) ∧ acc.length < sizeLine ∧ Inv (i + 1) (upd H4 L (.lst (acc ++ [y]))) else Inv (i + 1) H3 := by
        intro F3 H3 s3 st3 sf3 hl3 ra3 f3 r3
        refine ⟨F3, S2, T2, ds[i], S3, st3, r3, ep, fun σ4 T4 st4 l4 a4 => ?_⟩
        have lens : σ4.length = σ.length := by
          have a := st4.sl.len
          have : ∀ (t : Tg) (d : D) (S S' : List Slot), t.put d S = some S' → S'.length = S.length := by
            intro t
            apply Tg.rec (motive_1 := fun t => ∀ (d : D) (S S' : List Slot), t.put d S = some S' → S'.length = S.length) (motive_2 := fun ts => ∀ (d : List D) (S S' : List Slot), Tg.puts ts d S = some S' → S'.length = S.length)
            · intro i d S S' h
              unfold Tg.put at h
              split at h
              · cases h; simp
              · cases h
            · intro is ih d S S' h
              unfold Tg.put at h
              split at h
              · exact ih _ _ _ h
              · cases h
            · intro d S S' h
              cases d with
              | nil => unfold Tg.puts at h; cases h; rfl
              | cons a b => unfold Tg.puts at h; cases h
            · intro t ts i1 i2 d S S' h
              cases d with
              | nil => unfold Tg.puts at h; cases h
              | cons a b =>
                unfold Tg.puts at h
                cases q : Tg.put t a S with
                | none => rw [q] at h; cases h
                | some S1 => rw [q] at h; exact (i2 _ _ _ h).trans (i1 _ _ _ q)
          have b := this tg ds[i] _ _ ep
          have c := st3.sl.len
          rw [L2.wipe_length] at c
          omega
        refine ⟨(wipe_eq (σ := L2.wipe σ vs) (by rw [L2.wipe_length]; exact lens) fun j hj => a4 j fun z => hj (tgv j z)).trans (wipe_wipe σ vs), ?_⟩
        have hTz : ∀ a, T4 a ≤ T2 a := l4
        have s4 : Step F H T F3 H3 (add T4 (one L)) := s3.less fun a => by have := hTz a; simp only [add]; omega
        have fr : ∀ {F5 H5 : Hp} {T5 : Cnt}, Step F3 H3 T4 F5 H5 T5 → Step F H T F5 H5 (add T5 (one L)) ∧ T5 L = 0 ∧ H5 L = some (.lst av) ∧ F5 L = none := by
          intro F5 H5 T5 s5
          have tl : ∀ a, T4 a + one L a ≤ 1 := fun a => by
            unfold one
            split
            · rename_i q; have := hTz a; rw [q] at this ⊢; omega
            · have := st4.le a; omega
          have oh : ∀ a, one L a ≠ 0 → H3 a ≠ none := fun a n => by
            unfold one at n
            split at n
            · rename_i q; rw [q, hl3]; simp
            · exact absurd rfl n
          obtain ⟨b1, b2, b3⟩ := s5.frame tl oh
          have oL : one L L ≠ 0 := by simp [one]
          refine ⟨s4.trans b1, b2 L oL, b3 L _ oL hl3, ?_⟩
          cases q : F5 L with
          | none => rfl
          | some o =>
            rcases s5.nF L f3 (by rw [q]; simp) with z | z | z
            · rw [hl3] at z; cases z
            · have := hTz L; omega
            · rw [hl3] at z; rcases z with ⟨_, z⟩ | ⟨_, _, z⟩ <;> cases z
        refine ⟨F3, S3, T4, st4, ?_⟩
        cases ec : c S3 with
        | bad => rw [ec] at p; exact p.elim
        | exc x S5 => rw [ec] at p; exact p.elim
        | ok b S5 =>
          rw [ec] at p
          intro F5 H5 T5 s5 st5
          obtain ⟨g1, g2, g3, g4⟩ := fr s5
          have wback : ∀ {F6 H6 T6 S6}, St' G F6 H6 σ4 S6 T6 → ∃ T7, St' G F6 H6 (L2.wipe σ vs) (wipeS S6 vs) T7 ∧ ∀ a, T7 a ≤ T6 a := fun {F6 H6 T6 S6} st6 => by
            obtain ⟨T7, st7, l7⟩ := wipe_slots st6 vs hpn
            have ew : L2.wipe σ4 vs = L2.wipe σ vs := (wipe_eq (σ := L2.wipe σ vs) (by rw [L2.wipe_length]; exact lens) fun j hj => a4 j fun z => hj (tgv j z)).trans (wipe_wipe σ vs)
            rw [ew] at st7
            exact ⟨T7, st7, l7⟩
          cases b with
          | false =>
            obtain ⟨T7, st7, l7⟩ := wback st5
            exact ⟨F5, wipeS S5 vs, T7, av, acc, st7, g1.less fun a => by have := l7 a; simp only [add]; omega, sf3.trans s5.sF, g3, ra3.mono s5.sF, by have := l7 L; omega, g4, p⟩
          | true =>
            have p : Fin ((eDat e S5).bind fun y S => if acc.length < sizeMax then cLoop tg vs c e (ds.drop (i + 1)) (acc ++ [y]) (wipeS S vs) else .bad) := p
            refine ⟨F5, S5, T5, st5, ?_⟩
            cases ee : e S5 with
            | bad => unfold eDat M.bind at p; rw [ee] at p; exact p.elim
            | exc x S6 => unfold eDat M.bind at p; rw [ee] at p; exact p.elim
            | ok kd S6 =>
              obtain ⟨kk, dd⟩ := kd
              unfold eDat M.bind at p
              rw [ee] at p
              have p : Fin (if acc.length < sizeMax then cLoop tg vs c e (ds.drop (i + 1)) (acc ++ [dd]) (wipeS S6 vs) else .bad) := p
              by_cases hz : acc.length < sizeMax
              · rw [if_pos hz] at p
                intro v F6' H6 T6 f6 s6' st6' o6 le6 di6
                obtain ⟨F6, s6, st6, r6, _⟩ := freeze_core s6' st6' o6 le6 di6
                obtain ⟨k1, k2, k3, k4⟩ := fr (s5.trans s6)
                obtain ⟨T7, st7, l7⟩ := wback st6
                have ra6 : Reps G F6 av acc := (ra3.mono s5.sF).mono s6.sF
                have t7 : T7 L = 0 := by have := l7 L; omega
                refine ⟨av, k3, by rw [ra6.len]; exact hz, F6, wipeS S6 vs, T7, av ++ [v], acc ++ [dd], ⟨st7.pi, fun a u ea => ?_, st7.sl.mono (Same.refl F6) fun a u n ea => ?_, st7.le, st7.di⟩, ?_, (sf3.trans s5.sF).trans s6.sF, upd_same, ?_, t7, k4, p⟩
                · rw [upd_ne (fun q => by rw [q, k4] at ea; cases ea)]; exact st7.sub _ _ ea
                · rw [upd_ne (fun q => n (by rw [q]; exact t7))]; exact ea
                · refine (k1.less (T2 := add T7 (one L)) fun a => by have := l7 a; simp only [add]; omega).trans (Step.put ?_)
                  simp [add, one]
                · clear p
                  have : ∀ {xs : List V} {ys : List D}, Reps G F6 xs ys → Reps G F6 (xs ++ [v]) (ys ++ [dd]) := by
                    intro xs
                    induction xs with
                    | nil => intro ys h; cases h; exact .cons r6 .nil
                    | cons a xs ih => intro ys h; cases h with | cons h1 h2 => exact .cons h1 (ih h2)
                  exact this ra6
              · rw [if_neg hz] at p; exact p.elim
      rcases yd with ⟨e1, r⟩ | ⟨pp, vv, dd, e1, hp, e2, e3, r⟩
      · subst e1
        exact turn F2 H3 s2 st2 sf2 hl2 ra2 f2 (r.mono sf2)
      · subst e1 e2
        obtain ⟨st3, s3⟩ := st2.newF (o := .tup vv) hp
        have np : L ≠ pp := ne_of_none hl2 hp
        have tp : T2 pp = 0 := Decidable.byContradiction fun n => st2.there pp n hp
        have s3' : Step F2 H2 (add T2 (one L)) (upd F2 pp (.tup vv)) (upd H2 pp (.tup vv)) (add T2 (one L)) := Step.newF hp st2.sub (by simp only [add, one, if_neg (Ne.symm np)]; omega)
        refine turn _ _ (s2.trans s3') st3 (sf2.trans s3.sF) (by rw [upd_ne np]; exact hl2) (ra2.mono s3.sF) (by rw [upd_ne np]; exact f2) ?_
        rw [e3]
        exact .tup (.inl (.inl upd_same)) ((r.mono sf2).mono s3.sF)
  · rintro H2 ⟨F2, S2, T2, av, acc, st2, s2, sf2, hl2, ra2, t2, f2, p⟩
    rw [List.drop_length] at p
    have p : KE G F H σ T Q (.li .fz, .lst acc) (backS S0 S2 vs) := p
    obtain ⟨T3, st3, l3⟩ := back_slots st1 sf2 hc1 hc2 st2
    refine p (.ref L) F2 H2 T3 (add (one L) nil0) (s2.less fun a => by have := l3 a; simp only [add, nil0]; omega) st3 (.li hl2 (owns_fz ra2)) (fun a => ?_) fun a n => ?_
    · have l := l3 a
      simp only [add, nil0, one]
      split
      · rename_i q; rw [q] at l ⊢; omega
      · have := st2.le a; omega
    · simp only [add, nil0, one]
      split
      · rename_i q; rw [q] at n; exact absurd f2 n
      · rfl
theorem pins_ok {own : List (PySem.Str × Nat)} (h : (own.map (·.2)).all (fun v => !G.pk.contains v) = true) : ∀ v, v ∈ own.map (·.2) → v ∉ G.pk := fun v hv => pin_ok (by simpa using List.all_eq_true.mp h v hv)
theorem tr_lc {elt tg iter : Expr} {ifs : List Expr} {scope : Scope} {own : List (PySem.Str × Nat)} {pos : Pos} {it : It} {t : Tg} {c : T} {e : E} (C : Cok X G W k) (hi : TrI X G W tg iter it) (ok : BlkOk X.N X.env.scope scope own)
    (hg : ∀ (s : Shared) (H : Hp) (C : Addr) (cl : List (PySem.Str × Addr)) (fp : List Addr), TrG (X.blk s H scope (compEnvC scope cl C X.env) fp) G tg t)
    (ht : ∀ (s : Shared) (H : Hp) (C : Addr) (cl : List (PySem.Str × Addr)) (fp : List Addr), Cok (X.blk s H scope (compEnvC scope cl C X.env) fp) G W0 k → TrTs (X.blk s H scope (compEnvC scope cl C X.env) fp) G W0 ifs c)
    (he : ∀ (s : Shared) (H : Hp) (C : Addr) (cl : List (PySem.Str × Addr)) (fp : List Addr), Cok (X.blk s H scope (compEnvC scope cl C X.env) fp) G W0 k → TrE (X.blk s H scope (compEnvC scope cl C X.env) fp) G W0 elt e) (hs : ∀ x, foldedSetIterable iter X.env x = pure x := by intro _; rfl) (hpn : (own.map (·.2)).all (fun v => !G.pk.contains v) = true := by rfl) :
    TrE X G W (.ListComp elt [⟨tg, iter, ifs, 0⟩] scope pos) (eLc it t (own.map (·.2)) c e) := by
  obtain ⟨wi, p, d⟩ := hi
  have cb : ∀ (s : Shared) (H : Hp) (A : Addr) (cl : List (PySem.Str × Addr)) (fp : List Addr), Cok (X.blk s H scope (compEnvC scope cl A X.env) fp) G W0 k := fun s H A cl fp => ⟨C.hK, takesN0, PassesOwn.never, C.calm, C.room, C.nd⟩
  exact ⟨_, pe_lc C.calm C.nd p ok (fun s H A cl fp => (hg s H A cl fp).can) (fun s H A cl fp => ht s H A cl fp (cb s H A cl fp)) (fun s H A cl fp => (he s H A cl fp (cb s H A cl fp)).can) hs, den_lc (pins_ok hpn) d⟩
end
end TB
namespace TB
open PySem PyProof.Rows L2
inductive Args (G : Cfg) (F H : Hp) : List KD → List V → Cnt → Prop
  | nil : Args G F H [] [] nil0
  | cons {k : Kd} {d : D} {v : V} {as : List KD} {vs : List V} {f g : Cnt} : Own G F H k v d f → Args G F H as vs g → Args G F H ((k, d) :: as) (v :: vs) (add f g)
/-- the owned arguments behind the call -/
inductive Outs (G : Cfg) (F H : Hp) : List KD → List V → List KD → Cnt → Prop
  | nil : Outs G F H [] [] [] nil0
  | skip {k : Kd} {d : D} {v : V} {as : List KD} {vs : List V} {os : List KD} {g : Cnt} : k.isF = true → Outs G F H as vs os g → Outs G F H ((k, d) :: as) (v :: vs) os g
  | own {k k' : Kd} {d d' : D} {v : V} {as : List KD} {vs : List V} {os : List KD} {f g : Cnt} : k.isF = false → k'.isF = false → Own G F H k' v d' f → Outs G F H as vs os g → Outs G F H ((k, d) :: as) (v :: vs) ((k', d') :: os) (add f g)
def spF (G : Cfg) (n : Nat) (fn : Fn) : Sp := fun vs H Q E => ∃ F T as, vs.length = n ∧ Same F H ∧ Args G F H as vs T ∧ (∀ a, T a ≤ 1) ∧ (∀ a, F a ≠ none → T a = 0) ∧ match fn as with
  | .ret r os => ∀ v F' H' T' f, Step F H T F' H' (add T' f) → Same F' H' → Outs G F' H' as vs os T' → Own G F' H' r.1 v r.2 f → (∀ a, T' a + f a ≤ 1) → (∀ a, F' a ≠ none → T' a + f a = 0) → Q v H'
  | .exc x os => ∀ cls dx F' H' T', Step F H T F' H' T' → Same F' H' → Outs G F' H' as vs os T' → (∀ a, T' a ≤ 1) → (∀ a, F' a ≠ none → T' a = 0) → ExcR G x cls dx H' → E cls dx H'
  | .bad => False
theorem Args.len {G : Cfg} {F H : Hp} {as : List KD} {vs : List V} {T : Cnt} (h : Args G F H as vs T) : as.length = vs.length := by
  induction h with
  | nil => rfl
  | cons _ _ ih => simp [ih]
theorem slots_none {G : Cfg} {F H : Hp} : ∀ n, Slots G F H (List.replicate n none) (List.replicate n none) nil0
  | 0 => .nil
  | n + 1 => by
    have : Slots G F H (none :: List.replicate n none) (none :: List.replicate n none) (add nil0 nil0) := .cons (.no none) (slots_none n)
    exact this
theorem Args.slots {G : Cfg} {F H : Hp} {as : List KD} {vs : List V} {T : Cnt} (h : Args G F H as vs T) (n : Nat) : Slots G F H (vs.map some ++ List.replicate n none) (as.map some ++ List.replicate n none) T := by
  induction h with
  | nil => exact slots_none n
  | cons o _ ih => exact .cons (.yes o) ih
theorem outs_of {G : Cfg} {F H : Hp} : ∀ {as : List KD} {vs : List V} {S : List Slot} {σ : L2.St} {T : Cnt} {os : List KD} (i : Nat), Slots G F H σ S T → (∀ j (h : j < vs.length), (match as[j]? with | some a => a.1.isF = false | none => False) → σ[j]? = some (some vs[j])) →
    as.length = vs.length → outsOf as S = some os → ∃ T', Outs G F H as vs os T' ∧ ∀ a, T' a ≤ T a
  | [], [], _, _, _, _, _, _, _, _, e => by
    unfold outsOf at e; cases e; exact ⟨nil0, .nil, fun a => Nat.zero_le _⟩
  | [], _ :: _, _, _, _, _, _, _, _, hl, _ => by simp at hl
  | _ :: _, [], _, _, _, _, _, _, _, hl, _ => by simp at hl
  | (k, d) :: as, v :: vs, S, σ, T, os, i, hs, hp, hl, e => by
    cases hs with
    | nil => unfold outsOf at e; cases e
    | @cons w s f g σ S h1 h2 =>
      unfold outsOf at e
      have hl' : as.length = vs.length := by simpa using hl
      have hp' : ∀ j (h : j < vs.length), (match as[j]? with | some a => a.1.isF = false | none => False) → σ[j]? = some (some vs[j]) := fun j h z => by
        have := hp (j + 1) (by simp; omega) (by simpa using z)
        simpa using this
      cases hk : k.isF with
      | true =>
        rw [hk, if_pos rfl] at e
        obtain ⟨T', o, l⟩ := outs_of (i + 1) h2 hp' hl' e
        exact ⟨T', .skip hk o, fun a => by have := l a; simp only [add]; omega⟩
      | false =>
        rw [hk, if_neg (by simp)] at e
        cases s with
        | none => cases e
        | some kd =>
          obtain ⟨k', d'⟩ := kd
          cases hk' : k'.isF with
          | true => simp [hk'] at e
          | false =>
            simp only [hk', Bool.false_eq_true, if_false] at e
            cases e2 : outsOf as S with
            | none => rw [e2] at e; cases e
            | some os2 =>
              rw [e2] at e
              cases e
              obtain ⟨T', o, l⟩ := outs_of (i + 1) h2 hp' hl' e2
              cases h1 with
              | @yes k1 v1 d1 f1 ow =>
                have := hp 0 (by simp) (by simpa using hk)
                have ev : v1 = v := by simpa using this
                subst ev
                exact ⟨add f T', .own hk hk' ow o, fun a => by have := l a; simp only [add]; omega⟩
theorem pinned_at : ∀ {pk : List Nat} {as : List KD} {i : Nat}, pinned pk i as = true → ∀ j, (match as[j]? with | some a => a.1.isF = false | none => False) → i + j ∈ pk
  | _, [], _, _, j, z => by simp at z
  | pk, (k, d) :: as, i, h, 0, z => by
    unfold pinned at h
    obtain ⟨h1, _⟩ := Bool.and_eq_true_iff.mp h
    have z : k.isF = false := by simpa using z
    rw [z, Bool.false_or] at h1
    simpa using h1
  | pk, (k, d) :: as, i, h, j + 1, z => by
    unfold pinned at h
    obtain ⟨_, h2⟩ := Bool.and_eq_true_iff.mp h
    have := pinned_at h2 j (by simpa using z)
    rw [show i + (j + 1) = i + 1 + j by omega]; exact this
/-- the pins of a body: the slots pk hold what they held at the start -/
def pinG (G : Cfg) (pk : List Nat) (σ : L2.St) : Cfgx := { G with pk := pk, pv := fun i => (σ[i]?).getD none }
abbrev cxF (P : Program) (w : World) (K : PySem.W.Frag) (mg : PySem.Str → Option Value) (base : Heap) (N : List PySem.Str) (qual : PySem.Str) (scope : Scope) (f : Addr) (cd : Value) (A : Around) (outer : List Env) (s : Shared) (H : Hp) (E : XK) : Cx := cxOf (L2N.CX P w) P w K mg base N qual scope f cd A outer s H E
theorem cok_fn {P : Program} {w : World} {G : Cfg} {mg : PySem.Str → Option Value} {base : Heap} {N : List PySem.Str} {qual : PySem.Str} {scope : Scope} {f : Addr} {cd : Value} {A : Around} {outer : List Env} {s : Shared} {H : Hp} {E : XK} {k : Nat} {pk : List Nat} {σ : L2.St} (hk : scope.kind = .function) (nd : N.Nodup) (hr : Room k (A.deeper (envOfC qual scope s.heap.objs.size f cd))) :
    Cok (cxF P w G.K mg base N qual scope f cd A outer s H E) (pinG G pk σ) (fun cls d _ H' => E cls d H') k :=
  ⟨rfl, L2N.takes_of rfl rfl rfl rfl, passes_of rfl, rfl, hr, nd⟩
/-- THE RULE of a def -/
theorem fn_ok {P : Program} {w : World} {G : Cfg} {mg : PySem.Str → Option Value} {base : Heap} {x qual : PySem.Str} {params : Arguments} {body : List Stmt} {scope : Scope} {dvs : List V} {kws : List (PySem.Str × V)} {f : Addr} {fd : FuncData} {N ps : List PySem.Str} {k : Nat} {m : St} (pk : List Nat)
    (FD : FunD G.K x qual params body scope dvs kws f fd) (S : FnScope N ps scope) (hpk : pk.all (· < ps.length) = true)
    (hb : ∀ (cdv : Value) (A : Around) (outer : List Env) (s : Shared) (H : Hp) (E : XK) (σ : L2.St), Cok (cxF P w G.K mg base N qual scope f cdv A outer s H E) (pinG G pk σ) (fun cls d _ H' => E cls d H') k → TrSs (cxF P w G.K mg base N qual scope f cdv A outer s H E) (pinG G pk σ) (fun cls d _ H' => E cls d H') body m) :
    FnOk P w G.K mg base (L2N.CX P w) (k + 1) f fd ps (spF G ps.length (runF N.length pk m)) := by
  refine FD.ok S (fun vs H Q E ⟨F, T, as, h, _⟩ => h) fun cdv A outer s H vs Q E hr ⟨F, T, as, hl, sub, ar, le, di, h⟩ => ?_
  obtain ⟨t, p, d⟩ := hb cdv A outer s H E (L2.start N vs) (cok_fn S.kind S.nd hr)
  refine ⟨t, p, ?_⟩
  have hal := ar.len
  unfold runF at h
  by_cases hp : pinned pk 0 as = true
  case neg => rw [if_neg hp] at h; exact h.elim
  rw [if_pos hp] at h
  have st : St' (pinG G pk (L2.start N vs)) F H (L2.start N vs) (as.map some ++ List.replicate (N.length - as.length) none) T := by
    refine ⟨fun i hi => ?_, sub, ?_, le, di⟩
    · have hlt : i < ps.length := by simpa using List.all_eq_true.mp hpk i hi
      have : (L2.start N vs)[i]? = some (some (vs[i]'(by omega))) := by
        unfold L2.start
        rw [List.getElem?_append_left (by simp; omega)]
        simp [hl, hlt]
      show (L2.start N vs)[i]? = some (((L2.start N vs)[i]?).getD none)
      rw [this]; rfl
    · unfold L2.start
      rw [← hal]
      exact ar.slots _
  have pinv : ∀ {F' H' : Hp} {σ' : L2.St} {S' : List Slot} {T' : Cnt}, St' (pinG G pk (L2.start N vs)) F' H' σ' S' T' → ∀ j (h : j < vs.length), (match as[j]? with | some a => a.1.isF = false | none => False) → σ'[j]? = some (some vs[j]) := fun st' j hj z => by
    have q := pinned_at hp j z
    rw [Nat.zero_add] at q
    have y := st'.pi j q
    rw [y]
    show some (((L2.start N vs)[j]?).getD none) = _
    unfold L2.start
    rw [List.getElem?_append_left (by simpa using hj)]
    simp [hj]
  refine d F H (L2.start N vs) _ T { nx := fun _ H' => Q .non H', rt := Q } st ?_
  cases e : m (as.map some ++ List.replicate (N.length - as.length) none) with
  | bad => rw [e] at h; exact h.elim
  | exc x S' =>
    rw [e] at h
    intro σ' cls dx F' H' T' s' st' ex
    cases eo : outsOf as S' with
    | none => simp only [eo] at h
    | some os =>
      simp only [eo] at h
      obtain ⟨T2, o2, l2⟩ := outs_of 0 st'.sl (pinv st') hal eo
      exact h cls dx F' H' T2 (s'.less l2) st'.sub o2 (fun a => Nat.le_trans (l2 a) (st'.le a)) (fun a n => by have := st'.di a n; have := l2 a; omega) ex
  | ok fl S' =>
    rw [e] at h
    cases fl with
    | bk => exact h.elim
    | ct => exact h.elim
    | nx =>
      have h : match frOf as (.fz, .non) S' with | .ret r os => _ | .exc x os => _ | .bad => False := h
      intro σ' F' H' T' s' st'
      unfold frOf at h
      cases eo : outsOf as S' with
      | none => simp only [eo] at h
      | some os =>
        simp only [eo] at h
        obtain ⟨T2, o2, l2⟩ := outs_of 0 st'.sl (pinv st') hal eo
        exact h .non F' H' T2 nil0 (s'.less l2) st'.sub o2 (.fz .non) (fun a => by have := l2 a; have := st'.le a; simp only [nil0]; omega) fun a n => by have := st'.di a n; have := l2 a; simp only [nil0]; omega
    | rt r =>
      have h : match frOf as r S' with | .ret r os => _ | .exc x os => _ | .bad => False := h
      intro v σ' F' H' T' f' s' st' o lo dd
      unfold frOf at h
      cases eo : outsOf as S' with
      | none => simp only [eo] at h
      | some os =>
        simp only [eo] at h
        obtain ⟨T2, o2, l2⟩ := outs_of 0 st'.sl (pinv st') hal eo
        exact h v F' H' T2 f' (s'.less fun a => by have := l2 a; simp only [add]; omega) st'.sub o2 o (fun a => by have := l2 a; have := lo a; omega) fun a n => by have := st'.di a n; have := dd a n; have := l2 a; omega
end TB
namespace TB
open PySem PyProof.Rows L2
inductive AVs (G : Cfg) (F H : Hp) (σ : L2.St) : List AV → List V → Cnt → Prop
  | nil : AVs G F H σ [] [] nil0
  | v {d : D} {x : V} {as : List AV} {vs : List V} {g : Cnt} : Rep G F x d → AVs G F H σ as vs g → AVs G F H σ (.v d :: as) (x :: vs) g
  | o {kd : KD} {x : V} {as : List AV} {vs : List V} {f g : Cnt} : kd.1.isF = false → Own G F H kd.1 x kd.2 f → AVs G F H σ as vs g → AVs G F H σ (.o kd :: as) (x :: vs) (add f g)
  | b {i : Nat} {x : V} {as : List AV} {vs : List V} {g : Cnt} : σ[i]? = some (some x) → AVs G F H σ as vs g → AVs G F H σ (.b i :: as) (x :: vs) g
theorem AVs.mono {G : Cfg} {F F' H H' : Hp} {σ : L2.St} {as : List AV} {vs : List V} {f : Cnt} (e : Same F F') (h : AVs G F H σ as vs f) (m : ∀ a o, f a ≠ 0 → H a = some o → H' a = some o) : AVs G F' H' σ as vs f := by
  induction h with
  | nil => exact .nil
  | v r _ ih => exact .v (r.mono e) (ih m)
  | o k o _ ih => exact .o k (o.mono e fun a u n => m a u (by simp only [add]; omega)) (ih fun a u n => m a u (by simp only [add]; omega))
  | b x _ ih => exact .b x (ih m)
theorem AVs.there {G : Cfg} {F H : Hp} {σ : L2.St} {as : List AV} {vs : List V} {f : Cnt} (h : AVs G F H σ as vs f) (a : Addr) (n : f a ≠ 0) : H a ≠ none := by
  induction h with
  | nil => exact absurd rfl n
  | v _ _ ih => exact ih n
  | @o _ _ _ _ f g _ o _ ih =>
    by_cases q : f a = 0
    · exact ih (by simp only [add] at n; omega)
    · exact o.there a q
  | b _ _ ih => exact ih n
def KAr (G : Cfgx) (F H : Hp) (σ : L2.St) (T : Cnt) (Q : List V → Hp → Prop) (as : List AV) (S' : List Slot) : Prop :=
  ∀ vs F' H' T' f, Step F H T F' H' (add T' f) → St' G F' H' σ S' T' → AVs G F' H' σ as vs f → (∀ a, T' a + f a ≤ 1) → (∀ a, F' a ≠ none → f a = 0) → Q vs H'
def DenAr (G : Cfgx) (W : WX) (t : TA) (m : M (List AV)) : Prop := ∀ F H σ S T Q, St' G F H σ S T → PR G W F H σ T (KAr G F H σ T Q) (m S) → t σ H Q
def TrAr (X : Cx) (G : Cfgx) (W : WX) (es : List Expr) (as : List Ar) : Prop := ∃ t, PA X es t ∧ DenAr G W t (arEv as)
section
variable {X : Cx} {G : Cfgx} {W : WX} {k : Nat}
theorem tar_nil : TrAr X G W [] [] := ⟨_, pa_nil, fun F H σ S T Q st p => (show KAr G F H σ T Q [] S from p) [] F H T nil0 ((Step.refl F H T).castR fun a => rfl) st .nil (fun a => st.le a) fun _ _ => rfl⟩
theorem tar_v {e : Expr} {es : List Expr} {m : E} {ms : List Ar} (h : TrE X G W e m) (r : TrAr X G W es ms) (hs : starEach (e :: es) X.env = (false, eval e X.env) :: starEach es X.env := by rfl) : TrAr X G W (e :: es) (.v m :: ms) := by
  obtain ⟨t, hp, hd⟩ := h
  obtain ⟨u, hq, hu⟩ := r
  refine ⟨_, pa_cons hp hq hs, fun F H σ S T Q st p => ?_⟩
  have p : PR G W F H σ T (KAr G F H σ T Q) ((eDat m S).bind fun d => M.bind (arEv ms) fun r => M.pure (.v d :: r)) := p
  refine hd.dat F H σ S T _ st (PR.bind p fun d S1 q => ?_)
  intro v F1 H1 T1 s1 st1 r1
  refine hu F1 H1 σ S1 T1 _ st1 (PR.bind (PR.re s1 (fun _ _ h => h) q) fun ds S2 q2 => ?_)
  intro vs F2 H2 T2 f2 s2 st2 r2 le2 di2
  have q2 : KAr G F H σ T Q (.v d :: ds) S2 := q2
  exact q2 (v :: vs) F2 H2 T2 f2 (s1.trans s2) st2 (.v (r1.mono s2.sF) r2) le2 di2
theorem tar_b (i : Nat) {x : PySem.Str} {pos : Pos} {es : List Expr} {ms : List Ar} (r : TrAr X G W es ms) (hN : X.N[i]? = some x := by rfl) (hv : Vis X.env.scope x := by first | exact Or.inl rfl | exact Or.inr (Or.inl rfl) | exact Or.inr (Or.inr rfl)) (hd : (x == ("__debug__" : PySem.Str)) = false := by decide)
    (hcd : (x == ("__classdict__" : PySem.Str)) = false := by decide) (hs : starEach (.Name x pos :: es) X.env = (false, eval (.Name x pos) X.env) :: starEach es X.env := by rfl) : TrAr X G W (.Name x pos :: es) (.b i :: ms) := by
  obtain ⟨u, hq, hu⟩ := r
  refine ⟨_, pa_cons (pe_var hN hv hd hcd) hq hs, fun F H σ S T Q st p => ?_⟩
  unfold arEv at p
  cases e : S[i]? with
  | none => simp only [e] at p; exact p.elim
  | some s =>
    cases s with
    | none => simp only [e] at p; exact p.elim
    | some kd =>
      simp only [e] at p
      obtain ⟨kk, d⟩ := kd
      obtain ⟨v, f, hv, _⟩ := st.sl.var e
      have p : PR G W F H σ T (KAr G F H σ T Q) ((arEv ms S).bind fun r => M.pure (.b i :: r)) := p
      refine ⟨v, hv, hu F H σ S T _ st (PR.bind p fun ds S2 q2 => ?_)⟩
      intro vs F2 H2 T2 f2 s2 st2 r2 le2 di2
      exact (show KAr G F H σ T Q (.b i :: ds) S2 from q2) (v :: vs) F2 H2 T2 f2 s2 st2 (.b hv r2) le2 di2
end
/-- which arguments are owned -/
inductive AKs : List AV → List KD → Prop
  | nil : AKs [] []
  | v {d : D} {as : List AV} {ks : List KD} : AKs as ks → AKs (.v d :: as) ((.fz, d) :: ks)
  | o {kd : KD} {as : List AV} {ks : List KD} : kd.1.isF = false → AKs as ks → AKs (.o kd :: as) (kd :: ks)
  | b {i : Nat} {kd : KD} {as : List AV} {ks : List KD} : kd.1.isF = false → AKs as ks → AKs (.b i :: as) (kd :: ks)
theorem ar_in {G : Cfg} {F H : Hp} {σ : L2.St} {avs : List AV} {vs : List V} {f : Cnt} (h : AVs G F H σ avs vs f) : ∀ {S S1 : List Slot} {T : Cnt} {ks : List KD}, Slots G F H σ S T → arIn avs S = some (ks, S1) →
    ∃ Ta Tr, Args G F H ks vs Ta ∧ Slots G F H σ S1 Tr ∧ AKs avs ks ∧ ∀ a, Ta a + Tr a ≤ T a + f a := by
  induction h with
  | nil =>
    intro S S1 T ks st e
    unfold arIn at e
    cases e
    exact ⟨nil0, T, .nil, st, .nil, fun a => by simp only [nil0]; omega⟩
  | @v d x as vs g r _ ih =>
    intro S S1 T ks st e
    unfold arIn at e
    cases e1 : arIn as S with
    | none => rw [e1] at e; cases e
    | some q =>
      rw [e1] at e
      cases e
      obtain ⟨Ta, Tr, h1, h2, h3, h4⟩ := ih st e1
      exact ⟨add nil0 Ta, Tr, .cons (.fz r) h1, h2, .v h3, fun a => by have := h4 a; simp only [add, nil0]; omega⟩
  | @o kd x as vs f g hk o _ ih =>
    intro S S1 T ks st e
    unfold arIn at e
    cases e1 : arIn as S with
    | none => rw [e1] at e; cases e
    | some q =>
      rw [e1] at e
      cases e
      obtain ⟨Ta, Tr, h1, h2, h3, h4⟩ := ih st e1
      exact ⟨add f Ta, Tr, .cons o h1, h2, .o hk h3, fun a => by have := h4 a; simp only [add]; omega⟩
  | @b i x as vs g hx _ ih =>
    intro S S1 T ks st e
    unfold arIn at e
    cases es : S[i]? with
    | none => simp only [es] at e; cases e
    | some s =>
      cases s with
      | none => simp only [es] at e; cases e
      | some kd =>
        simp only [es] at e
        cases hk : kd.1.isF with
        | true => rw [hk, if_pos rfl] at e; cases e
        | false =>
          rw [hk, if_neg (by simp)] at e
          obtain ⟨v0, f0, T0, ht, hv, ho, back⟩ := st.at es
          cases e1 : arIn as (S.set i none) with
          | none => rw [e1] at e; cases e
          | some q =>
            rw [e1] at e
            cases e
            have st2 := back F H (some x) none nil0 (Same.refl F) (fun _ _ _ h => h) (.no _)
            have e2 : σ.set i (some x) = σ := by
              obtain ⟨hi, q1⟩ := List.getElem?_eq_some_iff.mp hx
              rw [← q1, List.set_getElem_self]
            rw [e2] at st2
            obtain ⟨Ta, Tr, h1, h2, h3, h4⟩ := ih st2 e1
            rw [hx] at hv
            cases hv
            cases ho with
            | yes o => exact ⟨add f0 Ta, Tr, .cons o h1, h2, .b hk h3, fun a => by have := h4 a; have := ht a; simp only [add, nil0] at *; omega⟩
theorem ar_out {G : Cfg} {F H F0 H0 : Hp} {σ : L2.St} {avs : List AV} {vs : List V} {f : Cnt} (h : AVs G F0 H0 σ avs vs f) : ∀ {S1 S2 : List Slot} {Tr To : Cnt} {ks os : List KD}, AKs avs ks → Outs G F H ks vs os To → Slots G F H σ S1 Tr → arOut avs os S1 = some S2 →
    ∃ T2, Slots G F H σ S2 T2 ∧ ∀ a, T2 a ≤ To a + Tr a := by
  induction h with
  | nil =>
    intro S1 S2 Tr To ks os ak ou st e
    cases ak
    cases ou
    unfold arOut at e
    cases e
    exact ⟨Tr, st, fun a => by simp only [nil0]; omega⟩
  | v r _ ih =>
    intro S1 S2 Tr To ks os ak ou st e
    cases ak with
    | v ak =>
      cases ou with
      | skip _ ou => unfold arOut at e; exact ih ak ou st e
      | own h => cases h
  | o hk o _ ih =>
    intro S1 S2 Tr To ks os ak ou st e
    cases ak with
    | o hk ak =>
      cases ou with
      | skip h _ => rw [hk] at h; cases h
      | own _ _ o2 ou =>
        unfold arOut at e
        obtain ⟨T2, s2, l2⟩ := ih ak ou st e
        exact ⟨T2, s2, fun a => by have := l2 a; simp only [add]; omega⟩
  | @b i x as vs g hx _ ih =>
    intro S1 S2 Tr To ks os ak ou st e
    cases ak with
    | b hk ak =>
      cases ou with
      | skip h _ => rw [hk] at h; cases h
      | @own _ k' _ d' _ _ _ _ f1 g1 _ hk' o2 ou =>
        unfold arOut at e
        by_cases hi : i < S1.length
        · obtain ⟨v0, f0, T0, ht, hv, ho, back⟩ := st.at (List.getElem?_eq_getElem hi)
          have st2 := back F H (some x) (some (k', d')) f1 (Same.refl F) (fun _ _ _ h => h) (.yes o2)
          have e2 : σ.set i (some x) = σ := by
            obtain ⟨hi, q1⟩ := List.getElem?_eq_some_iff.mp hx
            rw [← q1, List.set_getElem_self]
          rw [e2] at st2
          obtain ⟨T2, s2, l2⟩ := ih ak ou st2 e
          exact ⟨T2, s2, fun a => by have := l2 a; have := ht a; simp only [add] at *; omega⟩
        · rw [List.set_eq_of_length_le (by omega)] at e
          obtain ⟨T2, s2, l2⟩ := ih ak ou st e
          exact ⟨T2, s2, fun a => by have := l2 a; simp only [add]; omega⟩
/-- the arguments stand, the callee is asked, what it leaves comes back -/
theorem call_core {G : Cfgx} {W : WX} {F H F1 H1 : Hp} {σ : L2.St} {T T1 f : Cnt} {S1 : List Slot} {avs : List AV} {vs : List V} {Q : VK} {fn : Fn} {n : Nat} (hn : ∀ ks, AKs avs ks → vs.length = n)
    (s1 : Step F H T F1 H1 (add T1 f)) (st1 : St' G F1 H1 σ S1 T1) (av : AVs G F1 H1 σ avs vs f) (le1 : ∀ a, T1 a + f a ≤ 1) (di1 : ∀ a, F1 a ≠ none → f a = 0)
    (h : PR G W F H σ T (KE G F H σ T Q) (match arIn avs S1 with
      | none => .bad
      | some (ks, S1) => match fn ks with
        | .ret r os => (match arOut avs os S1 with | some S2 => .ok r S2 | none => .bad)
        | .exc x os => (match arOut avs os S1 with | some S2 => .exc x S2 | none => .bad)
        | .bad => .bad)) : spF G n fn vs H1 Q (WE W σ) := by
  cases e : arIn avs S1 with
  | none => rw [e] at h; exact h.elim
  | some q =>
    obtain ⟨ks, S2⟩ := q
    rw [e] at h
    obtain ⟨Ta, Tr, h1, h2, h3, h4⟩ := ar_in av st1.sl e
    have le : ∀ a, Ta a + Tr a ≤ 1 := fun a => Nat.le_trans (h4 a) (le1 a)
    have di : ∀ a, F1 a ≠ none → Ta a + Tr a = 0 := fun a n => by have := h4 a; have := st1.di a n; have := di1 a n; omega
    have th : ∀ a, Tr a ≠ 0 → H1 a ≠ none := fun a n => h2.there a n
    have nt : ∀ a, Tr a ≠ 0 → ¬ TupAt (H1 a) := fun a n => h2.noT a n
    have base : Step F H T F1 H1 (add Ta Tr) := s1.less fun a => by have := h4 a; simp only [add]; omega
    refine ⟨F1, Ta, ks, hn ks h3, st1.sub, h1, fun a => by have := le a; omega, fun a n => by have := di a n; omega, ?_⟩
    cases hf : fn ks with
    | bad => simp only [hf] at h; exact h.elim
    | ret r os =>
      simp only [hf] at h
      cases ho : arOut avs os S2 with
      | none => simp only [ho] at h; exact h.elim
      | some S3 =>
        simp only [ho] at h
        have h : KE G F H σ T Q r S3 := h
        intro v F2 H2 To f2 s2 sub2 ou o2 le2 di2
        obtain ⟨b1, b2, b3⟩ := s2.frame le th
        obtain ⟨T3, sl3, l3⟩ := ar_out av h3 ou (h2.mono s2.sF b3) ho
        have tz : ∀ a, Tr a ≠ 0 → To a = 0 ∧ f2 a = 0 := fun a n => by have := b2 a n; simp only [add] at this; omega
        have fz : ∀ a, Tr a ≠ 0 → F2 a = none := fun a n => Decidable.byContradiction fun w => by
          by_cases u : F1 a = none
          · rcases s2.nF a u w with z | z | z
            · exact th a n z
            · have := le a; omega
            · exact nt a n z
          · have := di a u; omega
        have le3 : ∀ a, T3 a + f2 a ≤ 1 := fun a => by
          have := l3 a
          by_cases z : Tr a = 0
          · have := le2 a; omega
          · have := tz a z; have := le a; omega
        refine h v F2 H2 T3 f2 (base.trans (b1.less fun a => by have := l3 a; simp only [add]; omega)) ⟨st1.pi, sub2, sl3, fun a => by have := le3 a; omega, fun a n => ?_⟩ o2 le3 fun a n => by have := di2 a n; omega
        have := l3 a
        by_cases z : Tr a = 0
        · have := di2 a n; omega
        · exact absurd (fz a z) n
    | exc x os =>
      simp only [hf] at h
      cases ho : arOut avs os S2 with
      | none => simp only [ho] at h; exact h.elim
      | some S3 =>
        simp only [ho] at h
        have h : PX G W F H σ T x S3 := h
        intro cls dx F2 H2 To s2 sub2 ou le2 di2 ex
        obtain ⟨b1, b2, b3⟩ := s2.frame le th
        obtain ⟨T3, sl3, l3⟩ := ar_out av h3 ou (h2.mono s2.sF b3) ho
        have tz : ∀ a, Tr a ≠ 0 → To a = 0 := fun a n => b2 a n
        have fz : ∀ a, Tr a ≠ 0 → F2 a = none := fun a n => Decidable.byContradiction fun w => by
          by_cases u : F1 a = none
          · rcases s2.nF a u w with z | z | z
            · exact th a n z
            · have := le a; omega
            · exact nt a n z
          · have := di a u; omega
        refine h cls dx F2 H2 T3 (base.trans (b1.less fun a => by have := l3 a; simp only [add]; omega)) ⟨st1.pi, sub2, sl3, fun a => ?_, fun a n => ?_⟩ ex
        · have := l3 a
          by_cases z : Tr a = 0
          · have := le2 a; omega
          · have := tz a z; have := le a; omega
        · have := l3 a
          by_cases z : Tr a = 0
          · have := di2 a n; omega
          · exact absurd (fz a z) n
theorem avs_len {G : Cfg} {F H : Hp} {σ : L2.St} {avs : List AV} {vs : List V} {f : Cnt} (h : AVs G F H σ avs vs f) : vs.length = avs.length := by
  induction h with
  | nil => rfl
  | v _ _ ih => simp [ih]
  | o _ _ _ ih => simp [ih]
  | b _ _ ih => simp [ih]
theorem arEv_len : ∀ (as : List Ar) (S S' : List Slot) (avs : List AV), arEv as S = .ok avs S' → avs.length = as.length
  | [], S, S', avs, h => by unfold arEv at h; cases h; rfl
  | .v e :: as, S, S', avs, h => by
    unfold arEv at h
    have h : (eDat e S).bind (fun d => M.bind (arEv as) fun r => M.pure (.v d :: r)) = .ok avs S' := h
    cases q : eDat e S with
    | ok d S1 =>
      rw [q] at h
      have h : (arEv as S1).bind (fun r => M.pure (.v d :: r)) = .ok avs S' := h
      cases q1 : arEv as S1 with
      | ok r S2 => rw [q1] at h; cases h; simp [arEv_len as _ _ _ q1]
      | exc x S2 => rw [q1] at h; cases h
      | bad => rw [q1] at h; cases h
    | exc x S1 => rw [q] at h; cases h
    | bad => rw [q] at h; cases h
  | .o e :: as, S, S', avs, h => by
    unfold arEv at h
    have h : (e S).bind (fun kd => M.bind (arEv as) fun r => if kd.1.isF then fun _ => .bad else M.pure (.o kd :: r)) = .ok avs S' := h
    cases q : e S with
    | ok kd S1 =>
      rw [q] at h
      have h : (arEv as S1).bind (fun r => if kd.1.isF then fun _ => .bad else M.pure (.o kd :: r)) = .ok avs S' := h
      cases q1 : arEv as S1 with
      | ok r S2 =>
        rw [q1] at h
        have h : (if kd.1.isF then (fun _ => .bad : M (List AV)) else M.pure (.o kd :: r)) S2 = .ok avs S' := h
        cases hk : kd.1.isF with
        | true => rw [hk, if_pos rfl] at h; cases h
        | false => rw [hk, if_neg (by simp)] at h; cases h; simp [arEv_len as _ _ _ q1]
      | exc x S2 => rw [q1] at h; cases h
      | bad => rw [q1] at h; cases h
    | exc x S1 => rw [q] at h; cases h
    | bad => rw [q] at h; cases h
  | .b i :: as, S, S', avs, h => by
    unfold arEv at h
    cases e : S[i]? with
    | none => simp only [e] at h; cases h
    | some s =>
      cases s with
      | none => simp only [e] at h; cases h
      | some kd =>
        simp only [e] at h
        have h : (arEv as S).bind (fun r => M.pure (.b i :: r)) = .ok avs S' := h
        cases q1 : arEv as S with
        | ok r S2 => rw [q1] at h; cases h; simp [arEv_len as _ _ _ q1]
        | exc x S2 => rw [q1] at h; cases h
        | bad => rw [q1] at h; cases h
section
variable {X : Cx} {G : Cfgx} {W : WX} {k : Nat}
theorem den_call {fn : Fn} {n : Nat} {ms : List Ar} {t : TA} (hn : ms.length = n) (h : DenAr G W t (arEv ms)) : DenE G W (tCallS (spF G n fn) (WE W) t) (eCall fn ms) := fun F H σ S T Q st p => by
  refine h F H σ S T _ st ?_
  have p : PR G W F H σ T (KE G F H σ T Q) ((arEv ms S).bind _) := p
  cases e : arEv ms S with
  | bad => rw [e] at p; exact p.elim
  | exc x S1 => rw [e] at p; exact p
  | ok avs S1 =>
    rw [e] at p
    intro vs F1 H1 T1 f s1 st1 av le1 di1
    exact call_core (fun ks _ => by rw [avs_len av, arEv_len ms S S1 avs e, hn]) s1 st1 av le1 di1 p
theorem tr_call {fn : Fn} {f : Addr} {fd : FuncData} {ps : List PySem.Str} {x : PySem.Str} {p pos : Pos} {e : Expr} {es : List Expr} {ms : List Ar} (C : Cok X G W k) (F : FnOk X.prog X.w X.K X.mg X.base (L2N.CX X.prog X.w) k f fd ps (spF G ps.length fn)) (hm : X.mg x = some (.ref f)) (hk : PySem.W.keepIn X.K (.ref f) = true) (hb : Binds X.K fd ps [])
    (ha : TrAr X G W (e :: es) ms) (hn : ms.length = ps.length := by rfl) (hg : Gl X x := by rfl) (hdb : (x == ("__debug__" : PySem.Str)) = false := by decide) (he : starEach (e :: es) X.env = (false, eval e X.env) :: starEach es X.env := by rfl) (hpl : (backTo pos (starEach es X.env)).any (·.1) = false := by rfl) :
    TrE X G W (.Call (.Name x p) (e :: es) [] pos) (eCall fn ms) := by
  obtain ⟨t, pa, da⟩ := ha
  exact ⟨_, pe_callS F C.room hg hm hk hb (fun σ => L2N.passAt C.tk σ) pa hdb he hpl, den_call hn da⟩
end
end TB
namespace TB
open PySem PyProof.Rows L2
theorem orR {X : Cx} {f : Value → Value → Sem Value} {r r' : R2} (h : OpR X f r) (h' : OpR X f r') : OpR X f (fun x y H Q => r x y H Q ∨ r' x y H Q) := by
  intro pins s σ H x y v u Q I rx ry q
  rcases q with q | q
  · exact h pins s σ H x y v u Q I rx ry q
  · exact h' pins s σ H x y v u Q I rx ry q
theorem str_len (z : PySem.Str) : z.length = z.cps.toList.length := by simp [PySem.Str.length]
section
variable {X : Cx} {G : Cfgx} {W : WX} {k : Nat} {F H : Hp} {σ : L2.St} {S : List Slot} {T : Cnt}
/-- a new tuple of what is represented -/
theorem KE.newT {Q : VK} {vs : List V} {ds : List D} {S : List Slot} (h : KE G F H σ T Q (.fz, .tup ds) S) (st : St' G F H σ S T) (r : Reps G F vs ds) (p : Addr) (hp : H p = none) : Q (.ref p) (upd H p (.tup vs)) :=
  KE.newF h st (fun p => by
    by_cases n : F p = none
    · exact .inl (.tup (.inl (.inl upd_same)) (r.mono fun a u e => by rw [upd_ne (ne_of_none e n)]; exact e))
    · exact .inr n) p hp
theorem Reps.app {F : Hp} : ∀ {xs ys : List V} {as bs : List D}, Reps G F xs as → Reps G F ys bs → Reps G F (xs ++ ys) (as ++ bs)
  | _, _, _, _, .nil, h => h
  | _, _, _, _, .cons r s, h => .cons r (Reps.app s h)
theorem Reps.get {F : Hp} : ∀ {xs : List V} {as : List D} {n : Nat} {d : D}, Reps G F xs as → as[n]? = some d → ∃ v, xs[n]? = some v ∧ Rep G F v d
  | _, _, n, d, .nil, h => by simp at h
  | _, _, 0, d, .cons r s, h => by
    have e := Option.some.inj (show some _ = some d from h)
    exact ⟨_, rfl, e ▸ r⟩
  | _, _, n + 1, d, .cons r s, h => by
    obtain ⟨v, h1, h2⟩ := Reps.get (n := n) s (by simpa using h)
    exact ⟨v, by simpa using h1, h2⟩
theorem Reps.drop {F : Hp} : ∀ {xs : List V} {as : List D} (n : Nat), Reps G F xs as → Reps G F (xs.drop n) (as.drop n)
  | _, _, 0, h => h
  | _, _, _ + 1, .nil => .nil
  | _, _, n + 1, .cons _ s => Reps.drop n s
theorem Reps.take {F : Hp} : ∀ {xs : List V} {as : List D} (n : Nat), Reps G F xs as → Reps G F (xs.take n) (as.take n)
  | _, _, 0, h => .nil
  | _, _, _ + 1, .nil => .nil
  | _, _, n + 1, .cons r s => .cons r (Reps.take n s)
theorem Reps.rep {F : Hp} {xs : List V} {as : List D} (h : Reps G F xs as) : ∀ n : Nat, Reps G F (List.replicate n xs).flatten (List.replicate n as).flatten
  | 0 => by simp; exact .nil
  | n + 1 => by simp only [List.replicate_succ, List.flatten_cons]; exact h.app (h.rep n)
theorem Reps.set {F : Hp} {v : V} {d : D} (r : Rep G F v d) : ∀ {xs : List V} {as : List D} (n : Nat), Reps G F xs as → Reps G F (xs.set n v) (as.set n d)
  | _, _, _, .nil => .nil
  | _, _, 0, .cons _ s => .cons r s
  | _, _, n + 1, .cons q s => .cons q (Reps.set r n s)
theorem Reps.ins {F : Hp} {v : V} {d : D} (r : Rep G F v d) : ∀ {xs : List V} {as : List D} (n : Nat), Reps G F xs as → Reps G F (xs.insertIdx n v) (as.insertIdx n d)
  | _, _, 0, h => by simp only [List.insertIdx_zero]; exact .cons r h
  | _, _, n + 1, .nil => by simp; exact .nil
  | _, _, n + 1, .cons q s => by simp only [List.insertIdx_succ_cons]; exact .cons q (Reps.ins r n s)
theorem cls_add (hK : X.K = G.K) : ∃ r, OpR X (binaryOp .Add) r ∧ S2 G r fAdd := by
  refine ⟨_, orR op_add (orR op_add_str (orR op_cat op_catA)), fun F H σ S T x y dx dy kd Q st rx ry e k => ?_⟩
  cases rx <;> cases ry <;> simp only [fAdd, kz, reduceCtorEq] at e
  · cases e; exact .inl ⟨_, _, rfl, rfl, KE.val k st (.int _)⟩
  · rename_i z w
    split at e
    · rename_i hz
      cases e
      refine .inr (.inl ⟨z, w, rfl, rfl, by rw [str_len, str_len]; exact hz, KE.val k st ?_⟩)
      have := Rep.str (G := G) (F := F) (z ++ w)
      have e2 : (z ++ w).cps.toList = z.cps.toList ++ w.cps.toList := by
        show (z.cps ++ w.cps).toList = _
        simp
      rw [e2] at this
      exact this
    · cases e
  · rename_i a xs as h1 r1 b ys bs h2 r2
    split at e
    · rename_i hz
      cases e
      refine .inr (.inr (.inr ⟨a, b, xs, ys, rfl, rfl, hK ▸ same_t st.sub h1, hK ▸ same_t st.sub h2, by rw [r1.len, r2.len]; exact hz, fun q => ?_, fun q1 q2 => ?_, fun q1 q2 p hp => ?_⟩))
      · subst q
        cases r1
        exact KE.val k st (.tup h2 r2)
      · subst q2
        cases r2
        rw [List.append_nil] at k
        exact KE.val k st (.tup h1 r1)
      · exact KE.newT k st (r1.app r2) p hp
    · cases e
  · rename_i a xs as h1 r1 b ys bs h2 r2
    split at e
    · rename_i hz
      cases e
      exact .inr (.inr (.inl ⟨a, b, xs, ys, rfl, rfl, st.sub _ _ h1, st.sub _ _ h2, by rw [r1.len, r2.len]; exact hz, fun p hp => KE.newL k st (r1.app r2) p hp⟩))
    · cases e
theorem cls_sub : ∃ r, OpR X (binaryOp .Sub) r ∧ S2 G r fSub := by
  refine ⟨_, op_sub, fun F H σ S T x y dx dy kd Q st rx ry e k => ?_⟩
  cases rx <;> cases ry <;> simp only [fSub, kz, reduceCtorEq] at e
  cases e; exact ⟨_, _, rfl, rfl, KE.val k st (.int _)⟩
theorem log_small {i : Int} (h : small i) : i.natAbs.log2 < 1000 := PySem.Flt.log2_lt_of (by decide) (Nat.lt_of_lt_of_le h (by decide +kernel))
theorem cls_mul (hK : X.K = G.K) : ∃ r, OpR X (binaryOp .Mult) r ∧ S2 G r fMul := by
  refine ⟨_, orR op_mulW (orR op_rep op_repT), fun F H σ S T x y dx dy kd Q st rx ry e k => ?_⟩
  cases rx <;> cases ry <;> simp only [fMul, kz, reduceCtorEq] at e
  · split at e
    · rename_i hz
      cases e
      exact .inl ⟨_, _, rfl, rfl, by have := log_small hz.1; have := log_small hz.2; unfold CMulW; omega, KE.val k st (.int _)⟩
    · cases e
  · rename_i a xs as h1 r1 j
    split at e
    · rename_i hz
      cases e
      refine .inr (.inr ⟨a, j, xs, rfl, rfl, hK ▸ same_t st.sub h1, fun q => ?_, hz.2.1, by have := hz.2.2.1; omega, by rw [r1.len]; exact hz.2.2.2, fun p hp => KE.newT k st (r1.rep _) p hp⟩)
      subst q
      cases r1
      exact hz.1 rfl
    · cases e
  · rename_i a xs as h1 r1 j
    split at e
    · rename_i hz
      cases e
      refine .inr (.inl ⟨a, j, xs, rfl, rfl, st.sub _ _ h1, by omega, by omega, ?_, fun p hp => KE.newL k st (r1.rep _) p hp⟩)
      rw [r1.len]
      have : as.length * j.toNat ≤ 1000 * 1000 := Nat.mul_le_mul hz.2.2 (by omega)
      have : sizeLine = 16777216 := rfl
      omega
    · cases e
theorem cls_mod : ∃ r, OpR X (binaryOp .Mod) r ∧ S2 G r fMod := by
  refine ⟨_, op_mod, fun F H σ S T x y dx dy kd Q st rx ry e k => ?_⟩
  cases rx <;> cases ry <;> simp only [fMod, kz, reduceCtorEq] at e
  split at e
  · rename_i hz; cases e; exact ⟨_, _, rfl, rfl, hz, KE.val k st (.int _)⟩
  · cases e
theorem cls_div : ∃ r, OpR X (binaryOp .FloorDiv) r ∧ S2 G r fDiv := by
  refine ⟨_, op_fdivW, fun F H σ S T x y dx dy kd Q st rx ry e k => ?_⟩
  cases rx <;> cases ry <;> simp only [fDiv, kz, reduceCtorEq] at e
  split at e
  · rename_i hz; cases e; exact ⟨_, _, rfl, rfl, ⟨hz.1, by have := log_small hz.2; omega⟩, KE.val k st (.int _)⟩
  · cases e
theorem cls_pow : ∃ r, OpR X (binaryOp .Pow) r ∧ S2 G r fPow := by
  refine ⟨_, op_pow, fun F H σ S T x y dx dy kd Q st rx ry e k => ?_⟩
  cases rx <;> cases ry <;> simp only [fPow, kz, reduceCtorEq] at e
  split at e
  · rename_i hz; cases e; exact ⟨_, _, rfl, rfl, ⟨hz.1, by have := hz.2.1; omega, hz.2.2⟩, KE.val k st (.int _)⟩
  · cases e
theorem cls_lt : ∃ r, OpR X (compareOp .Lt) r ∧ S2 G r fLt := by
  refine ⟨_, orR op_lt op_lt_str, fun F H σ S T x y dx dy kd Q st rx ry e k => ?_⟩
  cases rx <;> cases ry <;> simp only [fLt, kz, reduceCtorEq] at e <;> cases e
  · exact .inl ⟨_, _, rfl, rfl, KE.val k st (.bl _)⟩
  · exact .inr ⟨_, _, rfl, rfl, KE.val k st (.bl _)⟩
theorem cls_le : ∃ r, OpR X (compareOp .LtE) r ∧ S2 G r fLe := by
  refine ⟨_, orR op_le op_le_str, fun F H σ S T x y dx dy kd Q st rx ry e k => ?_⟩
  cases rx <;> cases ry <;> simp only [fLe, kz, reduceCtorEq] at e <;> cases e
  · exact .inl ⟨_, _, rfl, rfl, KE.val k st (.bl _)⟩
  · exact .inr ⟨_, _, rfl, rfl, KE.val k st (.bl _)⟩
theorem cls_gt : ∃ r, OpR X (compareOp .Gt) r ∧ S2 G r fGt := by
  refine ⟨_, orR op_gt op_gt_str, fun F H σ S T x y dx dy kd Q st rx ry e k => ?_⟩
  cases rx <;> cases ry <;> simp only [fGt, kz, reduceCtorEq] at e <;> cases e
  · exact .inl ⟨_, _, rfl, rfl, KE.val k st (.bl _)⟩
  · exact .inr ⟨_, _, rfl, rfl, KE.val k st (.bl _)⟩
theorem cls_ge : ∃ r, OpR X (compareOp .GtE) r ∧ S2 G r fGe := by
  refine ⟨_, orR op_ge op_ge_str, fun F H σ S T x y dx dy kd Q st rx ry e k => ?_⟩
  cases rx <;> cases ry <;> simp only [fGe, kz, reduceCtorEq] at e <;> cases e
  · exact .inl ⟨_, _, rfl, rfl, KE.val k st (.bl _)⟩
  · exact .inr ⟨_, _, rfl, rfl, KE.val k st (.bl _)⟩
theorem atI_of {α : Type} {xs : List α} {i : Int} {n : Nat} {v : α} (h : normIx xs.length i = some n) (e : xs[n]? = some v) : atI xs i = some v := by
  have h2 : ixN xs.length i = some n := h
  unfold atI
  rw [h2]; exact e
theorem cls_ix (hK : X.K = G.K) : ∃ r, IxR X r ∧ S2 G r fIx := by
  refine ⟨_, ix_seq, fun F H σ S T x y dx dy kd Q st rx ry e k => ?_⟩
  cases rx <;> cases ry <;> simp only [fIx, kz, reduceCtorEq] at e
  · rename_i z i
    split at e
    · rename_i hz
      cases h1 : normIx z.cps.toList.length i with
      | none => rw [h1] at e; cases e
      | some n =>
        rw [h1] at e
        have e : (z.cps.toList[n]?.bind fun c => some ((Kd.fz, D.str [c]) : KD)) = some kd := e
        cases h2 : z.cps.toList[n]? with
        | none => rw [h2] at e; cases e
        | some c =>
          rw [h2] at e
          cases e
          exact .inr (.inr ⟨z, i, c, rfl, rfl, by rw [str_len]; exact hz, atI_of h1 h2, KE.val k st (.str ⟨#[c]⟩)⟩)
    · cases e
  · rename_i a xs as h1 r1 i
    cases h2 : normIx as.length i with
    | none => rw [h2] at e; cases e
    | some n =>
      rw [h2] at e
      have e : (as[n]?.bind fun d => some ((Kd.fz, d) : KD)) = some kd := e
      cases h3 : as[n]? with
      | none => rw [h3] at e; cases e
      | some d =>
        rw [h3] at e
        cases e
        obtain ⟨v, h4, h5⟩ := r1.get h3
        exact .inr (.inl ⟨a, xs, i, v, rfl, rfl, hK ▸ same_t st.sub h1, atI_of (n := n) (by rw [r1.len]; exact h2) h4, KE.val k st h5⟩)
  · rename_i a ns h1 i
    cases h2 : normIx ns.length i with
    | none => rw [h2] at e; cases e
    | some n =>
      rw [h2] at e
      have e : (ns[n]?.bind fun j => some ((Kd.fz, D.int j) : KD)) = some kd := e
      cases h3 : ns[n]? with
      | none => rw [h3] at e; cases e
      | some j =>
        rw [h3] at e
        cases e
        exact .inl ⟨a, _, i, .int j, rfl, rfl, hK ▸ same_l st.sub h1, atI_of (n := n) (by rw [List.length_map]; exact h2) (by simp [h3]), KE.val k st (.int j)⟩
  · rename_i a xs as h1 r1 i
    cases h2 : normIx as.length i with
    | none => rw [h2] at e; cases e
    | some n =>
      rw [h2] at e
      have e : (as[n]?.bind fun d => some ((Kd.fz, d) : KD)) = some kd := e
      cases h3 : as[n]? with
      | none => rw [h3] at e; cases e
      | some d =>
        rw [h3] at e
        cases e
        obtain ⟨v, h4, h5⟩ := r1.get h3
        exact .inl ⟨a, xs, i, v, rfl, rfl, .inl (.inl (st.sub _ _ h1)), atI_of (n := n) (by rw [r1.len]; exact h2) h4, KE.val k st h5⟩
theorem cls_isN : ∃ r, OpR X (compareOp .Is) r ∧ S2 G r fIsN := by
  refine ⟨_, op_isN, fun F H σ S T x y dx dy kd Q st rx ry e k => ?_⟩
  cases ry <;> simp only [fIsN, kz, reduceCtorEq] at e
  refine ⟨rfl, ?_⟩
  cases rx <;> cases e <;> exact KE.val k st (.bl _)
theorem cls_isB : ∃ r, OpR X (compareOp .Is) r ∧ S2 G r fIsB := by
  refine ⟨_, op_isBl, fun F H σ S T x y dx dy kd Q st rx ry e k => ?_⟩
  cases rx <;> cases ry <;> simp only [fIsB, kz, reduceCtorEq] at e
  cases e; exact ⟨_, _, rfl, rfl, KE.val k st (.bl _)⟩
theorem cls_len (hK : X.K = G.K) : ∃ r, CallR X (.builtin "len") r ∧ SN G r fLen := by
  refine ⟨_, call_len, fun F H σ S T xs ds kd Q st rs e k => ?_⟩
  cases rs with
  | nil => simp [fLen] at e
  | cons r1 r2 =>
    cases r2 with
    | cons _ _ => cases r1 <;> simp [fLen] at e
    | nil =>
      cases r1 <;> simp only [fLen, kz, reduceCtorEq] at e
      · rename_i z
        split at e
        · rename_i hz
          cases e
          exact ⟨_, z.length, rfl, ⟨by rw [str_len]; exact hz, rfl⟩, by rw [str_len]; exact KE.val k st (.int _)⟩
        · cases e
      · rename_i a xs as h1 r1
        cases e
        exact ⟨_, as.length, rfl, .inr ⟨_, hK ▸ same_t st.sub h1, by rw [r1.len]⟩, KE.val k st (.int _)⟩
      · rename_i a ns h1
        cases e
        exact ⟨_, ns.length, rfl, .inl ⟨_, hK ▸ same_l st.sub h1, by rw [List.length_map]⟩, KE.val k st (.int _)⟩
      · rename_i a xs as h1 r1
        cases e
        exact ⟨_, as.length, rfl, .inl ⟨_, .inl (.inl (st.sub _ _ h1)), by rw [r1.len]⟩, KE.val k st (.int _)⟩
theorem cls_intB : ∃ r, CallR X (.type "int") r ∧ SN G r fIntB := by
  refine ⟨_, call_int1, fun F H σ S T xs ds kd Q st rs e k => ?_⟩
  cases rs with
  | nil => simp [fIntB] at e
  | cons r1 r2 =>
    cases r2 with
    | cons _ _ => cases r1 <;> simp [fIntB] at e
    | nil =>
      cases r1 <;> simp only [fIntB, kz, reduceCtorEq] at e <;> cases e
      · exact .inr ⟨_, rfl, KE.val k st (.int _)⟩
      · exact .inl ⟨_, rfl, KE.val k st (.int _)⟩
theorem cls_min2 (hc : X.calm = true) : ∃ r, CallR X (.builtin "min") r ∧ SN G r fMin2 := by
  refine ⟨_, call_min2 hc, fun F H σ S T xs ds kd Q st rs e k => ?_⟩
  rcases rs with _ | ⟨r1, _ | ⟨r2, _ | ⟨r3, r4⟩⟩⟩
  · simp [fMin2] at e
  · cases r1 <;> simp [fMin2] at e
  · cases r1 <;> cases r2 <;> simp only [fMin2, kz, reduceCtorEq] at e
    cases e; exact ⟨_, _, rfl, KE.val k st (.int _)⟩
  · cases r1 <;> cases r2 <;> simp [fMin2] at e
theorem cls_max2 (hc : X.calm = true) : ∃ r, CallR X (.builtin "max") r ∧ SN G r fMax2 := by
  refine ⟨_, call_max2 hc, fun F H σ S T xs ds kd Q st rs e k => ?_⟩
  rcases rs with _ | ⟨r1, _ | ⟨r2, _ | ⟨r3, r4⟩⟩⟩
  · simp [fMax2] at e
  · cases r1 <;> simp [fMax2] at e
  · cases r1 <;> cases r2 <;> simp only [fMax2, kz, reduceCtorEq] at e
    cases e; exact ⟨_, _, rfl, KE.val k st (.int _)⟩
  · cases r1 <;> cases r2 <;> simp [fMax2] at e
theorem reps_keys {F : Hp} : ∀ {kvs : List (Key × V)} {ks : List D}, ks = kvs.map (fun p => keyD p.1) → Reps G F (kvs.map fun p => kV p.1) ks
  | [], _, h => by subst h; exact .nil
  | (k, v) :: r, _, h => by
    subst h
    refine .cons ?_ (reps_keys rfl)
    cases k with
    | inl i => exact .int i
    | inr z => exact .str z
theorem cls_list (hK : X.K = G.K) (hc : X.calm = true) : ∃ r, CallR X (.type "list") r ∧ SN G r fList := by
  refine ⟨_, call_list_of.or (call_listD hc), fun F H σ S T xs ds kd Q st rs e k => ?_⟩
  rcases rs with _ | ⟨r1, _ | ⟨r2, r3⟩⟩
  · simp [fList] at e
  · cases r1 <;> simp only [fList, kz, reduceCtorEq] at e <;> cases e
    · rename_i a xs as h1 r1
      exact .inl ⟨a, xs, rfl, .inr (hK ▸ same_t st.sub h1), fun p hp => KE.newL k st r1 p hp⟩
    · rename_i a xs as h1 r1
      exact .inl ⟨a, xs, rfl, .inl (.inl (.inl (st.sub _ _ h1))), fun p hp => KE.newL k st r1 p hp⟩
    · rename_i a kvs kds h1 hk r1
      exact .inr ⟨a, kvs, rfl, same_rd st.sub h1, fun p hp => KE.newL k st (reps_keys hk) p hp⟩
  · cases r1 <;> simp [fList] at e
theorem cls_tuple (hK : X.K = G.K) : ∃ r, CallR X (.type "tuple") r ∧ SN G r fTuple := by
  refine ⟨_, call_tuple_of, fun F H σ S T xs ds kd Q st rs e k => ?_⟩
  rcases rs with _ | ⟨r1, _ | ⟨r2, r3⟩⟩
  · simp [fTuple] at e
  · cases r1 <;> simp only [fTuple, kz, reduceCtorEq] at e <;> cases e
    · rename_i a xs as h1 r1
      exact ⟨a, xs, rfl, .inr ⟨hK ▸ same_t st.sub h1, KE.val k st (.tup h1 r1)⟩⟩
    · rename_i a xs as h1 r1
      exact ⟨a, xs, rfl, .inl ⟨.inl (.inl (st.sub _ _ h1)), fun p hp => KE.newT k st r1 p hp⟩⟩
  · cases r1 <;> simp [fTuple] at e
theorem bools_of {F : Hp} : ∀ {xs : List V} {ds : List D} {bs : List Bool}, Reps G F xs ds → boolsOf ds = some bs → xs = bs.map V.bl
  | _, _, _, .nil, h => by cases h; rfl
  | _, _, bs, .cons r s, h => by
    cases r <;> simp only [boolsOf, reduceCtorEq] at h
    rename_i b
    cases q : boolsOf _ with
    | none => rw [q] at h; cases h
    | some l => rw [q] at h; cases h; rw [bools_of s q]; rfl
theorem cls_all (hK : X.K = G.K) (hc : X.calm = true) : ∃ r, CallR X (.builtin "all") r ∧ SN G r fAllB := by
  refine ⟨_, cr_all hc, fun F H σ S T xs ds kd Q st rs e k => ?_⟩
  rcases rs with _ | ⟨r1, _ | ⟨r2, r3⟩⟩
  · simp [fAllB] at e
  · cases r1 <;> simp only [fAllB, kz, reduceCtorEq] at e
    rename_i a xs as h1 r1
    cases q : boolsOf as with
    | none => rw [q] at e; cases e
    | some bs =>
      rw [q] at e
      cases e
      exact ⟨a, bs, rfl, .inl (.inl (by rw [← bools_of r1 q]; exact st.sub _ _ h1)), KE.val k st (.bl _)⟩
  · cases r1 <;> simp [fAllB] at e
theorem one_sign {z : PySem.Str} {c : Nat} (h : z.cps.toList = [c]) : z = ⟨#[c]⟩ := by
  cases z with
  | mk a =>
    have : a = #[c] := by
      apply Array.toList_inj.mp
      exact h
    rw [this]
theorem cls_inS : ∃ r, OpR X (compareOp .In) r ∧ S2 G r fInS := by
  refine ⟨_, op_in_sign, fun F H σ S T x y dx dy kd Q st rx ry e k => ?_⟩
  cases rx <;> cases ry <;> try (simp [fInS] at e; done)
  rename_i z w
  cases q : z.cps.toList with
  | nil => rw [q] at e; simp [fInS] at e
  | cons c l =>
    cases l with
    | cons a b => rw [q] at e; simp [fInS] at e
    | nil =>
      rw [q] at e
      simp only [fInS, kz] at e
      cases e
      exact ⟨c, w, by rw [one_sign q], rfl, KE.val k st (.bl _)⟩
theorem cls_notInS : ∃ r, OpR X (compareOp .NotIn) r ∧ S2 G r fNotInS := by
  refine ⟨_, op_notIn_sign, fun F H σ S T x y dx dy kd Q st rx ry e k => ?_⟩
  cases rx <;> cases ry <;> try (simp [fNotInS] at e; done)
  rename_i z w
  cases q : z.cps.toList with
  | nil => rw [q] at e; simp [fNotInS] at e
  | cons c l =>
    cases l with
    | cons a b => rw [q] at e; simp [fNotInS] at e
    | nil =>
      rw [q] at e
      simp only [fNotInS, kz] at e
      cases e
      exact ⟨c, w, by rw [one_sign q], rfl, KE.val k st (.bl _)⟩
end
end TB
namespace TB
open PySem PySem.Spec PyProof.Rows L2
section
variable {X : Cx} {G : Cfgx} {W : WX} {k : Nat}
theorem walkD_list {F : Hp} {K : PySem.W.Frag} {a : Addr} {vs : List V} {ds : List D} (h : ∀ H, Same F H → SqL K H a vs) (r : Reps G F vs ds) : WalkD G F (Itl K a) ds := by
  refine ⟨YAt vs, ?_, fun i H x H' d e y => ?_⟩
  · rw [← r.len]
    exact walk_list.mono (fun H s => h H s) fun i H x H' hi s y => y
  · obtain ⟨v, h1, h2⟩ := r.get e
    obtain ⟨e1, e2⟩ := y
    rw [h1] at e2
    cases e2
    exact .inl ⟨e1, h2⟩
theorem walkD_tup {F : Hp} {K : PySem.W.Frag} {a : Addr} {vs : List V} {ds : List D} (h : ∀ H, Same F H → SqT K H a vs) (r : Reps G F vs ds) : WalkD G F (Itt K a) ds := by
  refine ⟨YAt vs, ?_, fun i H x H' d e y => ?_⟩
  · rw [← r.len]
    exact walk_tup.mono (fun H s => h H s) fun i H x H' hi s y => y
  · obtain ⟨v, h1, h2⟩ := r.get e
    obtain ⟨e1, e2⟩ := y
    rw [h1] at e2
    cases e2
    exact .inl ⟨e1, h2⟩
theorem walkD_rng {F : Hp} {lo : Int} {n : Nat} : WalkD G F (L2.Itr lo n) (rangeL lo n) := by
  refine ⟨YFn fun i => .int (lo + i), ?_, fun i H x H' d e y => ?_⟩
  · have : (rangeL lo n).length = n := by simp [rangeL]
    rw [this]
    exact walk_range.mono (fun H s => trivial) fun i H x H' hi s y => y
  · obtain ⟨e1, e2⟩ := y
    subst e2
    unfold rangeL at e
    by_cases hi : i < n
    · have : d = .int (lo + (i : Int)) := by
        rw [List.getElem?_map, List.getElem?_range hi] at e
        exact (Option.some.inj e).symm
      subst this
      exact .inl ⟨e1, .int _⟩
    · rw [List.getElem?_eq_none (by simp; omega)] at e; cases e
theorem walkD_str {F : Hp} {z : PySem.Str} : WalkD G F (L2.Its z) (z.cps.toList.map fun c => D.str [c]) := by
  refine ⟨fun i H v H' => H' = H ∧ ∃ c, z.cps[i]? = some c ∧ v = .str ⟨#[c]⟩, ?_, fun i H x H' d e y => ?_⟩
  · have : (z.cps.toList.map fun c => D.str [c]).length = z.cps.size := by simp
    rw [this]
    exact walk_str.mono (fun H s => trivial) fun i H x H' hi s y => y
  · obtain ⟨e1, c, hc, e2⟩ := y
    subst e2
    have : d = .str [c] := by
      rw [List.getElem?_map, Array.getElem?_toList, hc] at e
      exact (Option.some.inj e).symm
    subst this
    exact .inl ⟨e1, .str ⟨#[c]⟩⟩
/-- a list or a tuple, by what comes -/
def iSeq (K : PySem.W.Frag) (tl : TE) : TI := fun σ H R => tl σ H fun x H1 => (∃ a, x = .ref a ∧ (∃ xs, SqL K H1 a xs) ∧ R (Itl K a) H1) ∨ (∃ a, x = .ref a ∧ (∃ xs, SqT K H1 a xs) ∧ R (Itt K a) H1)
theorem pi_seq {tg l : Expr} {tl : TE} (hl : PE X l tl) : PI X tg l (iSeq X.K tl) := by
  refine ⟨fun pins s σ H R I h => ?_⟩
  refine thn (hl.run pins s σ H _ I h) fun v s1 ⟨x, H1, I1, r1, q1⟩ => ?_
  rcases q1 with ⟨a, e, ⟨xs, hq⟩, q⟩ | ⟨a, e, ⟨xs, hq⟩, q⟩
  · subst e
    cases r1
    obtain ⟨its, rv, p, hz⟩ := I1.list hq
    refine wpAny_pyIter_list p.isList ?_
    refine ⟨s1.heap.objs.size, [s1.heap.objs.size], _, _, H1, rfl, I1.kept (t' := s1.toks) fun b o e => Heap.get?_push_of_some _ e, turn_list a _, ⟨_, Heap.get?_push_size _ rfl, rfl, rfl⟩, fun b hb => ?_, q⟩
    have e : b = s1.heap.objs.size := by simpa using hb
    subst e
    exact I1.fpOk (Nat.le_refl _) (I1.hok.fresh (Nat.le_refl _))
  · subst e
    cases r1
    obtain ⟨its, rv, p, hz⟩ := I1.tuple hq
    refine wpAny_pyIter_tuple (show s1.heap.IsTuple a its.toArray from p) ?_
    refine ⟨s1.heap.objs.size, [s1.heap.objs.size], _, _, H1, rfl, I1.kept (t' := s1.toks) fun b o e => Heap.get?_push_of_some _ e, turn_tuple a _, ⟨_, Heap.get?_push_size _ rfl, rfl, rfl⟩, fun b hb => ?_, q⟩
    have e : b = s1.heap.objs.size := by simpa using hb
    subst e
    exact I1.fpOk (Nat.le_refl _) (I1.hok.fresh (Nat.le_refl _))
theorem ti_seq {tg e : Expr} {m : E} (C : Cok X G W k) (h : TrE X G W e m) : TrI X G W tg e (itSeq m) := by
  obtain ⟨t, p, d⟩ := h
  refine ⟨_, pi_seq p, fun F H σ S T R st z => d.dat F H σ S T _ st (PR.bind z fun dd S1 y => ?_)⟩
  intro v F1 H1 T1 s1 st1 r1
  cases r1 with
  | @tup a vs ds hq rs =>
    have y : KI G F H σ T R ds S1 := y
    exact .inr ⟨a, rfl, ⟨vs, C.hK ▸ same_t st1.sub hq⟩, y _ F1 H1 T1 s1 st1 (walkD_tup (fun H s => C.hK ▸ same_t s hq) rs)⟩
  | @lst a vs ds hq rs =>
    have y : KI G F H σ T R ds S1 := y
    exact .inl ⟨a, rfl, ⟨vs, .inl (.inl (st1.sub _ _ hq))⟩, y _ F1 H1 T1 s1 st1 (walkD_list (fun H s => .inl (.inl (s _ _ hq))) rs)⟩
  | _ => exact y.elim
theorem ti_str {tg e : Expr} {m : E} (h : TrE X G W e m) : TrI X G W tg e (itStr m) := by
  obtain ⟨t, p, d⟩ := h
  refine ⟨_, pi_str p, fun F H σ S T R st z => d.dat F H σ S T _ st (PR.bind z fun dd S1 y => ?_)⟩
  intro v F1 H1 T1 s1 st1 r1
  cases r1 with
  | str z =>
    have y : KI G F H σ T R (z.cps.toList.map fun c => D.str [c]) S1 := y
    exact ⟨z, rfl, y _ F1 H1 T1 s1 st1 walkD_str⟩
  | _ => exact y.elim
theorem ti_range1 {tg a : Expr} {m : E} {p pos : Pos} (h : TrE X G W a m) (hm : X.mg "range" = none) (hg : Gl X "range" := by rfl) (hs : starEach [a] X.env = [(false, eval a X.env)] := by rfl) : TrI X G W tg (.Call (.Name "range" p) [a] [] pos) (itRange1 m) := by
  obtain ⟨t, pa, d⟩ := h
  refine ⟨_, pi_range1 hg hm (pa_cons pa pa_nil hs) hs, fun F H σ S T R st z => d.dat F H σ S T _ st (PR.bind z fun dd S1 y => ?_)⟩
  intro v F1 H1 T1 s1 st1 r1
  cases r1 with
  | int j =>
    have y : PR G W F H σ T (KI G F H σ T R) ((if j.natAbs < limN then M.pure (rangeL 0 j.toNat) else fun _ => .bad) S1) := y
    by_cases hj : j.natAbs < limN
    · rw [if_pos hj] at y
      have y : KI G F H σ T R (rangeL 0 j.toNat) S1 := y
      have l : limN = 4611686018427387904 := rfl
      exact ⟨j, rfl, by omega, by omega, y _ F1 H1 T1 s1 st1 walkD_rng⟩
    · rw [if_neg hj] at y; exact y.elim
  | _ => exact y.elim
theorem ti_range2 {tg a b : Expr} {m n : E} {p pos : Pos} (h : TrE X G W a m) (h2 : TrE X G W b n) (hm : X.mg "range" = none) (hg : Gl X "range" := by rfl) (hs : starEach [a, b] X.env = [(false, eval a X.env), (false, eval b X.env)] := by rfl) (hs2 : starEach [b] X.env = [(false, eval b X.env)] := by rfl) : TrI X G W tg (.Call (.Name "range" p) [a, b] [] pos) (itRange2 m n) := by
  obtain ⟨t, pa, d⟩ := h
  obtain ⟨u, pb, d2⟩ := h2
  refine ⟨_, pi_range2 hg hm (pa_cons pa (pa_cons pb pa_nil hs2) (by rw [hs, hs2])) hs hs2, fun F H σ S T R st z => d.dat F H σ S T _ st (PR.bind z fun dd S1 y => ?_)⟩
  intro v F1 H1 T1 s1 st1 r1
  refine d2.dat F1 H1 σ S1 T1 _ st1 (PR.bind (PR.re s1 (fun _ _ h => h) y) fun d2 S2 y => ?_)
  intro v2 F2 H2 T2 s2 st2 r2
  cases r1 with
  | int i =>
    cases r2 with
    | int j =>
      have y : PR G W F1 H1 σ T1 (KI G F H σ T R) ((if i.natAbs < limN ∧ j.natAbs < limN then M.pure (rangeL i (j - i).toNat) else fun _ => .bad) S2) := y
      by_cases hj : i.natAbs < limN ∧ j.natAbs < limN
      · rw [if_pos hj] at y
        have y : KI G F H σ T R (rangeL i (j - i).toNat) S2 := y
        have l : limN = 4611686018427387904 := rfl
        exact ⟨i, j, rfl, by omega, y _ F2 H2 T2 (s1.trans s2) st2 walkD_rng⟩
      · rw [if_neg hj] at y; exact y.elim
    | _ => exact y.elim
  | _ => exact y.elim
end
end TB
namespace TB
open PySem PyProof.Rows L2
mutual
def toPy : D → PyData
  | .non => .none
  | .bl b => .bool b
  | .int i => .int i
  | .str s => .str ⟨s.toArray⟩
  | .lst xs => .list (toPys xs)
  | .tup xs => .tuple (toPys xs)
  | _ => .none
def toPys : List D → List PyData
  | [] => []
  | x :: xs => toPy x :: toPys xs
end
mutual
theorem eqv_py : ∀ (n m : Nat) (x y : D), x.lay n = true → y.lay m = true → PyData.eqv (toPy x) (toPy y) = D.eqv x y := by
  intro n m x y hx hy
  cases x with
  | non => cases y <;> first | (simp [D.lay] at hy; done) | simp [toPy, PyData.eqv, D.eqv]
  | bl a => cases y <;> first | (simp [D.lay] at hy; done) | simp [toPy, PyData.eqv, D.eqv]
  | int i => cases y <;> first | (simp [D.lay] at hy; done) | simp [toPy, PyData.eqv, D.eqv]
  | str s =>
    cases y with
    | str t =>
      simp only [toPy, PyData.eqv, D.eqv]
      by_cases e : s = t
      · subst e; simp
      · rw [beq_eq_false_iff_ne.mpr e]
        refine beq_eq_false_iff_ne.mpr fun q => e ?_
        have : s.toArray = t.toArray := congrArg PySem.Str.cps q
        simpa using this
    | _ => first | (simp [D.lay] at hy; done) | simp [toPy, PyData.eqv, D.eqv]
  | lst xs =>
    cases n with
    | zero => simp [D.lay] at hx
    | succ n =>
      cases y with
      | lst ys =>
        cases m with
        | zero => simp [D.lay] at hy
        | succ m =>
          simp only [toPy, PyData.eqv, D.eqv]
          exact eqv_pys n m xs ys (by simpa [D.lay] using hx) (by simpa [D.lay] using hy)
      | _ => first | (simp [D.lay] at hy; done) | simp [toPy, PyData.eqv, D.eqv]
  | tup xs =>
    cases n with
    | zero => simp [D.lay] at hx
    | succ n =>
      cases y with
      | tup ys =>
        cases m with
        | zero => simp [D.lay] at hy
        | succ m =>
          simp only [toPy, PyData.eqv, D.eqv]
          exact eqv_pys n m xs ys (by simpa [D.lay] using hx) (by simpa [D.lay] using hy)
      | _ => first | (simp [D.lay] at hy; done) | simp [toPy, PyData.eqv, D.eqv]
  | _ => simp [D.lay] at hx
theorem eqv_pys : ∀ (n m : Nat) (xs ys : List D), D.lays n xs = true → D.lays m ys = true → PyData.eqvAll (toPys xs) (toPys ys) = D.eqvs xs ys
  | _, _, [], [], _, _ => rfl
  | _, _, [], _ :: _, _, _ => rfl
  | _, _, _ :: _, [], _, _ => rfl
  | n, m, x :: xs, y :: ys, hx, hy => by
    unfold D.lays at hx hy
    obtain ⟨h1, h2⟩ := Bool.and_eq_true_iff.mp hx
    obtain ⟨h3, h4⟩ := Bool.and_eq_true_iff.mp hy
    simp only [toPys, PyData.eqvAll, D.eqvs]
    rw [eqv_py n m x y h1 h3, eqv_pys n m xs ys h2 h4]
end
mutual
theorem lay_py : ∀ (n : Nat) (x : D), x.lay n = true → (toPy x).canLay0 = true ∧ (toPy x).depth ≤ n := by
  intro n x hx
  cases x with
  | str s =>
    refine ⟨?_, Nat.zero_le _⟩
    simp only [toPy, PyData.canLay0]
    have : s.all (· < 1114112) = true := by cases n <;> simpa [D.lay] using hx
    show (s.toArray.all (· < 0x110000)) = true
    simpa using this
  | lst xs =>
    cases n with
    | zero => simp [D.lay] at hx
    | succ n =>
      obtain ⟨a, b⟩ := lays_py n xs (by simpa [D.lay] using hx)
      exact ⟨by simpa [toPy, PyData.canLay0] using a, by simp only [toPy, PyData.depth]; omega⟩
  | tup xs =>
    cases n with
    | zero => simp [D.lay] at hx
    | succ n =>
      obtain ⟨a, b⟩ := lays_py n xs (by simpa [D.lay] using hx)
      exact ⟨by simpa [toPy, PyData.canLay0] using a, by simp only [toPy, PyData.depth]; omega⟩
  | non => exact ⟨rfl, Nat.zero_le _⟩
  | bl b => exact ⟨rfl, Nat.zero_le _⟩
  | int i => exact ⟨rfl, Nat.zero_le _⟩
  | _ => simp [D.lay] at hx
theorem lays_py : ∀ (n : Nat) (xs : List D), D.lays n xs = true → PyData.canLayAll0 (toPys xs) = true ∧ PyData.depthAll (toPys xs) ≤ n
  | _, [], _ => ⟨rfl, Nat.zero_le _⟩
  | n, x :: xs, h => by
    unfold D.lays at h
    obtain ⟨h1, h2⟩ := Bool.and_eq_true_iff.mp h
    obtain ⟨a, b⟩ := lay_py n x h1
    obtain ⟨c, d⟩ := lays_py n xs h2
    exact ⟨by simp [toPys, PyData.canLayAll0, a, c], by simp only [toPys, PyData.depthAll]; omega⟩
end
section
variable {X : Cx} {G : Cfgx} {W : WX} {k : Nat} {F H : Hp} {σ : L2.St} {S : List Slot} {T : Cnt}
mutual
theorem dp_of : ∀ (n : Nat) (d : D) (v : V), d.lay n = true → Rep G F v d → Dp G.K F v (toPy d)
  | n, d, v, hl, r => by
    cases r with
    | non => exact .non
    | bl b => exact .bl b
    | int i => exact .int i
    | str z =>
      have e : toPy (.str z.cps.toList) = .str z := by simp [toPy]
      rw [e]; exact .str z
    | tup h rs =>
      cases n with
      | zero => simp [D.lay] at hl
      | succ n => exact .tup h (dps_of n _ _ (by simpa [D.lay] using hl) rs)
    | lst h rs =>
      cases n with
      | zero => simp [D.lay] at hl
      | succ n => exact .lst (.inl (.inl h)) (dps_of n _ _ (by simpa [D.lay] using hl) rs)
    | _ => simp [D.lay] at hl
theorem dps_of : ∀ (n : Nat) (ds : List D) (vs : List V), D.lays n ds = true → Reps G F vs ds → DpAll G.K F vs (toPys ds)
  | n, [], vs, hl, r => by cases r; exact .nil
  | n, d :: ds, vs, hl, r => by
    unfold D.lays at hl
    obtain ⟨h1, h2⟩ := Bool.and_eq_true_iff.mp hl
    cases r with
    | cons a b => exact .cons (dp_of n d _ h1 a) (dps_of n ds _ h2 b)
end
theorem eq_core (hK : X.K = G.K) {x y : V} {dx dy : D} (st : St' G F H σ S T) (rx : Rep G F x dx) (ry : Rep G F y dy) (h : eqOk dx dy = true) :
    (L2.scal x y = true ∧ decide (x = y) = D.eqv dx dy) ∨ ∃ d e, Dp X.K H x d ∧ Dp X.K H y e ∧ SeqAt.shaped d = true ∧ SeqAt.shaped e = true ∧ PyData.eqv d e = D.eqv dx dy := by
  have deep : ∀ n m, n ≤ 64 → m ≤ 64 → dx.lay n = true → dy.lay m = true → ∃ d e, Dp X.K H x d ∧ Dp X.K H y e ∧ SeqAt.shaped d = true ∧ SeqAt.shaped e = true ∧ PyData.eqv d e = D.eqv dx dy := by
    intro n m hn hm h1 h2
    have q1 := lay_py n dx h1
    have q2 := lay_py m dy h2
    refine ⟨toPy dx, toPy dy, ?_, ?_, ?_, ?_, eqv_py n m dx dy h1 h2⟩
    · rw [hK]; exact dp_of n dx x h1 (rx.mono st.sub)
    · rw [hK]; exact dp_of m dy y h2 (ry.mono st.sub)
    · exact Bool.and_eq_true_iff.mpr ⟨q1.1, decide_eq_true (by omega)⟩
    · exact Bool.and_eq_true_iff.mpr ⟨q2.1, decide_eq_true (by omega)⟩
  unfold eqOk at h
  rcases Bool.or_eq_true_iff.mp h with h | h
  · obtain ⟨h1, h2⟩ := Bool.and_eq_true_iff.mp h
    cases rx with
    | str z =>
      refine .inl ?_
      cases ry with
      | str w =>
        refine ⟨rfl, ?_⟩
        simp only [D.eqv]
        by_cases e : z = w
        · subst e; simp
        · rw [decide_eq_false (fun q => e (V.str.inj q))]
          refine (beq_eq_false_iff_ne.mpr fun q => e ?_).symm
          cases z; cases w
          have : _ = _ := Array.toList_inj.mp q
          simp at this
          rw [this]
      | non => exact ⟨rfl, rfl⟩
      | bl b => exact ⟨rfl, rfl⟩
      | int i => exact ⟨rfl, rfl⟩
      | _ => cases h2
    | non =>
      cases ry with
      | str w => exact .inl ⟨rfl, rfl⟩
      | non => exact .inl ⟨rfl, rfl⟩
      | bl b => exact .inl ⟨rfl, rfl⟩
      | int i => exact .inl ⟨rfl, rfl⟩
      | _ => cases h2
    | bl a =>
      cases ry with
      | str w => exact .inl ⟨rfl, rfl⟩
      | non => exact .inl ⟨rfl, rfl⟩
      | bl b => exact .inr (deep 0 0 (by omega) (by omega) rfl rfl)
      | int i => exact .inr (deep 0 0 (by omega) (by omega) rfl rfl)
      | _ => cases h2
    | int a =>
      cases ry with
      | str w => exact .inl ⟨rfl, rfl⟩
      | non => exact .inl ⟨rfl, rfl⟩
      | bl b => exact .inr (deep 0 0 (by omega) (by omega) rfl rfl)
      | int i => exact .inr (deep 0 0 (by omega) (by omega) rfl rfl)
      | _ => cases h2
    | _ => cases h1
  · obtain ⟨h1, h2⟩ := Bool.and_eq_true_iff.mp h
    exact .inr (deep 60 60 (by omega) (by omega) h1 h2)
theorem cls_eq (hK : X.K = G.K) (hr : Room k X.A) : ∃ r, OpR X (compareOp .Eq) r ∧ S2 G r fEq := by
  refine ⟨_, orR op_eq (op_eqD hr.units), fun F H σ S T x y dx dy kd Q st rx ry e k => ?_⟩
  unfold fEq kz at e
  split at e
  · rename_i h
    cases e
    rcases eq_core hK st rx ry h with ⟨h1, h2⟩ | ⟨d, e, h1, h2, h3, h4, h5⟩
    · exact .inl ⟨h1, by rw [h2]; exact KE.val k st (.bl _)⟩
    · exact .inr ⟨d, e, h1, h2, h3, h4, by rw [h5]; exact KE.val k st (.bl _)⟩
  · cases e
theorem cls_ne (hK : X.K = G.K) (hr : Room k X.A) : ∃ r, OpR X (compareOp .NotEq) r ∧ S2 G r fNe := by
  refine ⟨_, orR op_ne (op_neD hr.units), fun F H σ S T x y dx dy kd Q st rx ry e k => ?_⟩
  unfold fNe kz at e
  split at e
  · rename_i h
    cases e
    rcases eq_core hK st rx ry h with ⟨h1, h2⟩ | ⟨d, e, h1, h2, h3, h4, h5⟩
    · exact .inl ⟨h1, by rw [h2]; exact KE.val k st (.bl _)⟩
    · exact .inr ⟨d, e, h1, h2, h3, h4, by rw [h5]; exact KE.val k st (.bl _)⟩
  · cases e
theorem flatV_of {F : Hp} {v : V} {d : D} (r : Rep G F v d) (h : d.flat = true) : flatV v = true := by
  cases r <;> first | rfl | cases h
theorem flats_of {F : Hp} : ∀ {vs : List V} {ds : List D}, Reps G F vs ds → ds.all D.flat = true → vs.all flatV = true
  | _, _, .nil, _ => rfl
  | _, _, .cons r s, h => by
    obtain ⟨h1, h2⟩ := Bool.and_eq_true_iff.mp (show (D.flat _ && List.all _ D.flat) = true from h)
    show (flatV _ && List.all _ flatV) = true
    rw [flatV_of r h1, flats_of s h2]; rfl
theorem eqV_of {F : Hp} {x y : V} {dx dy : D} (rx : Rep G F x dx) (ry : Rep G F y dy) (hx : dx.flat = true) (hy : dy.flat = true) : eqV x y = D.eqv dx dy := by
  cases rx <;> cases ry <;> first | (cases hx; done) | (cases hy; done) | (simp [eqV, D.eqv]; done) | skip
  rename_i z w
  simp only [eqV, D.eqv]
  by_cases e : z = w
  · subst e; simp
  · rw [beq_eq_false_iff_ne.mpr e]
    refine (beq_eq_false_iff_ne.mpr fun q => e ?_).symm
    cases z; cases w
    have : _ = _ := Array.toList_inj.mp q
    simp at this
    rw [this]
theorem inV_of {F : Hp} {x : V} {dx : D} (rx : Rep G F x dx) (hx : dx.flat = true) : ∀ {vs : List V} {ds : List D}, Reps G F vs ds → ds.all D.flat = true → inV x vs = ds.any fun y => D.eqv y dx
  | _, _, .nil, _ => rfl
  | _, _, .cons r s, h => by
    obtain ⟨h1, h2⟩ := Bool.and_eq_true_iff.mp (show (D.flat _ && List.all _ D.flat) = true from h)
    show (eqV _ x || inV x _) = _
    rw [eqV_of r rx h1 hx, inV_of rx hx s h2]; rfl
theorem in_core (hK : X.K = G.K) {x y : V} {dx dy : D} {ys : List D} (st : St' G F H σ S T) (rx : Rep G F x dx) (ry : Rep G F y dy) (e : itemsOf dy = some ys) (h : (dx.flat && ys.all D.flat) = true) :
    ∃ p vs, y = .ref p ∧ (SqL X.K H p vs ∨ SqT X.K H p vs) ∧ flatV x = true ∧ vs.all flatV = true ∧ inV x vs = ys.any fun y => D.eqv y dx := by
  obtain ⟨h1, h2⟩ := Bool.and_eq_true_iff.mp h
  cases ry with
  | tup hs rs => cases e; exact ⟨_, _, rfl, .inr (hK ▸ same_t st.sub hs), flatV_of rx h1, flats_of rs h2, inV_of rx h1 rs h2⟩
  | lst hs rs => cases e; exact ⟨_, _, rfl, .inl (.inl (.inl (st.sub _ _ hs))), flatV_of rx h1, flats_of rs h2, inV_of rx h1 rs h2⟩
  | _ => cases e
theorem cls_in (hK : X.K = G.K) : ∃ r, OpR X (compareOp .In) r ∧ S2 G r fIn := by
  refine ⟨_, op_in_seq, fun F H σ S T x y dx dy kd Q st rx ry e k => ?_⟩
  unfold fIn kz at e
  cases q : itemsOf dy with
  | none => rw [q] at e; cases e
  | some ys =>
    simp only [q] at e
    split at e
    · rename_i h
      cases e
      obtain ⟨p, vs, h1, h2, h3, h4, h5⟩ := in_core hK st rx ry q h
      exact ⟨p, vs, h1, h2, h3, h4, by show Q (.bl (inV x vs)) H; rw [h5]; exact KE.val k st (.bl _)⟩
    · cases e
theorem cls_notIn (hK : X.K = G.K) : ∃ r, OpR X (compareOp .NotIn) r ∧ S2 G r fNotIn := by
  refine ⟨_, op_notIn_seq, fun F H σ S T x y dx dy kd Q st rx ry e k => ?_⟩
  unfold fNotIn kz at e
  cases q : itemsOf dy with
  | none => rw [q] at e; cases e
  | some ys =>
    simp only [q] at e
    split at e
    · rename_i h
      cases e
      obtain ⟨p, vs, h1, h2, h3, h4, h5⟩ := in_core hK st rx ry q h
      exact ⟨p, vs, h1, h2, h3, h4, by show Q (.bl (!inV x vs)) H; rw [h5]; exact KE.val k st (.bl _)⟩
    · cases e
def Ty.nm : Ty → String
  | .int => "int"
  | .bool => "bool"
  | .str => "str"
  | .list => "list"
  | .tuple => "tuple"
def D.nm : D → Option String
  | .non => some "NoneType"
  | .bl _ => some "bool"
  | .int _ => some "int"
  | .str _ => some "str"
  | .lst _ => some "list"
  | .tup _ => some "tuple"
  | _ => none
theorem isTy_kit {t : Ty} {d : D} {b : Bool} (h : d.isTy t = some b) : ∃ n, d.nm = some n ∧ kitB n t.nm = some b := by
  cases t <;> cases d <;> simp only [D.isTy, reduceCtorEq] at h <;> (cases h; exact ⟨_, rfl, by decide +kernel⟩)
theorem tyx_of {F : Hp} {v : V} {d : D} {n : String} (r : Rep G F v d) (h : d.nm = some n) : TyX G.K F v (.type n) := by
  cases r <;> simp only [D.nm, reduceCtorEq] at h <;> cases h
  · exact .base .non
  · exact .base (.bl _)
  · exact .base (.int _)
  · exact .base (.str _)
  · rename_i a vs ds hs rs
    rcases hs with (hs | ⟨o, hs⟩) | ⟨o, its, m, hk, hc, _⟩
    · exact .base (.tup hs)
    · exact .fTuple hs
    · exact .kTuple hk hc
  · rename_i a vs ds hs rs
    exact .base (.lst hs)
theorem tr_isi (t : Ty) {e : Expr} {m : E} {p p2 pos : Pos} {x : PySem.Str} (C : Cok X G W k) (h : TrE X G W e m) (hm : X.mg "isinstance" = none) (hm2 : X.mg x = none) (hx : bootBuiltins x = some (.type t.nm)) (hn : x ≠ "__name__" := by decide) (hd : (x == ("__debug__" : PySem.Str)) = false := by decide)
    (hg : Gl X "isinstance" := by rfl) (hg2 : Gl X x := by rfl) (he : starEach [e, .Name x p2] X.env = (false, eval e X.env) :: starEach [.Name x p2] X.env := by rfl) (he2 : starEach [.Name x p2] X.env = (false, eval (.Name x p2) X.env) :: starEach [] X.env := by rfl)
    (hpl : (backTo pos (starEach [.Name x p2] X.env)).any (·.1) = false := by rfl) : TrE X G W (.Call (.Name "isinstance" p) [e, .Name x p2] [] pos) (eIsi t m) := by
  obtain ⟨u, q, d⟩ := h
  refine ⟨_, pe_callB call_isi hg hm (by decide +kernel) (pa_cons q (pa_cons (pe_bltn (v := .ty t.nm) hg2 hm2 hx rfl hn hd) pa_nil he2) he) (by decide) (by decide) he hpl, fun F H σ S T Q st z => ?_⟩
  refine d.dat F H σ S T _ st (PR.bind z fun dd S1 y => ?_)
  intro v F1 H1 T1 s1 st1 r1
  have y : PR G W F H σ T (KE G F H σ T Q) (ofO (fIsi t dd) S1) := y
  unfold fIsi at y
  cases e1 : dd.isTy t with
  | none => rw [e1] at y; exact y.elim
  | some b =>
    rw [e1] at y
    have y : KE G F H σ T Q (.fz, .bl b) S1 := y
    obtain ⟨n, h1, h2⟩ := isTy_kit e1
    exact ⟨v, .ty t.nm, .type n, .type t.nm, b, rfl, .ty _, C.hK ▸ tyx_of (r1.mono st1.sub) h1, kit_ty h2, KE.val (y.re s1) st1 (.bl b)⟩
end
end TB
namespace TB
open PySem PySem.Spec PyProof.Rows L2
section
variable {X : Cx} {G : Cfgx} {W : WX} {k : Nat} {F H : Hp} {σ : L2.St} {S : List Slot} {T : Cnt}
theorem own_at {i : Nat} {kd : Kd} {d : D} (st : St' G F H σ S T) (e : S[i]? = some (some (kd, d))) : ∃ v f, σ[i]? = some (some v) ∧ Own G F H kd v d f ∧ (∀ a, f a ≤ T a) ∧
    ∀ F' H' k' d' f', Same F F' → Same F' H' → (∀ a o, T a ≠ 0 → f a = 0 → H a = some o → H' a = some o) → Own G F' H' k' v d' f' → (∀ a, f' a ≤ f a) → (∀ a, F' a ≠ none → F a ≠ none ∨ (f a ≠ 0 ∧ f' a = 0)) →
      ∃ T', St' G F' H' σ (S.set i (some (k', d'))) T' ∧ ∀ a, T' a + f a = T a + f' a := by
  obtain ⟨v, f, T0, ht, hv, ho, back⟩ := st.sl.at e
  cases ho with
  | @yes k1 v1 d1 f1 o =>
    refine ⟨v1, f, hv, o, fun a => by have := ht a; omega, fun F' H' k' d' f' sF sub kp o' le' nF => ?_⟩
    have e2 : σ.set i (some v1) = σ := by
      obtain ⟨hi, q1⟩ := List.getElem?_eq_some_iff.mp hv
      rw [← q1, List.set_getElem_self]
    have q := back F' H' (some v1) (some (k', d')) f' sF (fun a u n h => kp a u (by have := ht a; omega) (by have := ht a; have := st.le a; omega) h) (.yes o')
    rw [e2] at q
    refine ⟨add f' T0, ⟨st.pi, sub, q, fun a => ?_, fun a n => ?_⟩, fun a => ?_⟩
    · have := le' a; have := ht a; have := st.le a; simp only [add]; omega
    · have := le' a
      have := ht a
      have := st.le a
      rcases nF a n with z | ⟨z1, z2⟩
      · have := st.di a z; simp only [add]; omega
      · simp only [add]; omega
    · have := ht a; simp only [add]; omega
theorem ownL_some {S : List Slot} {i : Nat} {xs : List D} (e : ownL S i = some xs) : S[i]? = some (some (.li .fz, .lst xs)) := by
  unfold ownL at e
  split at e
  · cases e; assumption
  · cases e
theorem ownK_some {S : List Slot} {i : Nat} {xs : List (D × D)} (e : ownK S i = some xs) : S[i]? = some (some (.dK .fz, .dic xs)) := by
  unfold ownK at e
  split at e
  · cases e; assumption
  · cases e
/-- an own list of frozen items: where it stands, how it is rewritten -/
theorem own_list {i : Nat} {xs : List D} (st : St' G F H σ S T) (e : ownL S i = some xs) : ∃ a vs, σ[i]? = some (some (.ref a)) ∧ H a = some (.lst vs) ∧ Reps G F vs xs ∧ F a = none ∧
    ∀ ws ys, Reps G F ws ys → St' G F (upd H a (.lst ws)) σ (S.set i (some (.li .fz, .lst ys))) T ∧ Step F H T F (upd H a (.lst ws)) T := by
  obtain ⟨v, f, hv, o, hf, back⟩ := own_at st (ownL_some e)
  cases o with
  | @li _ a vs ds g h r =>
    obtain ⟨r1, e1⟩ := reps_fz r
    subst e1
    have t1 : T a ≠ 0 := by have := hf a; simp only [add, one, if_true] at this; omega
    have fa : F a = none := Decidable.byContradiction fun n => t1 (st.di a n)
    have sub2 : ∀ o, Same F (upd H a o) := fun o b u q => by
      by_cases z : b = a
      · subst z; rw [fa] at q; cases q
      · rw [upd_ne z]; exact st.sub _ _ q
    refine ⟨a, vs, hv, h, r1, fa, fun ws ys rw' => ?_⟩
    obtain ⟨T', st', ht⟩ := back F (upd H a (.lst ws)) (.li .fz) (.lst ys) (add (one a) nil0) (Same.refl F) (sub2 _) (fun b u n z q => by
      by_cases y : b = a
      · subst y; simp [add, one] at z
      · rw [upd_ne y]; exact q) (.li upd_same (owns_fz rw')) (fun b => Nat.le_refl _) (fun b n => .inl n)
    have eT : T' = T := by funext b; have := ht b; omega
    subst eT
    refine ⟨st', Same.refl F, fun b u z q => ?_, fun b n => .inl n, fun b h n => absurd h n, fun b n => ?_⟩
    · by_cases y : b = a
      · subst y; exact absurd z t1
      · rw [upd_ne y]; exact q
    · by_cases y : b = a
      · subst y; rw [upd_same]; simp
      · rw [upd_ne y]; exact n
/-- an own dict of frozen items -/
theorem own_dict {i : Nat} {xs : List (D × D)} (st : St' G F H σ S T) (e : ownK S i = some xs) : ∃ a kvs, σ[i]? = some (some (.ref a)) ∧ H a = some (.dK kvs) ∧ xs.map (·.1) = kvs.map (fun p => keyD p.1) ∧ Reps G F (kvs.map (·.2)) (xs.map (·.2)) ∧
    ∀ ws ys, ys.map (·.1) = ws.map (fun p => keyD p.1) → Reps G F (ws.map (·.2)) (ys.map (·.2)) → St' G F (upd H a (.dK ws)) σ (S.set i (some (.dK .fz, .dic ys))) T ∧ Step F H T F (upd H a (.dK ws)) T := by
  obtain ⟨v, f, hv, o, hf, back⟩ := own_at st (ownK_some e)
  cases o with
  | @dK _ a kvs kds g h hk r =>
    obtain ⟨r1, e1⟩ := reps_fz r
    subst e1
    have t1 : T a ≠ 0 := by have := hf a; simp only [add, one, if_true] at this; omega
    have fa : F a = none := Decidable.byContradiction fun n => t1 (st.di a n)
    have sub2 : ∀ o, Same F (upd H a o) := fun o b u q => by
      by_cases z : b = a
      · subst z; rw [fa] at q; cases q
      · rw [upd_ne z]; exact st.sub _ _ q
    refine ⟨a, kvs, hv, h, hk, r1, fun ws ys k' rw' => ?_⟩
    obtain ⟨T', st', ht⟩ := back F (upd H a (.dK ws)) (.dK .fz) (.dic ys) (add (one a) nil0) (Same.refl F) (sub2 _) (fun b u n z q => by
      by_cases y : b = a
      · subst y; simp [add, one] at z
      · rw [upd_ne y]; exact q) (.dK upd_same k' (owns_fz rw')) (fun b => Nat.le_refl _) (fun b n => .inl n)
    have eT : T' = T := by funext b; have := ht b; omega
    subst eT
    refine ⟨st', Same.refl F, fun b u z q => ?_, fun b n => .inl n, fun b h n => absurd h n, fun b n => ?_⟩
    · by_cases y : b = a
      · subst y; exact absurd z t1
      · rw [upd_ne y]; exact q
    · by_cases y : b = a
      · subst y; rw [upd_same]; simp
      · rw [upd_ne y]; exact n
theorem has_list {α : Type} {K : α → List Slot → Prop} {i : Nat} {f : Unit → M α} (st : St' G F H σ S T) (p : PR G W F H σ T K ((hasL i S).bind f)) : (∃ xs, ownL S i = some xs) ∧ PR G W F H σ T K (f () S) := by
  unfold hasL at p
  cases e : ownL S i with
  | none => rw [e] at p; exact p.elim
  | some xs => rw [e] at p; exact ⟨⟨xs, rfl⟩, p⟩
theorem has_listS {α : Type} {K : α → List Slot → Prop} {i : Nat} {f : Unit → M α} (st : St' G F H σ S T) (p : PRs G W F H T K ((hasL i S).bind f)) : (∃ xs, ownL S i = some xs) ∧ PRs G W F H T K (f () S) := by
  unfold hasL at p
  cases e : ownL S i with
  | none => rw [e] at p; exact p.elim
  | some xs => rw [e] at p; exact ⟨⟨xs, rfl⟩, p⟩
theorem has_dictS {α : Type} {K : α → List Slot → Prop} {i : Nat} {f : Unit → M α} (st : St' G F H σ S T) (p : PRs G W F H T K ((hasK i S).bind f)) : (∃ xs, ownK S i = some xs) ∧ PRs G W F H T K (f () S) := by
  unfold hasK at p
  cases e : ownK S i with
  | none => rw [e] at p; exact p.elim
  | some xs => rw [e] at p; exact ⟨⟨xs, rfl⟩, p⟩
theorem norm_ix {n : Nat} {i : Int} {j : Nat} (h : normIx n i = some j) : ixN n i = some j ∧ j < n ∧ seqIndex? i n = some j := by
  have h2 : ixN n i = some j := h
  obtain ⟨a, b, _, _⟩ := ixN_seq h2
  exact ⟨h2, b, a⟩
theorem tr_setIx (i : Nat) {x : PySem.Str} {e kx : Expr} {m n : E} {p pos' pos : Pos} (h : TrE X G W e m) (h2 : TrE X G W kx n)
    (hN : X.N[i]? = some x := by rfl) (hv : Vis X.env.scope x := by first | exact Or.inl rfl | exact Or.inr (Or.inl rfl) | exact Or.inr (Or.inr rfl)) (hd : (x == ("__debug__" : PySem.Str)) = false := by decide) (hcd : (x == ("__classdict__" : PySem.Str)) = false := by decide)
    (ha : ∀ v, assign (.Subscript (.Name x p) kx pos') X.env v = (do
      let ov ← holding [v] (eval (.Name x p) X.env)
      let iv ← holding [v, ov] (eval kx X.env)
      standAt pos'
      holding [v, ov, iv] (setItem ov iv v)
      release [v, ov, iv] []) := by intro _; rfl)
    (hs : swapsWithSole [.Subscript (.Name x p) kx pos'] e pos.line X.env = pure false := by rfl) (hw : swappedStores [.Subscript (.Name x p) kx pos'] e X.env = pure none := by rfl) (h1 : (assignEach [.Subscript (.Name x p) kx pos'] X.env).map (·.2) = [assign (.Subscript (.Name x p) kx pos') X.env] := by rfl) :
    TrS X G W (.Assign [.Subscript (.Name x p) kx pos'] e pos) (sSetIx i n m) := by
  obtain ⟨t, q, d⟩ := h
  obtain ⟨u, q2, d2⟩ := h2
  refine ⟨_, ps_asg q (pg_sub (pe_var hN hv hd hcd) q2 set_list ha) hs hw h1, fun F H σ S T D st z => d.dat F H σ S T _ st (PRs.bind z fun y S1 z1 => ?_)⟩
  intro v F1 H1 T1 s1 st1 r1
  obtain ⟨⟨xs0, e0⟩, z1⟩ := has_listS st1 (PRs.reS s1 z1)
  obtain ⟨a, vs0, hv0, _⟩ := own_list st1 e0
  refine ⟨_, hv0, ?_⟩
  refine d2.dat F1 H1 σ S1 T1 _ st1 (PRs.bind z1 fun kk S2 z2 => ?_)
  intro w F2 H2 T2 s2 st2 r2
  have z2 := PRs.reS s2 z2
  cases e2 : ownL S2 i with
  | none => rw [e2] at z2; exact z2.elim
  | some xs =>
    rw [e2] at z2
    obtain ⟨a', vs, hv2, hH, rs, _, up⟩ := own_list st2 e2
    rw [hv0] at hv2
    cases hv2
    cases r2 with
    | int j =>
      have z2 : PRs G W F2 H2 T2 (KS G F2 H2 T2 D) (match normIx xs.length j with | some n => .ok .nx (S2.set i (some (.li .fz, .lst (xs.set n y)))) | none => .bad) := z2
      cases e3 : normIx xs.length j with
      | none => rw [e3] at z2; exact z2.elim
      | some nn =>
        rw [e3] at z2
        obtain ⟨n1, n2, n3⟩ := norm_ix e3
        obtain ⟨st3, s3⟩ := up (vs.set nn v) (xs.set nn y) (rs.set (r1.mono s2.sF) nn)
        refine ⟨a, vs, j, nn, rfl, rfl, hH, by rw [rs.len]; exact n1, ?_⟩
        exact (show KS G F2 H2 T2 D .nx _ from z2) σ F2 _ T2 s3 st3
    | _ => exact z2.elim
theorem tr_ixO (i : Nat) {x : PySem.Str} {kx : Expr} {n : E} {p pos : Pos} (h2 : TrE X G W kx n) (hN : X.N[i]? = some x := by rfl) (hv : Vis X.env.scope x := by first | exact Or.inl rfl | exact Or.inr (Or.inl rfl) | exact Or.inr (Or.inr rfl)) (hd : (x == ("__debug__" : PySem.Str)) = false := by decide) (hcd : (x == ("__classdict__" : PySem.Str)) = false := by decide)
    (hp : PlainIx kx := by exact fun _ _ => rfl) : TrE X G W (.Subscript (.Name x p) kx pos) (eIxO i n) := by
  obtain ⟨u, q2, d2⟩ := h2
  refine ⟨_, pe_ix ix_list (pe_var hN hv hd hcd) q2 hp, fun F H σ S T Q st z => ?_⟩
  obtain ⟨⟨xs0, e0⟩, z1⟩ := has_list st z
  obtain ⟨a, vs0, hv0, _⟩ := own_list st e0
  refine ⟨_, hv0, ?_⟩
  refine d2.dat F H σ S T _ st (PR.bind z1 fun kk S2 z2 => ?_)
  intro w F2 H2 T2 s2 st2 r2
  cases e2 : ownL S2 i with
  | none => rw [e2] at z2; exact z2.elim
  | some xs =>
    rw [e2] at z2
    obtain ⟨a', vs, hv2, hH, rs, _, up⟩ := own_list st2 e2
    rw [hv0] at hv2
    cases hv2
    cases r2 with
    | int j =>
      have z2 : PR G W F H σ T (KE G F H σ T Q) (match (normIx xs.length j).bind fun n => xs[n]? with | some d => .ok (.fz, d) S2 | none => .bad) := z2
      cases e3 : normIx xs.length j with
      | none => rw [e3] at z2; exact z2.elim
      | some nn =>
        rw [e3] at z2
        cases e4 : xs[nn]? with
        | none => simp only [Option.bind_some, e4] at z2; exact z2.elim
        | some d =>
          simp only [Option.bind_some, e4] at z2
          have z2 : KE G F H σ T Q (.fz, d) S2 := z2
          obtain ⟨v, hv3, rv⟩ := rs.get e4
          exact ⟨a, vs, j, v, rfl, rfl, .inl (.inl hH), atI_of (by rw [rs.len]; exact e3) hv3, KE.val (KE.re s2 z2) st2 rv⟩
    | _ => exact z2.elim
/-- what a method of a list does -/
def MthOk (G : Cfgx) (r : V → List V → Hp → VK → Prop) (f : List D → List D → Option (D × List D)) : Prop := ∀ F H a vs xs us ds d ys Q, H a = some (.lst vs) → Reps G F vs xs → Reps G F us ds → f xs ds = some (d, ys) → (∀ v ws, Rep G F v d → Reps G F ws ys → Q v (upd H a (.lst ws))) → r (.ref a) us H Q
theorem tr_mth (i : Nat) {x name : PySem.Str} {id : String} {r : V → List V → Hp → VK → Prop} {f : List D → List D → Option (D × List D)} {e : Expr} {es : List Expr} {ms : List E} {p apos cpos : Pos} (slot : PySem.Slot "list" name id) (hty : typeOf (.builtin id) = pure (.type "method_descriptor")) (hm : MtR X id r) (ok : MthOk G r f) (h : TrA X G W (e :: es) ms)
    (hN : X.N[i]? = some x := by rfl) (hv : Vis X.env.scope x := by first | exact Or.inl rfl | exact Or.inr (Or.inl rfl) | exact Or.inr (Or.inr rfl)) (hd : (x == ("__debug__" : PySem.Str)) = false := by decide) (hcd : (x == ("__classdict__" : PySem.Str)) = false := by decide)
    (hbase : attributeBase (.Name x p) name X.env (eval (.Name x p) X.env) = eval (.Name x p) X.env := by rfl)
    (hfew : ((backTo cpos (starEach (e :: es) X.env)).all (fun x => !x.1) && (backToKw cpos (keywordEach [] X.env)).all (fun x => x.1.isSome)
      && decide ((e :: es).length + ([] : List Keyword).length + (if ([] : List Keyword).isEmpty then 0 else 1) < 30)) = true := by rfl)
    (hline : (apos.endLine == cpos.line) = true := by rfl) (hs : starEach (e :: es) X.env = (false, eval e X.env) :: starEach es X.env := by rfl) (hplain : (backTo cpos (starEach es X.env)).any (·.1) = false := by rfl) :
    TrE X G W (.Call (.Attribute (.Name x p) name apos) (e :: es) [] cpos) (eMth f i ms) := by
  obtain ⟨u, q2, d2⟩ := h
  refine ⟨_, pe_bm F.plainAttrs_list slot hty hm (pe_var hN hv hd hcd) q2 hbase hfew hline hs hplain, fun F H σ S T Q st z => ?_⟩
  obtain ⟨⟨xs0, e0⟩, z1⟩ := has_list st z
  obtain ⟨a, vs0, hv0, hH0, _⟩ := own_list st e0
  refine ⟨_, hv0, .inl ⟨rfl, vs0, .inl (.inl hH0)⟩, ?_⟩
  refine d2 F H σ S T _ st (PR.bind z1 fun ds S2 z2 => ?_)
  intro us F2 H2 T2 s2 st2 r2
  cases e2 : ownL S2 i with
  | none => rw [e2] at z2; exact z2.elim
  | some xs =>
    rw [e2] at z2
    obtain ⟨a', vs, hv2, hH, rs, _, up⟩ := own_list st2 e2
    rw [hv0] at hv2
    cases hv2
    have z2 : PR G W F H σ T (KE G F H σ T Q) (match f xs ds with | some (r, ys) => .ok (.fz, r) (S2.set i (some (.li .fz, .lst ys))) | none => .bad) := z2
    cases e3 : f xs ds with
    | none => rw [e3] at z2; exact z2.elim
    | some dy =>
      obtain ⟨d, ys⟩ := dy
      rw [e3] at z2
      have z2 : KE G F H σ T Q (.fz, d) (S2.set i (some (.li .fz, .lst ys))) := z2
      refine ok F2 H2 a vs xs us ds d ys Q hH rs r2 e3 fun v ws rv rws => ?_
      obtain ⟨st3, s3⟩ := up ws ys rws
      exact z2 v F2 _ T2 nil0 ((s2.trans s3).castR fun a => rfl) st3 (.fz rv) (fun a => st3.le a) fun _ _ => rfl
theorem mo_append : MthOk G rAppend fAppend := by
  intro F H a vs xs us ds d ys Q hH rs ru e q
  cases ru with
  | nil => cases e
  | cons r1 r2 =>
    cases r2 with
    | cons a b => cases e
    | nil =>
      have e : (if xs.length < sizeMax then some (D.non, xs ++ [_]) else none) = some (d, ys) := e
      split at e
      · rename_i hz
        cases e
        have l : sizeLine = sizeMax := rfl
        exact ⟨a, vs, _, rfl, rfl, hH, by rw [rs.len, l]; exact hz, q _ _ .non (rs.app (.cons r1 .nil))⟩
      · cases e
theorem tr_append (i : Nat) {x : PySem.Str} {e : Expr} {m : E} {p apos cpos : Pos} (h : TrE X G W e m) (hs : starEach [e] X.env = (false, eval e X.env) :: starEach [] X.env := by rfl)
    (hN : X.N[i]? = some x := by rfl) (hv : Vis X.env.scope x := by first | exact Or.inl rfl | exact Or.inr (Or.inl rfl) | exact Or.inr (Or.inr rfl)) (hd : (x == ("__debug__" : PySem.Str)) = false := by decide) (hcd : (x == ("__classdict__" : PySem.Str)) = false := by decide)
    (hbase : attributeBase (.Name x p) "append" X.env (eval (.Name x p) X.env) = eval (.Name x p) X.env := by rfl)
    (hfew : ((backTo cpos (starEach [e] X.env)).all (fun x => !x.1) && (backToKw cpos (keywordEach [] X.env)).all (fun x => x.1.isSome)
      && decide ([e].length + ([] : List Keyword).length + (if ([] : List Keyword).isEmpty then 0 else 1) < 30)) = true := by rfl)
    (hline : (apos.endLine == cpos.line) = true := by rfl) (hplain : (backTo cpos (starEach [] X.env)).any (·.1) = false := by rfl) :
    TrE X G W (.Call (.Attribute (.Name x p) "append" apos) [e] [] cpos) (eMth fAppend i [m]) :=
  tr_mth i F.slot_list_append F.type_list_append mt_append mo_append (tra_cons h tra_nil hs) hN hv hd hcd hbase hfew hline hs hplain
end
end TB
namespace TB
open PySem PySem.Spec PyProof.Rows L2
section
variable {X : Cx} {G : Cfgx} {W : WX} {k : Nat}
theorem tr_put {tg e : Expr} {g : Tg} {m : E} {pos : Pos} (h : TrE X G W e m) (hg : TrG X G tg g) (hs : swapsWithSole [tg] e pos.line X.env = pure false := by rfl) (hw : swappedStores [tg] e X.env = pure none := by rfl)
    (h1 : (assignEach [tg] X.env).map (·.2) = [assign tg X.env] := by rfl) : TrS X G W (.Assign [tg] e pos) (sPut g m) := by
  obtain ⟨t, p, d⟩ := h
  obtain ⟨u, q, dg⟩ := hg
  refine ⟨_, ps_asg p q hs hw h1, fun F H σ S T D st z => d.dat F H σ S T _ st (PRs.bind z fun y S1 z1 => ?_)⟩
  intro v F1 H1 T1 s1 st1 r1
  cases e1 : g.put y S1 with
  | none => rw [e1] at z1; exact z1.elim
  | some S2 =>
    rw [e1] at z1
    exact dg F1 H1 σ S1 T1 v y S2 _ st1 r1 e1 fun σ2 T2 st2 l2 _ => (show KS G F H T D .nx S2 from z1) σ2 F1 H1 T2 (s1.less l2) st2
def DenO (G : Cfgx) (W : WX) (t : TO) (m : M (Option Int)) : Prop := ∀ F H σ S T Q, St' G F H σ S T → PR G W F H σ T (fun o S' => ∀ F' H' T', Step F H T F' H' T' → St' G F' H' σ S' T' → Q o H') (m S) → t σ H Q
def TrO (X : Cx) (G : Cfgx) (W : WX) (e : Option Expr) (m : Option E) : Prop := ∃ t, PO X e t ∧ DenO G W t (eOpt m)
theorem to_none : TrO X G W none none := ⟨_, po_none, fun F H σ S T Q st p => (show ∀ F' H' T', Step F H T F' H' T' → St' G F' H' σ S T' → Q none H' from p) F H T (Step.refl F H T) st⟩
theorem to_some {e : Expr} {m : E} (h : TrE X G W e m) : TrO X G W (some e) (some m) := by
  obtain ⟨t, p, d⟩ := h
  refine ⟨_, po_some p, fun F H σ S T Q st z => d.dat F H σ S T _ st (PR.bind z fun dd S1 y => ?_)⟩
  intro v F1 H1 T1 s1 st1 r1
  cases r1 with
  | int i => exact ⟨i, rfl, (show ∀ F' H' T', Step F H T F' H' T' → St' G F' H' σ S1 T' → Q (some i) H' from y) F1 H1 T1 s1 st1⟩
  | _ => exact y.elim
theorem cutL_all {α : Type} {xs : List α} {lo hi : Option Int} (h1 : ixS xs.length 0 lo = 0) (h2 : ixS xs.length xs.length hi = xs.length) : cutL xs lo hi = xs := by
  unfold cutL
  rw [h1, h2]
  simp
theorem Reps.cut {F : Hp} {vs : List V} {ds : List D} (r : Reps G F vs ds) (lo hi : Option Int) : Reps G F (cutV vs lo hi) (cutL ds lo hi) := by
  have e : cutV vs lo hi = (vs.drop (ixS vs.length 0 lo)).take (ixS vs.length vs.length hi - ixS vs.length 0 lo) := by
    cases lo <;> cases hi <;> rfl
  rw [e]
  unfold cutL
  rw [r.len]
  exact (r.drop _).take _
theorem tr_sl {e : Expr} {lo hi : Option Expr} {a : E} {ml mh : Option E} {p2 pos : Pos} (C : Cok X G W k) (h : TrE X G W e a) (hl : TrO X G W lo ml) (hh : TrO X G W hi mh) : TrE X G W (.Subscript e (.Slice lo hi none p2) pos) (eSl a ml mh) := by
  obtain ⟨t, p, d⟩ := h
  obtain ⟨u, q, d2⟩ := hl
  obtain ⟨w, r, d3⟩ := hh
  refine ⟨_, pe_slice (sl_list.or (sl_tupA.or sl_str)) p q r, fun F H σ S T Q st z => d.dat F H σ S T _ st (PR.bind z fun x S1 y => ?_)⟩
  intro v F1 H1 T1 s1 st1 r1
  refine d2 F1 H1 σ S1 T1 _ st1 (PR.bind (PR.re s1 (fun _ _ h => h) y) fun l S2 y2 => ?_)
  intro F2 H2 T2 s2 st2
  refine d3 F2 H2 σ S2 T2 _ st2 (PR.bind (PR.re s2 (fun _ _ h => h) y2) fun h S3 y3 => ?_)
  intro F3 H3 T3 s3 st3
  have s13 := (s1.trans s2).trans s3
  have r3 := (r1.mono s2.sF).mono s3.sF
  cases e1 : fSl x l h with
  | none => rw [e1] at y3; exact y3.elim
  | some kd =>
    rw [e1] at y3
    have y3 : KE G F H σ T Q kd S3 := y3
    have y3 := y3.re s13
    have ixe : ∀ (n d : Nat) (o : Option Int), HT.sIx n d o = ixS n d o := fun n d o => by cases o <;> rfl
    cases r3 with
    | @lst b vs ds hb rs =>
      cases e1
      exact .inl ⟨b, vs, rfl, .inl (.inl (st3.sub _ _ hb)), fun p hp => KE.newL y3 st3 (rs.cut l h) p hp⟩
    | @tup b vs ds hb rs =>
      cases e1
      refine .inr (.inl ⟨b, vs, rfl, C.hK ▸ same_t st3.sub hb, fun hw => ?_, fun hw p hp => KE.newT y3 st3 (rs.cut l h) p hp⟩)
      have e2 : cutL ds l h = ds := by
        rw [ixe, ixe] at hw
        exact cutL_all (by rw [← rs.len]; exact hw.1) (by rw [← rs.len]; exact hw.2)
      rw [e2] at y3
      exact KE.val y3 st3 (.tup hb rs)
    | str z =>
      have e1 : (if z.cps.toList.length ≤ sizeMax then kz (.str (cutL z.cps.toList l h)) else none) = some kd := e1
      split at e1
      · rename_i hz
        cases e1
        refine .inr (.inr ⟨z, rfl, by rw [str_len]; exact hz, KE.val y3 st3 ?_⟩)
        have e4 : (cutS z l h).cps.toList = cutL z.cps.toList l h := by
          unfold cutS
          unfold cutL
          rw [ixe, ixe, str_len]
        rw [← e4]
        exact .str _
      · cases e1
    | _ => cases e1
theorem ints_of {F : Hp} : ∀ {vs : List V} {ds : List D} {is : List Int}, Reps G F vs ds → intsOf ds = some is → vs = is.map V.int
  | _, _, _, .nil, h => by cases h; rfl
  | _, _, is, .cons r s, h => by
    cases r <;> simp only [intsOf, reduceCtorEq] at h
    rename_i b
    cases q : intsOf _ with
    | none => rw [q] at h; cases h
    | some js =>
      rw [q] at h
      cases h
      rw [ints_of s q]; rfl
theorem strs_of {F : Hp} : ∀ {vs : List V} {ds : List D} {is : List (List Nat)}, Reps G F vs ds → strsOf ds = some is → ∃ zs : List PySem.Str, vs = zs.map V.str ∧ zs.map (fun z => z.cps.toList) = is
  | _, _, _, .nil, h => by cases h; exact ⟨[], rfl, rfl⟩
  | _, _, is, .cons r s, h => by
    cases r <;> simp only [strsOf, reduceCtorEq] at h
    rename_i z
    cases q : strsOf _ with
    | none => rw [q] at h; cases h
    | some js =>
      rw [q] at h
      cases h
      obtain ⟨zs, e1, e2⟩ := strs_of s q
      exact ⟨z :: zs, by rw [e1]; rfl, by rw [← e2]; rfl⟩
theorem reps_ints {F : Hp} : ∀ is : List Int, Reps G F (is.map V.int) (is.map D.int)
  | [] => .nil
  | i :: is => .cons (.int i) (reps_ints is)
theorem reps_strs {F : Hp} : ∀ zs : List PySem.Str, Reps G F (zs.map V.str) ((zs.map fun z => z.cps.toList).map D.str)
  | [] => .nil
  | z :: zs => .cons (.str z) (reps_strs zs)
theorem sortI_eq {is js : List Int} (hp : js.Perm is) (hs : js.Pairwise (· ≤ ·)) : js = sortI is := by
  unfold sortI
  refine List.Perm.eq_of_pairwise (le := (· ≤ ·)) (fun a b _ _ h1 h2 => Int.le_antisymm h1 h2) hs ?_ (hp.trans (List.mergeSort_perm _ _).symm)
  have := List.pairwise_mergeSort (le := fun a b : Int => decide (a ≤ b)) (fun a b c h1 h2 => by simp at *; omega) (fun a b => by simp; omega) is
  exact this.imp fun h => by simpa using h
theorem ltCps_eq : ∀ a b : List Nat, ltCps a b = decide (a < b)
  | [], [] => rfl
  | [], _ :: _ => by simp [ltCps]
  | _ :: _, [] => by simp [ltCps]
  | a :: r, b :: t => by
    rw [show ltCps (a :: r) (b :: t) = (decide (a < b) || (a == b && ltCps r t)) from rfl, ltCps_eq r t]
    by_cases h1 : a < b
    · simp [h1, List.cons_lt_cons_iff]
    · by_cases h2 : a = b
      · subst h2; simp [List.cons_lt_cons_iff]
      · simp [h1, h2, List.cons_lt_cons_iff]
theorem rising_pair : ∀ {zs : List PySem.Str} {p : PySem.Str}, risingS p zs = true → ((p :: zs).map fun z => z.cps.toList).Pairwise (· ≤ ·)
  | [], p, _ => by simp
  | z :: zs, p, h => by
    unfold risingS at h
    obtain ⟨h1, h2⟩ := Bool.and_eq_true_iff.mp h
    have ih := rising_pair h2
    have h3 : p.cps.toList ≤ z.cps.toList := by
      rw [ltCps_eq] at h1
      exact List.not_lt.mp (by simpa using h1)
    rw [List.map_cons, List.pairwise_cons]
    refine ⟨fun y hy => ?_, ih⟩
    rw [List.map_cons] at hy
    rcases List.mem_cons.mp hy with e | e
    · rw [e]; exact h3
    · rw [List.map_cons, List.pairwise_cons] at ih
      exact List.le_trans h3 (ih.1 y e)
theorem sortT_eq {is js : List (List Nat)} (hp : js.Perm is) (hs : js.Pairwise (· ≤ ·)) : js = sortT is := by
  unfold sortT
  refine List.Perm.eq_of_pairwise (le := (· ≤ ·)) (fun a b _ _ h1 h2 => List.le_antisymm h1 h2) hs ?_ (hp.trans (List.mergeSort_perm _ _).symm)
  have e : (fun a b : List Nat => !decide (b < a)) = fun a b => decide (a ≤ b) := by
    funext a b
    rw [← decide_not]
    exact decide_eq_decide.mpr List.not_lt
  rw [e]
  have := List.pairwise_mergeSort (le := fun a b : List Nat => decide (a ≤ b)) (fun a b c h1 h2 => by simp at *; exact List.le_trans h1 h2) (fun a b => by simp; exact List.le_total a b) is
  exact this.imp fun h => by simpa using h
theorem cls_sorted (hK : X.K = G.K) : ∃ r, CallR X (.builtin "sorted") r ∧ SN G r fSorted := by
  refine ⟨_, cr_sortedI.or cr_sortedS, fun F H σ S T xs ds kd Q st rs e k => ?_⟩
  rcases rs with _ | ⟨r1, _ | ⟨r2, r3⟩⟩
  · simp [fSorted] at e
  · cases r1 <;> simp only [fSorted, reduceCtorEq] at e
    rename_i a xs as h1 r1
    cases e1 : intsOf as with
    | some is =>
      rw [e1] at e
      cases e
      have ex := ints_of r1 e1
      subst ex
      refine .inl ⟨a, is, rfl, .inl (.inl (st.sub _ _ h1)), fun js p hp hs hn => ?_⟩
      rw [sortI_eq hp hs]
      exact KE.newL k st (reps_ints _) p hn
    | none =>
      rw [e1] at e
      cases e2 : strsOf as with
      | none => rw [e2] at e; cases e
      | some ss =>
        rw [e2] at e
        have e : (if ss.length < 64 then some ((.li .fz, .lst ((sortT ss).map D.str)) : KD) else none) = some kd := e
        split at e
        · rename_i hz
          cases e
          obtain ⟨zs, ex, ez⟩ := strs_of r1 e2
          subst ex ez
          refine .inr ⟨a, zs, rfl, .inl (.inl (st.sub _ _ h1)), by simpa using hz, fun ys p hp hs hn => ?_⟩
          have e5 : (ys.map fun z => z.cps.toList) = sortT (zs.map fun z => z.cps.toList) := sortT_eq (hp.map _) (by
            cases ys with
            | nil => simp
            | cons y ys => exact rising_pair hs)
          rw [← e5] at k
          exact KE.newL k st (reps_strs _) p hn
        · cases e
  · cases r1 <;> simp [fSorted] at e
theorem joinD_eq (s : List Nat) : ∀ ps, TL.joinL s ps = joinD s ps
  | [] => rfl
  | [_] => rfl
  | p :: q :: r => by
    show p ++ (s ++ TL.joinL s (q :: r)) = p ++ (s ++ joinD s (q :: r))
    rw [joinD_eq s (q :: r)]
theorem tr_join {o e : Expr} {a b : E} {apos pos : Pos} (ho : TrE X G W o a) (he : TrE X G W e b) (hs : starEach [e] X.env = [(false, eval e X.env)] := by rfl) (hbase : attributeBase o "join" X.env (eval o X.env) = eval o X.env := by rfl) (hline : (apos.endLine == pos.line) = true := by rfl) :
    TrE X G W (.Call (.Attribute o "join" apos) [e] [] pos) (eJoin a b) := by
  obtain ⟨t, p, d⟩ := ho
  obtain ⟨u, q, d2⟩ := he
  refine ⟨_, pe_join p q hs hbase hline, fun F H σ S T Q st z => d.dat F H σ S T _ st (PR.bind z fun x S1 y => ?_)⟩
  intro v F1 H1 T1 s1 st1 r1
  cases r1 with
  | str z =>
    refine ⟨⟨z, rfl⟩, ?_⟩
    have y : PR G W F H σ T (KE G F H σ T Q) ((eDat b S1).bind fun y => ofO (fJoin z.cps.toList y)) := y
    refine d2.dat F1 H1 σ S1 T1 _ st1 (PR.bind (PR.re s1 (fun _ _ h => h) y) fun l S2 y2 => ?_)
    intro v2 F2 H2 T2 s2 st2 r2
    cases r2 with
    | @lst c vs ds hc rs =>
      cases e2 : strsOf ds with
      | none =>
        have : fJoin z.cps.toList (.lst ds) = none := by show (strsOf ds).bind _ = none; rw [e2]; rfl
        rw [this] at y2; exact y2.elim
      | some ss =>
        obtain ⟨zs, ex, ez⟩ := strs_of rs e2
        subst ex ez
        have e3 : fJoin z.cps.toList (.lst ds) = if ((zs.map fun z => z.cps.toList).map (·.length)).sum + (zs.map fun z => z.cps.toList).length * z.cps.toList.length ≤ sizeMax then kz (.str (joinD z.cps.toList (zs.map fun z => z.cps.toList))) else none := by
          show (strsOf ds).bind _ = _; rw [e2]; rfl
        rw [e3] at y2
        split at y2
        · rename_i hz
          have y2 : KE G F H σ T Q (.fz, .str (joinD z.cps.toList (zs.map fun z => z.cps.toList))) S2 := y2
          refine ⟨z, c, zs, rfl, rfl, .inl (.inl (.inl (st2.sub _ _ hc))), ?_, ?_⟩
          · have e4 : (zs.map (·.length)) = ((zs.map fun z => z.cps.toList).map (·.length)) := by
              rw [List.map_map]
              exact List.map_congr_left fun z _ => str_len z
            rw [e4, str_len z]
            have hz2 := hz
            rw [List.length_map (as := zs)] at hz2
            exact hz2
          · have e5 : (Txt.join z zs).cps.toList = joinD z.cps.toList (zs.map fun z => z.cps.toList) := by
              rw [TL.join_eq]
              exact (TL.tl_join z zs).trans (joinD_eq _ _)
            rw [← e5] at y2
            exact KE.val (KE.re (s1.trans s2) y2) st2 (.str _)
        · exact y2.elim
    | _ => exact y2.elim
  | _ => exact y.elim
theorem flat_reps {F : Hp} (F' : Hp) : ∀ {vs : List V} {ds : List D}, ds.all D.flat = true → Reps G F vs ds → Reps G F' vs ds
  | _, _, _, .nil => .nil
  | _, _, h, .cons r s => by
    obtain ⟨h1, h2⟩ := Bool.and_eq_true_iff.mp (show (D.flat _ && List.all _ D.flat) = true from h)
    exact .cons (flat_rep h1 r F') (flat_reps F' h2 s)
theorem tr_peekL {e : Expr} {m : E} {W' : WX} (h : TrE X G W' e m) : TrE X G W e (ePeekL m) := by
  obtain ⟨t, hp, hd⟩ := h
  refine ⟨t, hp, fun F H σ S T Q st p => ?_⟩
  have st2 : St' G H H σ (S.map frz) nil0 := ⟨st.pi, Same.refl H, slots_frz st.sub st.sl, fun _ => Nat.zero_le _, fun _ _ => rfl⟩
  unfold ePeekL at p
  refine hd H H σ (S.map frz) nil0 Q st2 ?_
  cases e : m (S.map frz) with
  | exc x S => rw [e] at p; exact p.elim
  | bad => rw [e] at p; exact p.elim
  | ok kd S1 =>
    rw [e] at p
    obtain ⟨kk, d⟩ := kd
    split at p
    · rename_i ds S2 e3
      cases e3
      split at p
      · rename_i fl
        have p : KE G F H σ T Q (.li .fz, .lst ds) S := p
        intro v F' H' T' f s' st' o le di
        have sHH : Same H H' := fun a u e => s'.fr a u rfl e
        cases o with
        | @li _ a vs _ g hh r =>
          obtain ⟨r1, e1⟩ := reps_fz r
          subst e1
          have hn : ∀ b, add (one a) nil0 b ≠ 0 → H b = none := fun b n => (s'.nT b (by simp only [add] at *; omega)).resolve_left fun z => z rfl
          have ha : H a = none := hn a (by simp [add, one])
          have fa : F a = none := st.sub.free ha
          have tz : ∀ b, add (one a) nil0 b ≠ 0 → T b = 0 := fun b n => Decidable.byContradiction fun z => st.sl.there b z (hn b n)
          refine p (.ref a) F H' T (add (one a) nil0) ⟨Same.refl F, fun a u _ e => sHH a u e, fun b n => ?_, fun a h n => absurd h n, s'.tl⟩ ⟨st.pi, fun a u e => sHH _ _ (st.sub _ _ e), st.sl.mono (Same.refl F) fun a u _ e => sHH a u e, st.le, st.di⟩ (.li hh (owns_fz (flat_reps F fl r1))) (fun b => ?_) (fun b n => ?_)
          · by_cases z : T b = 0
            · exact .inr (hn b (by simp only [add] at *; omega))
            · exact .inl z
          · have h1 := st.le b
            by_cases z : add (one a) nil0 b = 0
            · omega
            · have h2 := tz b z; have : add (one a) nil0 b ≤ 1 := by simp only [add, one, nil0]; split <;> omega
              omega
          · by_cases z : b = a
            · subst z; rw [fa] at n; exact absurd rfl n
            · simp [add, one, nil0, z]
      · exact p.elim
    · exact p.elim
end
end TB
namespace TB
open PySem PySem.Spec PyProof.Rows L2
section
variable {X : Cx} {G : Cfgx} {W : WX} {k : Nat}
theorem tr_dnew {pos : Pos} : TrE X G W (.Dict [] [] pos) eDnew := ⟨_, pe_dnewK, fun F H σ S T Q st z => by
  have z : KE G F H σ T Q (.dK .fz, .dic []) S := z
  intro p hp
  obtain ⟨st2, s, le, fp⟩ := st.newT (o := .dK []) hp
  refine z (.ref p) F _ T (add (one p) nil0) (s.castR fun a => rfl) st2 (.dK (kds := []) upd_same rfl .nil) (fun a => le a) fun a n => ?_
  by_cases q : a = p
  · subst q; rw [fp] at n; exact absurd rfl n
  · simp [add, one, nil0, q]⟩
theorem key_of {F : Hp} {v : V} {d : D} (h : isKey d = true) (r : Rep G F v d) : ∃ kk, v = kV kk ∧ d = keyD kk := by
  cases r <;> first | cases h | skip
  · exact ⟨.inl _, rfl, rfl⟩
  · exact ⟨.inr _, rfl, rfl⟩
theorem key_eqv (a b : Key) : D.eqv (keyD a) (keyD b) = decide (a = b) := by
  cases a with
  | inl i => cases b with
    | inl j => simp [keyD, D.eqv, BEq.beq]
    | inr z => simp [keyD, D.eqv]
  | inr w => cases b with
    | inl j => simp [keyD, D.eqv]
    | inr z =>
      show (w.cps.toList == z.cps.toList) = _
      have e : (Sum.inr w : Key) = Sum.inr z ↔ w.cps.toList = z.cps.toList := by
        constructor
        · intro h; cases h; rfl
        · intro h
          cases w; cases z
          have h2 := Array.toList_inj.mp h
          simp at h2
          rw [h2]
      rw [Bool.eq_iff_iff, beq_iff_eq, decide_eq_true_iff]
      exact e.symm
theorem put_any {kvs : List (Key × V)} {kds : List (D × D)} (hk : kds.map (·.1) = kvs.map (fun p => keyD p.1)) (kk : Key) : (kds.any fun p => D.eqv p.1 (keyD kk)) = kvs.any fun kv => decide (kv.1 = kk) := by
  induction kvs generalizing kds with
  | nil => cases kds with
    | nil => rfl
    | cons a b => simp at hk
  | cons p r ih => cases kds with
    | nil => simp at hk
    | cons a b =>
      obtain ⟨h1, h2⟩ := List.cons.inj (show a.1 :: b.map (·.1) = keyD p.1 :: r.map (fun p => keyD p.1) from hk)
      rw [List.any_cons, List.any_cons, ih h2, h1, key_eqv]
theorem put_map {F : Hp} {kvs : List (Key × V)} {kds : List (D × D)} (hk : kds.map (·.1) = kvs.map (fun p => keyD p.1)) (hr : Reps G F (kvs.map (·.2)) (kds.map (·.2))) (kk : Key) {v : V} {d : D} (r : Rep G F v d) :
    (kds.map fun p => if D.eqv p.1 (keyD kk) = true then (p.1, d) else p).map (·.1) = (kvs.map fun kv => if kv.1 = kk then (kv.1, v) else kv).map (fun p => keyD p.1) ∧ Reps G F ((kvs.map fun kv => if kv.1 = kk then (kv.1, v) else kv).map (·.2)) ((kds.map fun p => if D.eqv p.1 (keyD kk) = true then (p.1, d) else p).map (·.2)) := by
  induction kvs generalizing kds with
  | nil => cases kds with
    | nil => exact ⟨rfl, .nil⟩
    | cons a b => simp at hk
  | cons p q ih => cases kds with
    | nil => simp at hk
    | cons a b =>
      obtain ⟨h1, h2⟩ := List.cons.inj (show a.1 :: b.map (·.1) = keyD p.1 :: q.map (fun p => keyD p.1) from hk)
      cases hr with
      | cons r1 r2 =>
        obtain ⟨i1, i2⟩ := ih h2 r2
        have e : D.eqv a.1 (keyD kk) = decide (p.1 = kk) := by rw [h1, key_eqv]
        by_cases z : p.1 = kk
        · rw [decide_eq_true z] at e
          simp only [List.map_cons, e, if_pos z, if_true]
          exact ⟨by rw [i1, h1], .cons r i2⟩
        · rw [decide_eq_false z] at e
          simp only [List.map_cons, e, if_neg z, Bool.false_eq_true, if_false]
          exact ⟨by rw [i1, h1], .cons r1 i2⟩
theorem put_rep {F : Hp} {kvs : List (Key × V)} {kds : List (D × D)} (hk : kds.map (·.1) = kvs.map (fun p => keyD p.1)) (hr : Reps G F (kvs.map (·.2)) (kds.map (·.2))) (kk : Key) {v : V} {d : D} (r : Rep G F v d) :
    (putD kds (keyD kk) d).map (·.1) = (putK kvs kk v).map (fun p => keyD p.1) ∧ Reps G F ((putK kvs kk v).map (·.2)) ((putD kds (keyD kk) d).map (·.2)) := by
  unfold putD putK
  rw [put_any hk kk]
  split
  · exact put_map hk hr kk r
  · rw [List.map_append, List.map_append, List.map_append, List.map_append, hk]
    exact ⟨rfl, hr.app (.cons r .nil)⟩
theorem tr_dput (i : Nat) {x : PySem.Str} {e kx : Expr} {m n : E} {p pos' pos : Pos} (C : Cok X G W k) (h : TrE X G W e m) (h2 : TrE X G W kx n)
    (hN : X.N[i]? = some x := by rfl) (hv : Vis X.env.scope x := by first | exact Or.inl rfl | exact Or.inr (Or.inl rfl) | exact Or.inr (Or.inr rfl)) (hd : (x == ("__debug__" : PySem.Str)) = false := by decide) (hcd : (x == ("__classdict__" : PySem.Str)) = false := by decide)
    (hs : swapsWith e (some (.Subscript (.Name x p) kx pos')) pos.line X.env = pure false := by rfl) :
    TrS X G W (.Assign [.Subscript (.Name x p) kx pos'] e pos) (sDput i n m) := by
  obtain ⟨t, q, d⟩ := h
  obtain ⟨u, q2, d2⟩ := h2
  have hu : X.A.units + 1 < cLine := by have := C.room.units; omega
  refine ⟨_, ps_dput hu (pe_var hN hv hd hcd) q2 q hs, fun F H σ S T D st z => d.dat F H σ S T _ st (PRs.bind z fun y S1 z1 => ?_)⟩
  intro v F1 H1 T1 s1 st1 r1
  obtain ⟨⟨xs0, e0⟩, z1⟩ := has_dictS st1 (PRs.reS s1 z1)
  obtain ⟨a, vs0, hv0, _⟩ := own_dict st1 e0
  refine ⟨_, hv0, ?_⟩
  refine d2.dat F1 H1 σ S1 T1 _ st1 (PRs.bind z1 fun kk S2 z2 => ?_)
  intro w F2 H2 T2 s2 st2 r2
  have z2 := PRs.reS s2 z2
  cases e2 : ownK S2 i with
  | none => rw [e2] at z2; exact z2.elim
  | some xs =>
    rw [e2] at z2
    obtain ⟨a', vs, hv2, hH, hk, rs, up⟩ := own_dict st2 e2
    rw [hv0] at hv2
    cases hv2
    have z2 : PRs G W F2 H2 T2 (KS G F2 H2 T2 D) (if isKey kk = true ∧ xs.length < sizeMax then .ok .nx (S2.set i (some (.dK .fz, .dic (putD xs kk y)))) else .bad) := z2
    split at z2
    · rename_i hz
      obtain ⟨key, ev, ed⟩ := key_of hz.1 r2
      subst ev ed
      obtain ⟨p1, p2⟩ := put_rep hk rs key (r1.mono s2.sF)
      obtain ⟨st3, s3⟩ := up (putK vs key v) (putD xs (keyD key) y) p1 p2
      have hl : vs.length = xs.length := by
        have := congrArg List.length hk
        simpa using this.symm
      exact ⟨a, _, rfl, DPut.k hH (by rw [hl]; exact hz.2), (show KS G F2 H2 T2 D .nx _ from z2) σ F2 _ T2 s3 st3⟩
    · exact z2.elim
theorem tr_listRg1 {a : Expr} {m : E} {p q pos pos2 : Pos} (C : Cok X G W k) (h : TrE X G W a m) (hm : X.mg "list" = none) (hm2 : X.mg "range" = none) (hg : Gl X "list" := by rfl) (hg2 : Gl X "range" := by rfl) (na2 : starEach [a] X.env = (false, eval a X.env) :: starEach [] X.env := by rfl)
    (na : starEach [.Call (.Name "range" q) [a] [] pos2] X.env = (false, eval (.Call (.Name "range" q) [a] [] pos2) X.env) :: starEach [] X.env := by rfl) : TrE X G W (.Call (.Name "list" p) [.Call (.Name "range" q) [a] [] pos2] [] pos) (eLRg1 m) := by
  obtain ⟨t, pa, d⟩ := h
  refine ⟨_, pe_listRg C.calm hg hm (prg_1 hg2 hm2 pa na2) na, fun F H σ S T Q st z => d.dat F H σ S T _ st (PR.bind z fun x S1 y => ?_)⟩
  intro v F1 H1 T1 s1 st1 r1
  cases r1 with
  | int j =>
    have y : PR G W F H σ T (KE G F H σ T Q) ((if j.natAbs ≤ sizeMax then M.pure (.li .fz, .lst (rangeL 0 j.toNat)) else fun _ => .bad) S1) := y
    split at y
    · rename_i hz
      have y : KE G F H σ T Q (.li .fz, .lst (rangeL 0 j.toNat)) S1 := y
      have l : limN = 4611686018427387904 := rfl
      have l2 : (sizeMax : Int) = 16777216 := rfl
      refine ⟨j, rfl, ⟨by omega, by omega, by omega, by omega, by omega⟩, fun p hp => KE.newL (y.re s1) st1 ?_ p hp⟩
      unfold rgV rangeL
      rw [show (j - 0).toNat = j.toNat by omega]
      have : ∀ l : List Nat, Reps G F1 (l.map fun i => V.int (0 + (i : Nat))) (l.map fun (i : Nat) => D.int (0 + (i : Int))) := by
        intro l
        induction l with
        | nil => exact .nil
        | cons a b ih => exact .cons (.int _) ih
      exact this _
    · exact y.elim
  | _ => exact y.elim
end
end TB
namespace TB
open PySem PySem.Spec PyProof.Rows L2
section
end
section
end
end TB
namespace TB
open PySem PySem.Spec PyProof.Rows L2
theorem S2.or {G : Cfgx} {r r' : R2} {f g : D → D → Option KD} (h : S2 G r f) (h' : S2 G r' g) : S2 G (fun x y H Q => r x y H Q ∨ r' x y H Q) (fOr f g) := by
  intro F H σ S T x y dx dy kd Q st rx ry e q
  unfold fOr at e
  cases e1 : f dx dy with
  | some a => rw [e1] at e; cases e; exact .inl (h F H σ S T x y dx dy kd Q st rx ry e1 q)
  | none => rw [e1] at e; exact .inr (h' F H σ S T x y dx dy kd Q st rx ry e q)
section
variable {X : Cx} {G : Cfgx} {W : WX} {k : Nat}
theorem cls_inA (hK : X.K = G.K) : ∃ r, OpR X (compareOp .In) r ∧ S2 G r fInA := by
  obtain ⟨r, h1, h2⟩ := cls_in (X := X) (G := G) hK
  obtain ⟨r', g1, g2⟩ := cls_inS (X := X) (G := G)
  exact ⟨_, orR h1 g1, h2.or g2⟩
theorem cls_notInA (hK : X.K = G.K) : ∃ r, OpR X (compareOp .NotIn) r ∧ S2 G r fNotInA := by
  obtain ⟨r, h1, h2⟩ := cls_notIn (X := X) (G := G) hK
  obtain ⟨r', g1, g2⟩ := cls_notInS (X := X) (G := G)
  exact ⟨_, orR h1 g1, h2.or g2⟩
theorem cls_isA : ∃ r, OpR X (compareOp .Is) r ∧ S2 G r fIsA := by
  obtain ⟨r, h1, h2⟩ := cls_isN (X := X) (G := G)
  obtain ⟨r', g1, g2⟩ := cls_isB (X := X) (G := G)
  exact ⟨_, orR h1 g1, h2.or g2⟩
theorem tr_Add (C : Cok X G W k) {a b : Expr} {ma mb : E} {pos : Pos} (ha : TrE X G W a ma) (hb : TrE X G W b mb) : TrE X G W (.BinOp a .Add b pos) (eOp fAdd ma mb) := by
  obtain ⟨r, h1, h2⟩ := cls_add (X := X) (G := G) C.hK
  exact tr_op h1 h2 ha hb
theorem tr_Sub (C : Cok X G W k) {a b : Expr} {ma mb : E} {pos : Pos} (ha : TrE X G W a ma) (hb : TrE X G W b mb) : TrE X G W (.BinOp a .Sub b pos) (eOp fSub ma mb) := by
  obtain ⟨r, h1, h2⟩ := cls_sub (X := X) (G := G)
  exact tr_op h1 h2 ha hb
theorem tr_Mult (C : Cok X G W k) {a b : Expr} {ma mb : E} {pos : Pos} (ha : TrE X G W a ma) (hb : TrE X G W b mb) : TrE X G W (.BinOp a .Mult b pos) (eOp fMul ma mb) := by
  obtain ⟨r, h1, h2⟩ := cls_mul (X := X) (G := G) C.hK
  exact tr_op h1 h2 ha hb
theorem tr_Mod (C : Cok X G W k) {a b : Expr} {ma mb : E} {pos : Pos} (ha : TrE X G W a ma) (hb : TrE X G W b mb) : TrE X G W (.BinOp a .Mod b pos) (eOp fMod ma mb) := by
  obtain ⟨r, h1, h2⟩ := cls_mod (X := X) (G := G)
  exact tr_op h1 h2 ha hb
theorem tr_FloorDiv (C : Cok X G W k) {a b : Expr} {ma mb : E} {pos : Pos} (ha : TrE X G W a ma) (hb : TrE X G W b mb) : TrE X G W (.BinOp a .FloorDiv b pos) (eOp fDiv ma mb) := by
  obtain ⟨r, h1, h2⟩ := cls_div (X := X) (G := G)
  exact tr_op h1 h2 ha hb
theorem tr_Pow (C : Cok X G W k) {a b : Expr} {ma mb : E} {pos : Pos} (ha : TrE X G W a ma) (hb : TrE X G W b mb) : TrE X G W (.BinOp a .Pow b pos) (eOp fPow ma mb) := by
  obtain ⟨r, h1, h2⟩ := cls_pow (X := X) (G := G)
  exact tr_op h1 h2 ha hb
theorem tr_Lt (C : Cok X G W k) {a b : Expr} {ma mb : E} {pos : Pos} (ha : TrE X G W a ma) (hb : TrE X G W b mb) (hm : behindInMarks .Lt b = false := by rfl) : TrE X G W (.Compare a [.Lt] [b] pos) (eOp fLt ma mb) := by
  obtain ⟨r, h1, h2⟩ := cls_lt (X := X) (G := G)
  exact tr_cmp h1 h2 ha hb hm
theorem tt_Lt (C : Cok X G W k) {a b : Expr} {ma mb : E} {pos : Pos} (ha : TrE X G W a ma) (hb : TrE X G W b mb) (hm : behindInMarks .Lt b = false := by rfl) : TrT X G W (.Compare a [.Lt] [b] pos) (eBool (eOp fLt ma mb)) := by
  obtain ⟨r, h1, h2⟩ := cls_lt (X := X) (G := G)
  exact tt_cmp h1 h2 ha hb hm
theorem tr_LtE (C : Cok X G W k) {a b : Expr} {ma mb : E} {pos : Pos} (ha : TrE X G W a ma) (hb : TrE X G W b mb) (hm : behindInMarks .LtE b = false := by rfl) : TrE X G W (.Compare a [.LtE] [b] pos) (eOp fLe ma mb) := by
  obtain ⟨r, h1, h2⟩ := cls_le (X := X) (G := G)
  exact tr_cmp h1 h2 ha hb hm
theorem tt_Gt (C : Cok X G W k) {a b : Expr} {ma mb : E} {pos : Pos} (ha : TrE X G W a ma) (hb : TrE X G W b mb) (hm : behindInMarks .Gt b = false := by rfl) : TrT X G W (.Compare a [.Gt] [b] pos) (eBool (eOp fGt ma mb)) := by
  obtain ⟨r, h1, h2⟩ := cls_gt (X := X) (G := G)
  exact tt_cmp h1 h2 ha hb hm
theorem tr_GtE (C : Cok X G W k) {a b : Expr} {ma mb : E} {pos : Pos} (ha : TrE X G W a ma) (hb : TrE X G W b mb) (hm : behindInMarks .GtE b = false := by rfl) : TrE X G W (.Compare a [.GtE] [b] pos) (eOp fGe ma mb) := by
  obtain ⟨r, h1, h2⟩ := cls_ge (X := X) (G := G)
  exact tr_cmp h1 h2 ha hb hm
theorem tt_GtE (C : Cok X G W k) {a b : Expr} {ma mb : E} {pos : Pos} (ha : TrE X G W a ma) (hb : TrE X G W b mb) (hm : behindInMarks .GtE b = false := by rfl) : TrT X G W (.Compare a [.GtE] [b] pos) (eBool (eOp fGe ma mb)) := by
  obtain ⟨r, h1, h2⟩ := cls_ge (X := X) (G := G)
  exact tt_cmp h1 h2 ha hb hm
theorem tr_Eq (C : Cok X G W k) {a b : Expr} {ma mb : E} {pos : Pos} (ha : TrE X G W a ma) (hb : TrE X G W b mb) (hm : behindInMarks .Eq b = false := by rfl) : TrE X G W (.Compare a [.Eq] [b] pos) (eOp fEq ma mb) := by
  obtain ⟨r, h1, h2⟩ := cls_eq (X := X) (G := G) C.hK C.room
  exact tr_cmp h1 h2 ha hb hm
theorem tt_Eq (C : Cok X G W k) {a b : Expr} {ma mb : E} {pos : Pos} (ha : TrE X G W a ma) (hb : TrE X G W b mb) (hm : behindInMarks .Eq b = false := by rfl) : TrT X G W (.Compare a [.Eq] [b] pos) (eBool (eOp fEq ma mb)) := by
  obtain ⟨r, h1, h2⟩ := cls_eq (X := X) (G := G) C.hK C.room
  exact tt_cmp h1 h2 ha hb hm
theorem tt_NotEq (C : Cok X G W k) {a b : Expr} {ma mb : E} {pos : Pos} (ha : TrE X G W a ma) (hb : TrE X G W b mb) (hm : behindInMarks .NotEq b = false := by rfl) : TrT X G W (.Compare a [.NotEq] [b] pos) (eBool (eOp fNe ma mb)) := by
  obtain ⟨r, h1, h2⟩ := cls_ne (X := X) (G := G) C.hK C.room
  exact tt_cmp h1 h2 ha hb hm
theorem tr_In (C : Cok X G W k) {a b : Expr} {ma mb : E} {pos : Pos} (ha : TrE X G W a ma) (hb : TrE X G W b mb) (hm : behindInMarks .In b = false := by rfl) : TrE X G W (.Compare a [.In] [b] pos) (eOp fInA ma mb) := by
  obtain ⟨r, h1, h2⟩ := cls_inA (X := X) (G := G) C.hK
  exact tr_cmp h1 h2 ha hb hm
theorem tt_NotIn (C : Cok X G W k) {a b : Expr} {ma mb : E} {pos : Pos} (ha : TrE X G W a ma) (hb : TrE X G W b mb) (hm : behindInMarks .NotIn b = false := by rfl) : TrT X G W (.Compare a [.NotIn] [b] pos) (eBool (eOp fNotInA ma mb)) := by
  obtain ⟨r, h1, h2⟩ := cls_notInA (X := X) (G := G) C.hK
  exact tt_cmp h1 h2 ha hb hm
theorem tt_Is (C : Cok X G W k) {a b : Expr} {ma mb : E} {pos : Pos} (ha : TrE X G W a ma) (hb : TrE X G W b mb) (hm : behindInMarks .Is b = false := by rfl) : TrT X G W (.Compare a [.Is] [b] pos) (eBool (eOp fIsA ma mb)) := by
  obtain ⟨r, h1, h2⟩ := cls_isA (X := X) (G := G)
  exact tt_cmp h1 h2 ha hb hm
theorem tr_LtE_LtE (C : Cok X G W k) {a b c : Expr} {ma mb mc : E} {pos : Pos} (ha : TrE X G W a ma) (hb : TrE X G W b mb) (hc : TrE X G W c mc) (hm : lastMarks [.LtE, .LtE] [b, c] = false := by with_unfolding_all rfl) : TrE X G W (.Compare a [.LtE, .LtE] [b, c] pos) (eChain fLe fLe ma mb mc) := by
  obtain ⟨r, h1, h2⟩ := cls_le (X := X) (G := G)
  obtain ⟨r', g1, g2⟩ := cls_le (X := X) (G := G)
  exact tr_chain h1 g1 h2 g2 ha hb hc hm
theorem tt_LtE_LtE (C : Cok X G W k) {a b c : Expr} {ma mb mc : E} {pos : Pos} (ha : TrE X G W a ma) (hb : TrE X G W b mb) (hc : TrE X G W c mc) (hm : lastMarks [.LtE, .LtE] [b, c] = false := by with_unfolding_all rfl) : TrT X G W (.Compare a [.LtE, .LtE] [b, c] pos) (eBool (eChain fLe fLe ma mb mc)) := by
  obtain ⟨r, h1, h2⟩ := cls_le (X := X) (G := G)
  obtain ⟨r', g1, g2⟩ := cls_le (X := X) (G := G)
  exact tt_chain h1 g1 h2 g2 ha hb hc hm
theorem tr_Ix (C : Cok X G W k) {a b : Expr} {ma mb : E} {pos : Pos} (ha : TrE X G W a ma) (hb : TrE X G W b mb) (hp : PlainIx b := by exact fun _ _ => rfl) : TrE X G W (.Subscript a b pos) (eOp fIx ma mb) := by
  obtain ⟨r, h1, h2⟩ := cls_ix (X := X) (G := G) C.hK
  exact tr_ix h1 h2 ha hb hp
theorem tr_b_len (C : Cok X G W k) {p pos : Pos} {e : Expr} {es : List Expr} {ms : List E} (hm : X.mg "len" = none) (hg : Gl X "len") (ha : TrA X G W (e :: es) ms) (he : starEach (e :: es) X.env = (false, eval e X.env) :: starEach es X.env := by rfl) (hpl : (backTo pos (starEach es X.env)).any (·.1) = false := by rfl) : TrE X G W (.Call (.Name "len" p) (e :: es) [] pos) (eApp fLen ms) := by
  obtain ⟨r, h1, h2⟩ := cls_len (X := X) (G := G) C.hK
  exact tr_callB h1 h2 hm (by rfl) ha hg (by decide) (by decide) he hpl
theorem tr_b_int (C : Cok X G W k) {p pos : Pos} {e : Expr} {es : List Expr} {ms : List E} (hm : X.mg "int" = none) (hg : Gl X "int") (ha : TrA X G W (e :: es) ms) (he : starEach (e :: es) X.env = (false, eval e X.env) :: starEach es X.env := by rfl) (hpl : (backTo pos (starEach es X.env)).any (·.1) = false := by rfl) : TrE X G W (.Call (.Name "int" p) (e :: es) [] pos) (eApp fIntB ms) := by
  obtain ⟨r, h1, h2⟩ := cls_intB (X := X) (G := G)
  exact tr_callT h1 h2 hm (by rfl) ha hg (by decide) (by decide) he hpl
theorem tr_b_min (C : Cok X G W k) {p pos : Pos} {e : Expr} {es : List Expr} {ms : List E} (hm : X.mg "min" = none) (hg : Gl X "min") (ha : TrA X G W (e :: es) ms) (he : starEach (e :: es) X.env = (false, eval e X.env) :: starEach es X.env := by rfl) (hpl : (backTo pos (starEach es X.env)).any (·.1) = false := by rfl) : TrE X G W (.Call (.Name "min" p) (e :: es) [] pos) (eApp fMin2 ms) := by
  obtain ⟨r, h1, h2⟩ := cls_min2 (X := X) (G := G) C.calm
  exact tr_callB h1 h2 hm (by rfl) ha hg (by decide) (by decide) he hpl
theorem tr_b_max (C : Cok X G W k) {p pos : Pos} {e : Expr} {es : List Expr} {ms : List E} (hm : X.mg "max" = none) (hg : Gl X "max") (ha : TrA X G W (e :: es) ms) (he : starEach (e :: es) X.env = (false, eval e X.env) :: starEach es X.env := by rfl) (hpl : (backTo pos (starEach es X.env)).any (·.1) = false := by rfl) : TrE X G W (.Call (.Name "max" p) (e :: es) [] pos) (eApp fMax2 ms) := by
  obtain ⟨r, h1, h2⟩ := cls_max2 (X := X) (G := G) C.calm
  exact tr_callB h1 h2 hm (by rfl) ha hg (by decide) (by decide) he hpl
theorem tr_b_list (C : Cok X G W k) {p pos : Pos} {e : Expr} {es : List Expr} {ms : List E} (hm : X.mg "list" = none) (hg : Gl X "list") (ha : TrA X G W (e :: es) ms) (he : starEach (e :: es) X.env = (false, eval e X.env) :: starEach es X.env := by rfl) (hpl : (backTo pos (starEach es X.env)).any (·.1) = false := by rfl) : TrE X G W (.Call (.Name "list" p) (e :: es) [] pos) (eApp fList ms) := by
  obtain ⟨r, h1, h2⟩ := cls_list (X := X) (G := G) C.hK C.calm
  exact tr_callT h1 h2 hm (by rfl) ha hg (by decide) (by decide) he hpl
theorem tr_b_tuple (C : Cok X G W k) {p pos : Pos} {e : Expr} {es : List Expr} {ms : List E} (hm : X.mg "tuple" = none) (hg : Gl X "tuple") (ha : TrA X G W (e :: es) ms) (he : starEach (e :: es) X.env = (false, eval e X.env) :: starEach es X.env := by rfl) (hpl : (backTo pos (starEach es X.env)).any (·.1) = false := by rfl) : TrE X G W (.Call (.Name "tuple" p) (e :: es) [] pos) (eApp fTuple ms) := by
  obtain ⟨r, h1, h2⟩ := cls_tuple (X := X) (G := G) C.hK
  exact tr_callT h1 h2 hm (by rfl) ha hg (by decide) (by decide) he hpl
theorem tr_b_all (C : Cok X G W k) {p pos : Pos} {e : Expr} {es : List Expr} {ms : List E} (hm : X.mg "all" = none) (hg : Gl X "all") (ha : TrA X G W (e :: es) ms) (he : starEach (e :: es) X.env = (false, eval e X.env) :: starEach es X.env := by rfl) (hpl : (backTo pos (starEach es X.env)).any (·.1) = false := by rfl) : TrE X G W (.Call (.Name "all" p) (e :: es) [] pos) (eApp fAllB ms) := by
  obtain ⟨r, h1, h2⟩ := cls_all (X := X) (G := G) C.hK C.calm
  exact tr_callB h1 h2 hm (by rfl) ha hg (by decide) (by decide) he hpl
theorem tr_b_sorted (C : Cok X G W k) {p pos : Pos} {e : Expr} {es : List Expr} {ms : List E} (hm : X.mg "sorted" = none) (hg : Gl X "sorted") (ha : TrA X G W (e :: es) ms) (he : starEach (e :: es) X.env = (false, eval e X.env) :: starEach es X.env := by rfl) (hpl : (backTo pos (starEach es X.env)).any (·.1) = false := by rfl) : TrE X G W (.Call (.Name "sorted" p) (e :: es) [] pos) (eApp fSorted ms) := by
  obtain ⟨r, h1, h2⟩ := cls_sorted (X := X) (G := G) C.hK
  exact tr_callB h1 h2 hm (by rfl) ha hg (by decide) (by decide) he hpl
end
end TB
namespace L2
open PySem PySem.Spec PyProof.Rows
/-- the law called, what flies by the world -/
theorem walk_ofEw {l : PySem.W.OpenLaw} {n k : Nat} {q : Program} {loose : List Str} {XP : (Str → Option Value) → Heap → Prop} {YP : World → Heap → Prop} {d : DefRec} {CX : World → CXT} {x : Str}
    (hn : l.most = some n) (hn2 : n ≤ sizeLine) (hdf : d.params.defaults = []) (hr : Room k callerA)
    (F : ∀ (w : World) (mg : Str → Option Value) (fa : Addr) (h : Heap), YP w h → h.Ns mainGlobals mg → mg d.name = some (.ref fa) →
      ∃ (K : PySem.W.Frag) (fd : FuncData) (sp : Sp), K.In h ∧ (∀ (s : Shared) (u : Value), BindsTo s fd ⟨[u], []⟩ [(x, u)]) ∧
        (∀ (H : Hp) (a : Addr) (ns : List Int), ns.length ≤ n → SqL K H a (ns.map V.int) → sp [.ref a] H (fun v _ => v = .bl true) fun _ _ _ => False) ∧
        ∀ base : Heap, K.In base → base.Ns mainGlobals mg → FnOk l.prog w K mg base (CX w) k fa fd [x] sp)
    (hCX : ∀ (w : World) (H : Hp) (s : Shared) (e : Value) (s' : Shared), CX w [] H s (fun _ _ _ => False) e s' → False) :
    PySem.W.WalkO q loose XP YP l.row.toRowW d [] (fun f vs => PySem.call f vs) := by
  refine Att.attach_call hn hdf fun w s₀ s₁ mg mb fa o pm cd doc a vs ns G Y ho hd hcd hmg hobj hints hlen hg => ?_
  obtain ⟨K, fd, sp, KX, hb, hsp, hF⟩ := F w mg fa _ Y G.T.g hmg
  exact law_call KX G.T.g G.T.b G.T.builtins G.T.nolimit hg hobj hints (Nat.le_trans hlen hn2) hr hF hb (fun H hO hS => hsp H a ns hlen hS) fun H e s' => hCX w H s₁ e s'
end L2
namespace TB
open PySem PyProof.Rows L2
section
end
section
end
end TB
namespace TB
open PySem PyProof.Rows L2
section
end
end TB
namespace TB
open PySem PyProof.Rows L2
section
end
end TB
namespace TB
open PySem L2
mutual
theorem Kd.eq_of_beq : ∀ {a b : Kd}, Kd.beq a b = true → a = b
  | .fz, .fz, _ => rfl
  | .dN, .dN, _ => rfl
  | .li a, .li b, h => by simp only [Kd.beq] at h; rw [Kd.eq_of_beq h]
  | .dK a, .dK b, h => by simp only [Kd.beq] at h; rw [Kd.eq_of_beq h]
  | .dT a, .dT b, h => by simp only [Kd.beq] at h; rw [Kd.eq_of_beq h]
  | .dR a, .dR b, h => by simp only [Kd.beq] at h; rw [Kd.eqs_of_beq h]
  | .ob a, .ob b, h => by simp only [Kd.beq] at h; rw [Kd.eqs_of_beq h]
  | .fz, .li _, h => by simp [Kd.beq] at h
  | .fz, .dK _, h => by simp [Kd.beq] at h
  | .fz, .dT _, h => by simp [Kd.beq] at h
  | .fz, .dR _, h => by simp [Kd.beq] at h
  | .fz, .dN, h => by simp [Kd.beq] at h
  | .fz, .ob _, h => by simp [Kd.beq] at h
  | .li _, .fz, h => by simp [Kd.beq] at h
  | .li _, .dK _, h => by simp [Kd.beq] at h
  | .li _, .dT _, h => by simp [Kd.beq] at h
  | .li _, .dR _, h => by simp [Kd.beq] at h
  | .li _, .dN, h => by simp [Kd.beq] at h
  | .li _, .ob _, h => by simp [Kd.beq] at h
  | .dK _, .fz, h => by simp [Kd.beq] at h
  | .dK _, .li _, h => by simp [Kd.beq] at h
  | .dK _, .dT _, h => by simp [Kd.beq] at h
  | .dK _, .dR _, h => by simp [Kd.beq] at h
  | .dK _, .dN, h => by simp [Kd.beq] at h
  | .dK _, .ob _, h => by simp [Kd.beq] at h
  | .dT _, .fz, h => by simp [Kd.beq] at h
  | .dT _, .li _, h => by simp [Kd.beq] at h
  | .dT _, .dK _, h => by simp [Kd.beq] at h
  | .dT _, .dR _, h => by simp [Kd.beq] at h
  | .dT _, .dN, h => by simp [Kd.beq] at h
  | .dT _, .ob _, h => by simp [Kd.beq] at h
  | .dR _, .fz, h => by simp [Kd.beq] at h
  | .dR _, .li _, h => by simp [Kd.beq] at h
  | .dR _, .dK _, h => by simp [Kd.beq] at h
  | .dR _, .dT _, h => by simp [Kd.beq] at h
  | .dR _, .dN, h => by simp [Kd.beq] at h
  | .dR _, .ob _, h => by simp [Kd.beq] at h
  | .dN, .fz, h => by simp [Kd.beq] at h
  | .dN, .li _, h => by simp [Kd.beq] at h
  | .dN, .dK _, h => by simp [Kd.beq] at h
  | .dN, .dT _, h => by simp [Kd.beq] at h
  | .dN, .dR _, h => by simp [Kd.beq] at h
  | .dN, .ob _, h => by simp [Kd.beq] at h
  | .ob _, .fz, h => by simp [Kd.beq] at h
  | .ob _, .li _, h => by simp [Kd.beq] at h
  | .ob _, .dK _, h => by simp [Kd.beq] at h
  | .ob _, .dT _, h => by simp [Kd.beq] at h
  | .ob _, .dR _, h => by simp [Kd.beq] at h
  | .ob _, .dN, h => by simp [Kd.beq] at h
theorem Kd.eqs_of_beq : ∀ {a b : List Kd}, Kd.beqs a b = true → a = b
  | [], [], _ => rfl
  | a :: as, b :: bs, h => by
    simp only [Kd.beqs, Bool.and_eq_true] at h
    rw [Kd.eq_of_beq h.1, Kd.eqs_of_beq h.2]
  | [], _ :: _, h => by simp [Kd.beqs] at h
  | _ :: _, [], h => by simp [Kd.beqs] at h
end
/-- the way through what is owned -/
inductive Nav (G : Cfg) (H : Hp) : V → List PV → V → Prop
  | nil (v : V) : Nav G H v [] v
  | fld {a dx : Addr} {c n : Nat} {fs : List (PySem.Str × V)} {w v : V} {p : List PV} : H a = some (.ins (G.ca c) dx fs) → fs.map (·.1) = (G.cn c).take fs.length → (fs.map (·.2))[n]? = some w → Nav G H w p v → Nav G H (.ref a) (.fld c n :: p) v
  | key {a : Addr} {kvs : List (Key × V)} {kk : Key} {w v : V} {p : List PV} : H a = some (.dK kvs) → valV kvs kk = some w → Nav G H w p v → Nav G H (.ref a) (.key (keyD kk) :: p) v
  | ix {a : Addr} {xs : List V} {i : Int} {n : Nat} {w v : V} {p : List PV} : H a = some (.lst xs) → normIx xs.length i = some n → xs[n]? = some w → Nav G H w p v → Nav G H (.ref a) (.ix i :: p) v
theorem keyD_inj {a b : Key} (h : keyD a = keyD b) : a = b := by
  have : D.eqv (keyD a) (keyD b) = true := by rw [h, key_eqv]; simp
  rw [key_eqv] at this
  exact of_decide_eq_true this
theorem Nav.uniq {G : Cfg} {H : Hp} : ∀ {p : List PV} {v a b : V}, Nav G H v p a → Nav G H v p b → a = b
  | _, _, _, _, .nil _, .nil _ => rfl
  | _, _, _, _, .fld h1 _ h2 r, .fld g1 _ g2 r' => by
    obtain ⟨_, _, rfl⟩ := HO.ins.inj (Option.some.inj (h1.symm.trans g1))
    rw [h2] at g2; cases g2
    exact r.uniq r'
  | _, _, _, _, .key (kk := kk) h1 h2 r, n2 => by
    generalize hk : keyD kk = x at n2
    cases n2 with
    | @key _ _ kk' _ _ _ g1 g2 r' =>
      have := keyD_inj hk
      subst this
      rw [h1] at g1; cases g1
      rw [h2] at g2; cases g2
      exact r.uniq r'
  | _, _, _, _, .ix h1 h0 h2 r, .ix g1 g0 g2 r' => by
    rw [h1] at g1; cases g1
    rw [h0] at g0; cases g0
    rw [h2] at g2; cases g2
    exact r.uniq r'
section
variable {G : Cfg} {F H : Hp}
theorem OwnL.at : ∀ {ks : List Kd} {vs : List V} {ds : List D} {g : Cnt} {n : Nat} {k : Kd} {d : D}, OwnL G F H ks vs ds g → ks[n]? = some k → ds[n]? = some d → ∃ v f g0, (∀ a, g a = f a + g0 a) ∧ vs[n]? = some v ∧ Own G F H k v d f ∧
    ∀ F1 H1 k1 d1 f1, Same F F1 → (∀ a o, g0 a ≠ 0 → H a = some o → H1 a = some o) → Own G F1 H1 k1 v d1 f1 → OwnL G F1 H1 (ks.set n k1) vs (ds.set n d1) (add f1 g0)
  | _, _, _, _, n, _, _, .nil, e, _ => by simp at e
  | _, _, _, _, 0, k, d, .cons (f := f) (g := g) h r, e1, e2 => by
    cases (show some _ = some k from e1)
    cases (show some _ = some d from e2)
    exact ⟨_, f, g, fun a => rfl, rfl, h, fun F1 H1 k1 d1 f1 sf m o => .cons o (r.mono sf m)⟩
  | _, _, _, _, n + 1, k, d, .cons (f := f) (g := g) h r, e1, e2 => by
    obtain ⟨v, f2, g0, hg, hv, ho, back⟩ := OwnL.at (n := n) r e1 e2
    refine ⟨v, f2, add f g0, fun a => by simp only [add]; have := hg a; omega, hv, ho, fun F1 H1 k1 d1 f1 sf m o => ?_⟩
    have q := OwnL.cons (h.mono sf fun a o n => m a o (by simp only [add]; omega)) (back F1 H1 k1 d1 f1 sf (fun a o n => m a o (by simp only [add]; omega)) o)
    have e3 : add f (add f1 g0) = add f1 (add f g0) := by funext a; simp only [add]; omega
    rw [e3] at q
    exact q
theorem Owns.at : ∀ {k : Kd} {vs : List V} {ds : List D} {g : Cnt} {n : Nat} {d : D}, Owns G F H k vs ds g → ds[n]? = some d → ∃ v f g0, (∀ a, g a = f a + g0 a) ∧ vs[n]? = some v ∧ Own G F H k v d f ∧
    ∀ F1 H1 d1 f1, Same F F1 → (∀ a o, g0 a ≠ 0 → H a = some o → H1 a = some o) → Own G F1 H1 k v d1 f1 → Owns G F1 H1 k vs (ds.set n d1) (add f1 g0)
  | _, _, _, _, n, _, .nil, e => by simp at e
  | _, _, _, _, 0, d, .cons (f := f) (g := g) h r, e2 => by
    cases (show some _ = some d from e2)
    exact ⟨_, f, g, fun a => rfl, rfl, h, fun F1 H1 d1 f1 sf m o => .cons o (r.mono sf m)⟩
  | _, _, _, _, n + 1, d, .cons (f := f) (g := g) h r, e2 => by
    obtain ⟨v, f2, g0, hg, hv, ho, back⟩ := Owns.at (n := n) r e2
    refine ⟨v, f2, add f g0, fun a => by simp only [add]; have := hg a; omega, hv, ho, fun F1 H1 d1 f1 sf m o => ?_⟩
    have q := Owns.cons (h.mono sf fun a o n => m a o (by simp only [add]; omega)) (back F1 H1 d1 f1 sf (fun a o n => m a o (by simp only [add]; omega)) o)
    have e3 : add f (add f1 g0) = add f1 (add f g0) := by funext a; simp only [add]; omega
    rw [e3] at q
    exact q
theorem OwnL.len : ∀ {ks : List Kd} {vs : List V} {ds : List D} {g : Cnt}, OwnL G F H ks vs ds g → vs.length = ds.length ∧ ks.length = ds.length
  | _, _, _, _, .nil => ⟨rfl, rfl⟩
  | _, _, _, _, .cons _ r => ⟨by simp [r.len.1], by simp [r.len.2]⟩
theorem Owns.len : ∀ {k : Kd} {vs : List V} {ds : List D} {g : Cnt}, Owns G F H k vs ds g → vs.length = ds.length
  | _, _, _, _, .nil => rfl
  | _, _, _, _, .cons _ r => by simp [r.len]
theorem map_fst_set {α β : Type} {l : List (α × β)} {n : Nat} {q : α × β} {b : β} (h : l[n]? = some q) : (l.set n (q.1, b)).map (·.1) = l.map (·.1) := by
  obtain ⟨hn, rfl⟩ := List.getElem?_eq_some_iff.mp h
  rw [List.map_set]
  have e : l[n].1 = (l.map (·.1))[n]'(by simpa using hn) := by simp
  rw [e, List.set_getElem_self]
theorem map_snd_set {α β : Type} {l : List (α × β)} {n : Nat} {a : α} {b : β} : (l.set n (a, b)).map (·.2) = (l.map (·.2)).set n b := by rw [List.map_set]
theorem key_at {kvs : List (Key × V)} {kds : List (D × D)} (hk : kds.map (·.1) = kvs.map (fun p => keyD p.1)) {kk : Key} {n : Nat} {w : V} (e : keyAt kds (keyD kk) = some n) (hw : (kvs.map (·.2))[n]? = some w) : valV kvs kk = some w := by
  induction kvs generalizing kds n with
  | nil => simp at hw
  | cons p r ih => cases kds with
    | nil => simp at hk
    | cons a b =>
      obtain ⟨h1, h2⟩ := List.cons.inj (show a.1 :: b.map (·.1) = keyD p.1 :: r.map (fun p => keyD p.1) from hk)
      unfold keyAt at e
      rw [List.findIdx?_cons, h1, key_eqv] at e
      unfold valV
      rw [List.find?_cons]
      by_cases z : p.1 = kk
      · rw [decide_eq_true z] at e ⊢
        simp at e
        subst e
        simpa using hw
      · rw [decide_eq_false z] at e ⊢
        simp only [Bool.false_eq_true, if_false, Option.map_eq_some_iff] at e
        obtain ⟨m, e, rfl⟩ := e
        exact ih h2 (n := m) e (by simpa using hw)
theorem isKey_of {x : D} {kvs : List (Key × V)} {kds : List (D × D)} {n : Nat} (hk : kds.map (·.1) = kvs.map (fun p => keyD p.1)) (e : keyAt kds x = some n) (h : isKey x = true) : ∃ kk, x = keyD kk := by
  cases x <;> simp [isKey] at h
  · rename_i i; exact ⟨.inl i, rfl⟩
  · rename_i s
    -- the stored key is the text
    unfold keyAt at e
    rw [List.findIdx?_eq_some_iff_getElem] at e
    obtain ⟨hn, e, _⟩ := e
    have hm : kds[n].1 ∈ kds.map (·.1) := List.mem_map.mpr ⟨_, List.getElem_mem hn, rfl⟩
    rw [hk] at hm
    obtain ⟨p, _, hp⟩ := List.mem_map.mp hm
    rw [← hp] at e
    cases h1 : p.1 with
    | inl j => rw [h1] at e; simp [keyD, D.eqv] at e
    | inr z =>
      rw [h1] at e
      simp [keyD, D.eqv] at e
      exact ⟨.inr z, by rw [keyD, e]⟩
theorem Own.at : ∀ (pv : List PV) {k : Kd} {v : V} {d : D} {f : Cnt}, Own G F H k v d f → ∀ {k' : Kd} {d' : D}, getKD pv k d = some (k', d') → ∃ v' f' f0, (∀ a, f a = f' a + f0 a) ∧ Nav G H v pv v' ∧ Own G F H k' v' d' f' ∧
    ∀ F1 H1 k1 d1 f1 r, Same F F1 → (∀ a o, f0 a ≠ 0 → H a = some o → H1 a = some o) → Own G F1 H1 k1 v' d1 f1 → setKD pv k d (k1, d1) = some r → Own G F1 H1 r.1 v r.2 (add f1 f0)
  | [], k, v, d, f, o, k', d', e => by
    cases (show some (k, d) = some (k', d') from e)
    refine ⟨v, f, nil0, fun a => rfl, .nil v, o, fun F1 H1 k1 d1 f1 r sf m o1 er => ?_⟩
    cases (show some (k1, d1) = some r from er)
    exact o1.cast fun a => rfl
  | .fld c0 n :: pv, k, v, d, f, o, k', d', e => by
    cases o with
    | @ob ks a dx c fs ds g h hn r =>
      unfold getKD at e
      by_cases hc : c = c0
      case neg => rw [if_neg hc] at e; cases e
      subst hc
      rw [if_pos rfl] at e
      cases e1 : ks[n]? with
      | none => rw [e1] at e; cases e
      | some kn =>
        cases e2 : ds[n]? with
        | none => rw [e1, e2] at e; cases e
        | some dn =>
          rw [e1, e2] at e
          obtain ⟨vn, fn, g0, hg, hv, on, back⟩ := r.at e1 e2
          obtain ⟨v', f', f0, hf, nv, o', back'⟩ := Own.at pv on e
          have hlen : fs.length = ds.length := by have := r.len.1; simpa using this
          refine ⟨v', f', add (one a) (add g0 f0), fun b => by simp only [add]; have := hg b; have := hf b; omega, .fld h (by rw [hlen]; exact hn) hv nv, o', fun F1 H1 k1 d1 f1 r sf m o1 er => ?_⟩
          unfold setKD at er
          rw [if_pos rfl, e1, e2] at er
          simp only at er
          cases e3 : setKD pv kn dn (k1, d1) with
          | none => rw [e3] at er; cases er
          | some q =>
            rw [e3] at er
            cases er
            have oq := back' F1 H1 k1 d1 f1 q sf (fun b o n => m b o (by simp only [add]; omega)) o1 e3
            have ol := back F1 H1 q.1 q.2 (add f1 f0) sf (fun b o n => m b o (by simp only [add]; omega)) oq
            have hh := m a _ (by simp [add, one]) h
            refine (Own.ob (ds := ds.set n q.2) hh (by rw [List.length_set]; exact hn) ol).cast fun b => by simp only [add]; omega
    | _ => unfold getKD at e; cases e
  | .key x :: pv, k, v, d, f, o, k', d', e => by
    cases o with
    | @dK k a kvs kds g h hn r =>
      unfold getKD at e
      split at e
      · rename_i hx
        cases e1 : keyAt kds x with
        | none => rw [e1] at e; cases e
        | some n =>
          rw [e1] at e
          cases e2 : kds[n]? with
          | none => simp [e2] at e
          | some q =>
            have e : getKD pv k q.2 = some (k', d') := by simpa [e2] using e
            have e2' : (kds.map (·.2))[n]? = some q.2 := by rw [List.getElem?_map, e2]; rfl
            obtain ⟨vn, fn, g0, hg, hv, on, back⟩ := r.at e2'
            obtain ⟨v', f', f0, hf, nv, o', back'⟩ := Own.at pv on e
            obtain ⟨kk, rfl⟩ := isKey_of hn e1 hx
            refine ⟨v', f', add (one a) (add g0 f0), fun b => by simp only [add]; have := hg b; have := hf b; omega, .key h (key_at hn e1 hv) nv, o', fun F1 H1 k1 d1 f1 r1 sf m o1 er => ?_⟩
            unfold setKD at er
            rw [if_pos hx, e1] at er
            simp only [Option.bind_some, e2] at er
            cases e3 : setKD pv k q.2 (k1, d1) with
            | none => rw [e3] at er; cases er
            | some p =>
              rw [e3] at er
              simp only [Option.bind_some] at er
              split at er
              · rename_i hb
                cases er
                have oq := back' F1 H1 k1 d1 f1 p sf (fun b o n => m b o (by simp only [add]; omega)) o1 e3
                rw [Kd.eq_of_beq hb] at oq
                have ol := back F1 H1 p.2 (add f1 f0) sf (fun b o n => m b o (by simp only [add]; omega)) oq
                have hh := m a _ (by simp [add, one]) h
                refine (Own.dK (kds := kds.set n (q.1, p.2)) hh (by rw [map_fst_set e2]; exact hn) (by rw [map_snd_set]; exact ol)).cast fun b => by simp only [add]; omega
              · cases er
      · cases e
    | @dR ks a kvs kds g h hn r =>
      unfold getKD at e
      split at e
      · rename_i hx
        cases e1 : keyAt kds x with
        | none => rw [e1] at e; cases e
        | some n =>
          rw [e1] at e
          cases e0 : ks[n]? with
          | none => simp [e0] at e
          | some kn =>
          cases e2 : kds[n]? with
          | none => simp [e0, e2] at e
          | some q =>
            have e : getKD pv kn q.2 = some (k', d') := by simpa [e0, e2] using e
            have e2' : (kds.map (·.2))[n]? = some q.2 := by rw [List.getElem?_map, e2]; rfl
            obtain ⟨vn, fn, g0, hg, hv, on, back⟩ := r.at e0 e2'
            obtain ⟨v', f', f0, hf, nv, o', back'⟩ := Own.at pv on e
            obtain ⟨kk, rfl⟩ := isKey_of hn e1 hx
            refine ⟨v', f', add (one a) (add g0 f0), fun b => by simp only [add]; have := hg b; have := hf b; omega, .key h (key_at hn e1 hv) nv, o', fun F1 H1 k1 d1 f1 r1 sf m o1 er => ?_⟩
            unfold setKD at er
            rw [if_pos hx, e1] at er
            simp only [Option.bind_some, e0, e2] at er
            cases e3 : setKD pv kn q.2 (k1, d1) with
            | none => rw [e3] at er; cases er
            | some p =>
              rw [e3] at er
              cases er
              have oq := back' F1 H1 k1 d1 f1 p sf (fun b o n => m b o (by simp only [add]; omega)) o1 e3
              have ol := back F1 H1 p.1 p.2 (add f1 f0) sf (fun b o n => m b o (by simp only [add]; omega)) oq
              have hh := m a _ (by simp [add, one]) h
              refine (Own.dR (kds := kds.set n (q.1, p.2)) hh (by rw [map_fst_set e2]; exact hn) (by rw [map_snd_set]; exact ol)).cast fun b => by simp only [add]; omega
      · cases e
    | _ => unfold getKD at e; cases e
  | .ix i :: pv, k, v, d, f, o, k', d', e => by
    cases o with
    | @li k a vs ds g h r =>
      unfold getKD at e
      cases e1 : normIx ds.length i with
      | none => rw [e1] at e; cases e
      | some n =>
        rw [e1] at e
        cases e2 : ds[n]? with
        | none => simp [e2] at e
        | some dn =>
          have e : getKD pv k dn = some (k', d') := by simpa [e2] using e
          obtain ⟨vn, fn, g0, hg, hv, on, back⟩ := r.at e2
          obtain ⟨v', f', f0, hf, nv, o', back'⟩ := Own.at pv on e
          refine ⟨v', f', add (one a) (add g0 f0), fun b => by simp only [add]; have := hg b; have := hf b; omega, .ix h (by rw [r.len]; exact e1) hv nv, o', fun F1 H1 k1 d1 f1 r1 sf m o1 er => ?_⟩
          unfold setKD at er
          rw [e1] at er
          simp only [Option.bind_some, e2] at er
          cases e3 : setKD pv k dn (k1, d1) with
          | none => rw [e3] at er; cases er
          | some p =>
            rw [e3] at er
            simp only [Option.bind_some] at er
            split at er
            · rename_i hb
              cases er
              have oq := back' F1 H1 k1 d1 f1 p sf (fun b o n => m b o (by simp only [add]; omega)) o1 e3
              rw [Kd.eq_of_beq hb] at oq
              have ol := back F1 H1 p.2 (add f1 f0) sf (fun b o n => m b o (by simp only [add]; omega)) oq
              have hh := m a _ (by simp [add, one]) h
              exact (Own.li hh ol).cast fun b => by simp only [add]; omega
            · cases er
    | _ => unfold getKD at e; cases e
end
end TB
namespace TB
open PySem L2
section
variable {G : Cfgx} {F F' H H' : Hp} {σ : L2.St} {S : List Slot} {T T' : Cnt}
def tupOf : Option HO → Option HO
  | some (.tup xs) => some (.tup xs)
  | some (.frz o (.tup xs)) => some (.frz o (.tup xs))
  | _ => none
theorem tupOf_some {o : Option HO} {u : HO} (h : tupOf o = some u) : o = some u ∧ TupAt o := by
  unfold tupOf at h
  split at h
  · cases h; exact ⟨rfl, .inl ⟨_, rfl⟩⟩
  · cases h; exact ⟨rfl, .inr ⟨_, _, rfl⟩⟩
  · cases h
def exT (F H : Hp) : Hp := fun a => match F a with
  | some o => some o
  | none => tupOf (H a)
theorem exT_some {F H : Hp} {a : Addr} {u : HO} (h : exT F H a = some u) : F a = some u ∨ (F a = none ∧ H a = some u ∧ TupAt (H a)) := by
  unfold exT at h
  cases e : F a with
  | some o => rw [e] at h; exact .inl h
  | none => rw [e] at h; obtain ⟨a, b⟩ := tupOf_some h; exact .inr ⟨rfl, a, b⟩
theorem exT_of {F H : Hp} {a : Addr} {u : HO} (s : Same F H) (h : H a = some u) (t : TupAt (H a)) : exT F H a = some u := by
  unfold exT
  cases e : F a with
  | some o => rw [s _ _ e] at h; exact h
  | none =>
    show tupOf (H a) = some u
    rcases t with ⟨xs, t⟩ | ⟨o, xs, t⟩ <;> rw [t] at h ⊢ <;> exact h
mutual
theorem rep_exT {F H : Hp} (s : Same F H) : ∀ {v : V} {d : D}, d.imm = true → Rep G H v d → Rep G (exT F H) v d
  | _, _, _, .non => .non
  | _, _, _, .bl b => .bl b
  | _, _, _, .int i => .int i
  | _, _, _, .str z => .str z
  | _, _, h, .tup q r => .tup (by
      rcases q with (q | ⟨o, q⟩) | q
      · exact .inl (.inl (exT_of s q (.inl ⟨_, q⟩)))
      · exact .inl (.inr ⟨o, exT_of s q (.inr ⟨_, _, q⟩)⟩)
      · exact .inr q) (reps_exT s (by simpa [D.imm] using h) r)
  | _, _, h, .scr _ => by simp [D.imm] at h
  | _, _, h, .lst _ _ => by simp [D.imm] at h
  | _, _, h, .dK _ _ _ => by simp [D.imm] at h
  | _, _, h, .dN _ _ _ _ => by simp [D.imm] at h
  | _, _, h, .ldc _ _ _ => by simp [D.imm] at h
  | _, _, h, .ob _ _ _ => by simp [D.imm] at h
  | _, _, h, .fn _ => by simp [D.imm] at h
theorem reps_exT {F H : Hp} (s : Same F H) : ∀ {vs : List V} {ds : List D}, D.imms ds = true → Reps G H vs ds → Reps G (exT F H) vs ds
  | _, _, _, .nil => .nil
  | _, _, h, .cons a r => by
    simp only [D.imms, Bool.and_eq_true] at h
    exact .cons (rep_exT s h.1 a) (reps_exT s h.2 r)
end
/-- what is new and a tuple is frozen -/
theorem St'.exT (st : St' G F H σ S T) (e : Same H H') : Same F H' ∧ St' G (TB.exT F H') H' σ S T ∧ Step F H T (TB.exT F H') H' T := by
  have s : Same F H' := st.sub.trans e
  have sf : Same F (TB.exT F H') := fun a o h => by unfold TB.exT; rw [h]
  have nt : ∀ a, T a ≠ 0 → ¬ TupAt (H' a) := fun a n => by
    have h1 := st.there a n
    have h2 := st.noT a n
    cases q : H a with
    | none => exact absurd q h1
    | some o => rw [e _ _ q, ← q]; exact h2
  refine ⟨s, ⟨st.pi, fun a u h => ?_, st.sl.mono sf fun a o n h => e _ _ h, st.le, fun a n => ?_⟩, ⟨sf, fun a o _ h => e _ _ h, fun a n => .inl n, fun a h n => ?_, fun a h => ?_⟩⟩
  · rcases exT_some h with h | ⟨_, h, _⟩
    · exact s _ _ h
    · exact h
  · cases q : TB.exT F H' a with
    | none => exact absurd q n
    | some u =>
      rcases exT_some q with h | ⟨_, h, t⟩
      · exact st.di a (by rw [h]; simp)
      · exact Decidable.byContradiction fun z => nt a z t
  · cases q : TB.exT F H' a with
    | none => exact absurd q n
    | some u =>
      rcases exT_some q with h2 | ⟨_, h2, t⟩
      · rw [h] at h2; cases h2
      · cases z : H a with
        | none => exact .inl rfl
        | some o => rw [e _ _ z, ← z] at t; exact .inr (.inr (by rw [← z]; exact t))
  · cases q : H a with
    | none => exact absurd q h
    | some o => rw [e _ _ q]; simp
end
def DenQ (G : Cfgx) (t : TE) (m : E) : Prop := ∀ F H σ S T Q d S', St' G F H σ S T → m S = .ok (.fz, d) S' → (∀ v F' H', Step F H T F' H' T → St' G F' H' σ S T → Same H H' → Rep G F' v d → Q v H') → t σ H Q
def TrQ (X : Cx) (G : Cfgx) (e : Expr) (m : E) : Prop := ∃ t, PE X e t ∧ DenQ G t m
def Qt (m : E) : Prop := ∀ S, m S = .bad ∨ ∃ d, m S = .ok (.fz, d) S
section
variable {X : Cx} {G : Cfgx} {W : WX} {k : Nat}
theorem qt_peek (m : E) : Qt (ePeekI m) := fun S => by
  unfold ePeekI
  split
  · split
    · exact .inr ⟨_, rfl⟩
    · exact .inl rfl
  · exact .inl rfl
theorem tr_ofQ {e : Expr} {m : E} (h : TrQ X G e m) (q : Qt m) : TrE X G W e m := by
  obtain ⟨t, p, d⟩ := h
  refine ⟨t, p, fun F H σ S T Q st z => ?_⟩
  rcases q S with e | ⟨d', e⟩
  · rw [e] at z; exact z.elim
  · rw [e] at z
    have z : KE G F H σ T Q (.fz, d') S := z
    exact d F H σ S T Q d' S st e fun v F' H' s st' _ r => z v F' H' T nil0 (s.castR fun a => rfl) st' (.fz r) (fun a => st'.le a) fun _ _ => rfl
theorem peek_world {F H : Hp} {σ : L2.St} {S : List Slot} {T : Cnt} (st : St' G F H σ S T) : St' G H H σ (S.map frz) nil0 := ⟨st.pi, Same.refl H, slots_frz st.sub st.sl, fun _ => Nat.zero_le _, fun _ _ => rfl⟩
theorem q_peek {e : Expr} {m : E} {W' : WX} (h : TrE X G W' e m) : TrQ X G e (ePeekI m) := by
  obtain ⟨t, hp, hd⟩ := h
  refine ⟨t, hp, fun F H σ S T Q d S' st e k => ?_⟩
  unfold ePeekI at e
  split at e
  · rename_i kd d' S1 em
    split at e
    · rename_i hi
      cases e
      refine hd H H σ (S.map frz) nil0 Q (peek_world st) ?_
      rw [em]
      intro v F' H' T' f s' st' o le di
      have sHH : Same H H' := fun a u e => s'.fr a u rfl e
      have rep := o.rep st'.sub
      obtain ⟨sF, st2, s2⟩ := st.exT sHH
      exact k v _ H' s2 st2 sHH (rep_exT sF hi rep)
    · cases e
  · cases e
theorem tr_peekI {e : Expr} {m : E} {W' : WX} (h : TrE X G W' e m) : TrE X G W e (ePeekI m) := tr_ofQ (q_peek h) (qt_peek m)
theorem Nav.mono {G : Cfg} {H H' : Hp} (e : Same H H') : ∀ {p : List PV} {v w : V}, Nav G H v p w → Nav G H' v p w
  | _, _, _, .nil v => .nil v
  | _, _, _, .fld h n g r => .fld (e _ _ h) n g (Nav.mono e r)
  | _, _, _, .key h g r => .key (e _ _ h) g (Nav.mono e r)
  | _, _, _, .ix h n g r => .ix (e _ _ h) n g (Nav.mono e r)
end
end TB
namespace TB
open PySem L2
section
variable {G : Cfg} {F F' H H' : Hp}
theorem OwnL.put : ∀ {ks : List Kd} {vs : List V} {ds : List D} {g : Cnt} (n : Nat) {k : Kd} {v : V} {d : D} {f : Cnt}, OwnL G F H ks vs ds g → n < ds.length → Own G F H k v d f → ∃ g', OwnL G F H (ks.set n k) (vs.set n v) (ds.set n d) g' ∧ ∀ a, g' a ≤ g a + f a
  | _, _, _, _, n, _, _, _, _, .nil, h, _ => absurd h (Nat.not_lt_zero _)
  | _, _, _, _, 0, _, _, _, f, .cons (f := f0) (g := g) h r, _, o => ⟨add f g, .cons o r, fun a => by simp only [add]; omega⟩
  | _, _, _, _, n + 1, _, _, _, f, .cons (f := f0) (g := g) h r, hn, o => by
    obtain ⟨g', r', l⟩ := OwnL.put n r (by simpa using hn) o
    exact ⟨add f0 g', .cons h r', fun a => by have := l a; simp only [add]; omega⟩
theorem Owns.put : ∀ {k : Kd} {vs : List V} {ds : List D} {g : Cnt} (n : Nat) {v : V} {d : D} {f : Cnt}, Owns G F H k vs ds g → Own G F H k v d f → ∃ g', Owns G F H k (vs.set n v) (ds.set n d) g' ∧ ∀ a, g' a ≤ g a + f a
  | _, _, _, _, n, _, _, f, .nil, _ => ⟨nil0, by simpa using Owns.nil, fun a => by simp [nil0]⟩
  | _, _, _, _, 0, _, _, f, .cons (f := f0) (g := g) h r, o => ⟨add f g, .cons o r, fun a => by simp only [add]; omega⟩
  | _, _, _, _, n + 1, _, _, f, .cons (f := f0) (g := g) h r, o => by
    obtain ⟨g', r', l⟩ := Owns.put n r o
    exact ⟨add f0 g', .cons h r', fun a => by have := l a; simp only [add]; omega⟩
end
section
end
end TB
namespace TB
open PySem L2
section
end
end TB
namespace TB
open PySem L2
theorem AVs.app {G : Cfg} {F H : Hp} {σ : L2.St} {as bs : List AV} {vs ws : List V} {f g : Cnt} (h : AVs G F H σ as vs f) (r : AVs G F H σ bs ws g) : AVs G F H σ (as ++ bs) (vs ++ ws) (add f g) := by
  induction h with
  | nil =>
    have e : add nil0 g = g := by funext a; simp [add, nil0]
    show AVs G F H σ bs ws (add nil0 g)
    rw [e]; exact r
  | v r0 _ ih => exact .v r0 ih
  | @o _ _ _ _ f1 f2 hk o _ ih =>
    have : AVs G F H σ _ _ (add f1 (add f2 g)) := .o hk o ih
    have e : add f1 (add f2 g) = add (add f1 f2) g := by funext a; simp only [add]; omega
    exact e ▸ this
  | b x _ ih => exact .b x ih
theorem AVs.noT {G : Cfg} {F H : Hp} {σ : L2.St} {as : List AV} {vs : List V} {f : Cnt} (h : AVs G F H σ as vs f) (a : Addr) (n : f a ≠ 0) : ¬ TupAt (H a) := by
  induction h with
  | nil => exact absurd rfl n
  | v _ _ ih => exact ih n
  | @o _ _ _ _ f g _ o _ ih =>
    by_cases q : f a = 0
    · exact ih (by simp only [add] at n; omega)
    · exact o.noT a q
  | b _ _ ih => exact ih n
/-- constants as arguments -/
inductive Dfs (G : Cfg) : List V → List D → Prop
  | nil : Dfs G [] []
  | cons {v : V} {d : D} {vs : List V} {ds : List D} : (∀ F, Rep G F v d) → Dfs G vs ds → Dfs G (v :: vs) (d :: ds)
theorem Dfs.len {G : Cfg} : ∀ {vs : List V} {ds : List D}, Dfs G vs ds → vs.length = ds.length
  | _, _, .nil => rfl
  | _, _, .cons _ r => by simp [r.len]
section
end
section
variable {X : Cx} {G : Cfgx} {W : WX} {k : Nat} {F H : Hp} {σ : L2.St} {S : List Slot} {T : Cnt}
theorem pass_none {P : Program} {w : World} (X : Cx) : Passes (L2N.CX P w) X (fun _ _ _ => False) := fun pins σ H s e s' _ c => by
  obtain ⟨_, _, _, _, _, _, _, _, _, _, _, _, z⟩ := c
  exact z.elim
end
end TB
namespace TB
open PySem L2
section
end
end TB
namespace TB
open PySem L2
section
end
section
end
end TB
namespace TB
open PySem L2 PyProof.Rows
section
end
end TB
namespace TB
open PySem PySem.W PySem.Calls PyProof.Rows PySem.SeqAt
section
end
section
end
end TB
namespace TB
open PySem PySem.W PySem.Calls PyProof.Rows PySem.SeqAt
open AutoSeq1 (wpAny_loadPart')
open MeetsSeq MeetsSeq2 MeetsSeq3 SeqRoads2
end TB
namespace TB
open PySem L2 PyProof.Rows
section
end
end TB
namespace TB
open PySem L2 PySem.Spec PyProof.Rows
section
end
end TB
namespace TB
open PySem L2 PySem.Spec PyProof.Rows
section
end
end TB
namespace TB
open PySem L2 PySem.Spec PyProof.Rows
section
end
section
end
section
end
end TB
namespace TB
open PySem L2 PySem.Spec PyProof.Rows
section
end
end TB
namespace TB
open PySem L2 PyProof.Rows
section
end
end TB
namespace TB
open PySem L2 PyProof.Rows
section
variable {X : Cx} {G : Cfgx} {W : WX} {k : Nat} {F H : Hp} {σ : L2.St} {S : List Slot} {T : Cnt}
theorem tru_of (hK : X.K = G.K) {v : V} {d : D} {b : Bool} (st : St' G F H σ S T) (r : Rep G F v d) (e : truD d = some b) : TruV X.K v H b := by
  cases r with
  | non => cases e; rfl
  | bl b => cases e; rfl
  | int i => cases e; rfl
  | str z =>
    have e : (if z.cps.toList.length ≤ sizeMax then some ((z.cps.toList.length : Int) != 0) else none) = some b := e
    split at e
    · rename_i hz
      cases e
      have l2 : sizeLine = sizeMax := rfl
      have e2 : z.length = z.cps.toList.length := by simp [PySem.Str.length]
      exact ⟨by rw [e2, l2]; exact hz, by rw [e2]⟩
    · cases e
  | tup h rs =>
    cases e
    refine .inr (.inl ⟨_, hK ▸ same_t st.sub h, ?_⟩)
    cases rs <;> rfl
  | lst h rs =>
    cases e
    refine .inl ⟨_, .inl (.inl (st.sub _ _ h)), ?_⟩
    cases rs <;> rfl
  | _ => cases e
theorem tr_orV (C : Cok X G W k) {a b : Expr} {rest : List Expr} {ma mb : E} {pos : Pos} (ha : TrE X G W a ma) (hb : TrE X G W (.BoolOp .Or (b :: rest) pos) mb) : TrE X G W (.BoolOp .Or (a :: b :: rest) pos) (eOrV ma mb) := by
  obtain ⟨t, p, d⟩ := ha
  obtain ⟨u, q, e⟩ := hb
  refine ⟨_, pe_orT p q, fun F H σ S T Q st z => d.dat F H σ S T _ st (PR.bind z fun x S1 y => ?_)⟩
  intro v F1 H1 T1 s1 st1 r1
  cases ex : truD x with
  | none => simp only [ex] at y; exact y.elim
  | some b =>
    simp only [ex] at y
    refine ⟨b, tru_of C.hK st1 r1 ex, ?_⟩
    cases b with
    | true => exact KE.val (KE.re s1 (show KE G F H σ T Q (.fz, x) S1 from y)) st1 r1
    | false => exact e F1 H1 σ S1 T1 Q st1 (PR.reE s1 y)
theorem tr_andV (C : Cok X G W k) {a b : Expr} {rest : List Expr} {ma mb : E} {pos : Pos} (ha : TrE X G W a ma) (hb : TrE X G W (.BoolOp .And (b :: rest) pos) mb) : TrE X G W (.BoolOp .And (a :: b :: rest) pos) (eAndV ma mb) := by
  obtain ⟨t, p, d⟩ := ha
  obtain ⟨u, q, e⟩ := hb
  refine ⟨_, pe_andT p q, fun F H σ S T Q st z => d.dat F H σ S T _ st (PR.bind z fun x S1 y => ?_)⟩
  intro v F1 H1 T1 s1 st1 r1
  cases ex : truD x with
  | none => simp only [ex] at y; exact y.elim
  | some b =>
    simp only [ex] at y
    refine ⟨b, tru_of C.hK st1 r1 ex, ?_⟩
    cases b with
    | false => exact KE.val (KE.re s1 (show KE G F H σ T Q (.fz, x) S1 from y)) st1 r1
    | true => exact e F1 H1 σ S1 T1 Q st1 (PR.reE s1 y)
end
end TB
namespace TB
open PySem L2 PyProof.Rows
section
end
end TB
namespace TB
open PySem L2 PyProof.Rows
section
end
section
end
end TB
namespace TB
open PySem PySem.Spec PyProof.Rows L2
section
end
end TB
namespace TB
open PySem L2
section
end
end TB
namespace TB
open PySem L2
section
end
end TB
namespace TB
open PySem L2
section
end
end TB
namespace TB
open PySem L2
section
end
end TB
namespace TB
open PySem L2
open Sem (wp)
open PySem.Calls PyProof.Rows
section
theorem meets_enum1 {v : Value} {o : Obj} {H : Heap → Prop} (B : Begins v o H) :
    Meets (Builtin.«enumerate.__new__» ⟨[.type "enumerate", v], []⟩) (fun _ R s => H s.heap ∧
      R (.ok (.ret (.ref (s.heap.push o).objs.size))) { s with heap := (s.heap.push o).push { cls := .type "enumerate", data := .fields #[.none, .bool false, .ref s.heap.objs.size, rawInt 0, .none, .none] } }) :=
  .of_wp fun prog w A R s h => by
    obtain ⟨hp, g, d, tk, os⟩ := s; obtain ⟨h1, h⟩ := h
    have hsub := sub_enumerate
    have q1 : ∀ {A' : Around} {E : Value → Shared → Prop} {Q : Value → Shared → Prop}, Q (.ref hp.objs.size) ⟨hp.push o, g, d, tk, os⟩ → wpAny (model prog w) A' (pyIter v) Q E ⟨hp, g, d, tk, os⟩ :=
      fun q => B.iter prog w _ _ ⟨hp, g, d, tk, os⟩ _ h1 q
    wp_walk using q1
    refine wpAny_stack_any fun st => wpAny_pure ?_
    split
    · rename_i c _ _ _ _ _
      cases (c == Value.type "enumerate")
      · wp_walk using q1
        exact ⟨_, rfl, h⟩
      · wp_walk using q1
        exact ⟨_, rfl, h⟩
    · wp_walk using q1
      exact ⟨_, rfl, h⟩
theorem enum1_begins {prog : Program} {w : World} {A : Around} {E : Value → Shared → Prop} {s : Shared} {v : Value} {o : Obj} {H : Heap → Prop} {Q : Value → Shared → Prop} (B : Begins v o H) (h1 : H s.heap)
    (h : ∀ h', IsEnum h' (s.heap.objs.size + 1) s.heap.objs.size 0 .none → h'.get? s.heap.objs.size = some o → h'.objs.size = s.heap.objs.size + 2 →
      (∀ b o, s.heap.get? b = some o → h'.get? b = some o) → Q (.ref (s.heap.objs.size + 1)) { s with heap := h' }) :
    wpAny (model prog w) A (call (.type "enumerate") [v]) Q E s := by
  refine callType_new F.called_enumerate (by decide) (F.typeCall_enumerate_1 _) (F.newCall_enumerate_1 _) (fun obj => F.args_object_init_2 obj _) F.entry_enumerate_new
    (meets_enum1 B) ⟨h1, ?_⟩
  have hz : (s.heap.push o).objs.size = s.heap.objs.size + 1 := Heap.size_push ..
  show _ ∧ _
  rw [hz]
  have he : IsEnum ((s.heap.push o).push { cls := .type "enumerate", data := .fields #[.none, .bool false, .ref s.heap.objs.size, rawInt 0, .none, .none] }) (s.heap.objs.size + 1) s.heap.objs.size 0 .none := by
    have := Heap.get?_push_size (s.heap.push o) (o := { cls := .type "enumerate", data := .fields #[.none, .bool false, .ref s.heap.objs.size, rawInt 0, .none, .none] }) rfl
    rw [hz] at this; exact this
  refine ⟨⟨_, he, rfl⟩, h _ he (Heap.get?_push_of_some _ (Heap.get?_push_size _ B.free)) (by rw [Heap.size_push, hz]) fun b o x => Heap.get?_push_of_some _ (Heap.get?_push_of_some _ x)⟩
def IteT (K : PySem.W.Frag) (a : Addr) : L2.It :=
  ⟨fun i H => ∃ (xs : List V) (x : V), SqT K H a xs ∧ xs[i]? = some x, fun i H v H' => ∃ T x, v = .ref T ∧ H T = none ∧ H' = upd H T (.tup [.int (i : Nat), x]) ∧ ∀ xs, SqT K H a xs → xs[i]? = some x, fun i H => ∃ xs : List V, SqT K H a xs ∧ xs.length = i⟩
theorem turn_enumT {P : Program} {w : World} {K : PySem.W.Frag} {elts : List Expr} {kk : Nat} {tpos : Pos} (a e it : Addr) (hai : a ≠ it) :
    Turn P w K (.Tuple elts kk tpos) (IteT K a) [e, it] e (fun i h => (∃ old, IsEnum h e it ((i : Nat) : Int) old) ∧ h.IsTupleIter it a i ∧ e ≠ it ∧ e ≠ a) where
  mem := by simp
  obj := fun i h st b hb => by
    obtain ⟨⟨old, he⟩, ⟨o, ho, hc, hd⟩, _⟩ := st
    have e' : b = e ∨ b = it := by simpa using hb
    rcases e' with z | z
    · rw [z]; exact ⟨_, he, fun v q => nomatch q⟩
    · rw [z]; exact ⟨o, ho, fun v q => by rw [hd] at q; cases q⟩
  keep := fun i h h' st k => let ⟨⟨old, he⟩, hi, hne⟩ := st; ⟨⟨old, k e (by simp) _ he⟩, hi.at fun o q => k it (by simp) o q, hne⟩
  item := by
    intro X hP hw hK hc i pins s σ H E I hf st hg
    subst hP hw hK
    obtain ⟨⟨old, he⟩, hit, hne, hea⟩ := st
    obtain ⟨xs, x, hq, hx⟩ := hg
    obtain ⟨its, rv, p, hz⟩ := I.tuple hq
    obtain ⟨u, hu, ru⟩ := rv.get hx
    have hlt : i < its.toArray.size := by
      have := (List.getElem?_eq_some_iff.mp hu).1
      simpa using this
    have hel : e < s.heap.objs.size := Heap.lt_size he
    have hil : it < s.heap.objs.size := by obtain ⟨_, q, _⟩ := hit; exact Heap.lt_size q
    have D := Draws.tuple (prog := X.prog) (w := X.w) (A := X.A.in1) (I.ok.hd hc) it a hai its.toArray
    refine wpAny_pyNext_enum_itemC D he ⟨hit, p⟩ hlt hne (by simp [hne, hea]) fun u' h' tk hP ho hit' hT hsz hk => ?_
    obtain rfl : u' = u := by
      have h2 : its.toArray[i]? = some u := by simpa using hu
      rw [h2] at hP; exact (Option.some.inj hP).symm
    refine ⟨_, rfl, wpAny_letOwnedTupleGo_enum (s := { s with heap := h', toks := tk + 1 }) ho fun h'' he' sb => ?_⟩
    have hT2 : h''.get? s.heap.objs.size = some { cls := .type "tuple", data := .seq #[.int i tk, u'] } := (sb.2 _ (Nat.ne_of_gt hel)).trans hT
    have new : ObjOk X.prog X.w (upd H s.heap.objs.size (.tup [.int (i : Nat), x])) h'' s.heap.objs.size (.tup [.int (i : Nat), x]) :=
      ⟨by show 2 ≤ sizeLine; decide, [.int i tk, u'], .cons ⟨_, rfl⟩ (.cons ru .nil), ⟨_, hT2, rfl, _, rfl⟩⟩
    have I1 : Inv X pins σ (upd H s.heap.objs.size (.tup [.int (i : Nat), x])) { s with heap := h'', toks := tk + 1 } :=
      I.turnedNew (ch := [e, it]) (fun b ob hb q => (sb.2 b (fun z => hb (by simp [z]))).trans (hk b ob (fun z => hb (by simp [z])) (fun z => hb (by simp [z])) q)) hf (Nat.le_refl _) new
    refine ⟨.ref s.heap.objs.size, _, I1, rfl, ⟨_, x, rfl, I.hok.fresh (Nat.le_refl _), rfl, fun ys hy => by rw [I.tuple_inj hy hq]; exact hx⟩, ⟨⟨u', ?_⟩, hit'.1.at fun o q => (sb.2 it (Ne.symm hne)).trans q, hne, hea⟩, fun b hb => ?_⟩
    · have e1 : ((i + 1 : Nat) : Int) = (i : Int) + 1 := by omega
      rw [e1]; exact he'
    · have hb' : b < s.heap.objs.size := by
        have e' : b = e ∨ b = it := by simpa using hb
        rcases e' with z | z
        · rw [z]; exact hel
        · rw [z]; exact hil
      rw [upd_ne (Nat.ne_of_lt hb')]
      exact (hf b hb).1
  done := by
    intro X hP hw hK hc i pins s σ H E I hf st hg
    subst hP hw hK
    obtain ⟨⟨old, he⟩, hit, hne, hea⟩ := st
    obtain ⟨xs, hq, hx⟩ := hg
    obtain ⟨its, rv, p, hz⟩ := I.tuple hq
    obtain ⟨f0, f1, f2, f3, f4, f5⟩ := hf it (by simp)
    have hl := rv.length
    have hsz : its.toArray.size = i := by rw [List.size_toArray, ← hl, hx]
    have D := Draws.tuple (prog := X.prog) (w := X.w) (A := X.A.in1) (I.ok.hd hc) it a hai its.toArray
    exact wpAny_pyNext_enum_endD D he ⟨by rw [hsz]; exact hit, p⟩ fun h' eb => ⟨rfl, I.turned (t' := s.toks) (fun b o hb q => eb b o hb q) f0 f1 f3 f4 f5⟩
  self := fun A i s Q E st h => let ⟨⟨_, he⟩, _⟩ := st; wpAny_pyIter_enum he h
def iEnumA (K : PySem.W.Frag) (ta : TA) : TI := fun σ H R => ta σ H fun vs H1 => ∃ a xs, vs = [.ref a] ∧ ((SqL K H1 a xs ∧ R (L2.Ite K a) H1) ∨ (SqT K H1 a xs ∧ R (IteT K a) H1))
theorem pi_enumA {X : Cx} {e : Expr} {ta : TA} {p pos tpos : Pos} {elts : List Expr} {kk : Nat} (hg : Gl X "enumerate") (hm : X.mg "enumerate" = none) (ha : PA X [e] ta) (hs : starEach [e] X.env = [(false, eval e X.env)] := by rfl) :
    PI X (.Tuple elts kk tpos) (.Call (.Name "enumerate" p) [e] [] pos) (iEnumA X.K ta) := by
  refine ⟨fun pins s σ H R I h => ?_⟩
  refine Call_ (ld_blt I hg hm boot_enumerate (PyProof.Rows.callWith_type1 (thn (ha.run pos pins s σ H _ I h) fun us s1 ⟨vs, H1, I1, r1, q1⟩ => ?_) hs rfl))
  obtain ⟨a, xs, ex, q⟩ := q1
  subst ex
  cases r1 with
  | cons r rr =>
    cases rr
    cases r
    have fin : ∀ b, b ∈ [s1.heap.objs.size + 1, s1.heap.objs.size] → FpOk X pins H1 b := fun b hb => by
      have e' : b = s1.heap.objs.size + 1 ∨ b = s1.heap.objs.size := by simpa using hb
      have hle : s1.heap.objs.size ≤ b := by
        rcases e' with z | z
        · rw [z]; exact Nat.le_add_right _ _
        · rw [z]; exact Nat.le_refl _
      exact I1.fpOk hle (I1.hok.fresh hle)
    rcases q with ⟨hq, q⟩ | ⟨hq, q⟩
    · obtain ⟨its, rv, p', hz⟩ := I1.list hq
      refine call_enumerate_list p'.isList fun h' he hit hsz hk => wpAny_pyIter_enum he ?_
      have I2 : Inv X pins σ H1 { s1 with heap := h' } := I1.kept (t' := s1.toks) hk
      exact ⟨s1.heap.objs.size + 1, [s1.heap.objs.size + 1, s1.heap.objs.size], _, _, H1, rfl, I2, turn_enum a (s1.heap.objs.size + 1) s1.heap.objs.size, ⟨⟨.none, he⟩, hit, Nat.succ_ne_self _⟩, fin, q⟩
    · obtain ⟨its, rv, p', hz⟩ := I1.tuple hq
      have p'' : s1.heap.IsTuple a its.toArray := p'
      have hal : a < s1.heap.objs.size := by obtain ⟨o, ho, _⟩ := id p''; exact Heap.lt_size ho
      refine enum1_begins (begins_tuple a its.toArray) p'' fun h' he hit hsz hk => wpAny_pyIter_enum he ?_
      have I2 : Inv X pins σ H1 { s1 with heap := h' } := I1.kept (t' := s1.toks) hk
      exact ⟨s1.heap.objs.size + 1, [s1.heap.objs.size + 1, s1.heap.objs.size], _, _, H1, rfl, I2, turn_enumT a (s1.heap.objs.size + 1) s1.heap.objs.size (Nat.ne_of_lt hal), ⟨⟨.none, he⟩, ⟨_, hit, rfl, rfl⟩, Nat.succ_ne_self _, Nat.ne_of_gt (Nat.lt_succ_of_lt hal)⟩, fin, q⟩
theorem walk_enumT {K : PySem.W.Frag} {a : Addr} {xs : List V} : L2.Walk (IteT K a) xs.length (fun H => SqT K H a xs) (L2.YPair (fun i => some (.int (i : Nat))) (fun i => xs[i]?)) := by
  refine ⟨fun i _ hi q => ⟨xs, xs[i], q, by simp [hi]⟩, fun _ q => ⟨xs, q, rfl⟩, fun i H v H' _ q y => ?_⟩
  obtain ⟨T, x, h1, h2, h3, h4⟩ := y
  exact ⟨T, .int (i : Nat), x, h1, h2, h3, rfl, h4 xs q⟩
theorem enumL_len : ∀ (n : Nat) (ds : List D), (enumL n ds).length = ds.length
  | _, [] => rfl
  | n, d :: ds => by simp [enumL, enumL_len (n + 1) ds]
theorem enumL_at : ∀ (n : Nat) (ds : List D) (i : Nat) (e : D), (enumL n ds)[i]? = some e → ∃ d, ds[i]? = some d ∧ e = .tup [.int ((n + i : Nat) : Int), d]
  | n, [], i, e, h => by simp [enumL] at h
  | n, d :: ds, 0, e, h => by
    simp [enumL] at h
    exact ⟨d, rfl, h ▸ rfl⟩
  | n, d :: ds, i + 1, e, h => by
    simp only [enumL, List.getElem?_cons_succ] at h
    obtain ⟨x, h1, h2⟩ := enumL_at (n + 1) ds i e h
    exact ⟨x, by simpa using h1, by rw [h2]; congr 3; omega⟩
theorem walkD_enum {G : Cfgx} {F : Hp} {K : PySem.W.Frag} {J : L2.It} {vs : List V} {ds : List D} {P : Hp → Prop} (w : L2.Walk J vs.length P (L2.YPair (fun i => some (.int (i : Nat))) (fun i => vs[i]?))) (h : ∀ H, Same F H → P H) (r : Reps G F vs ds) : WalkD G F J (enumL 0 ds) := by
  rw [WalkD, enumL_len, ← r.len]
  refine ⟨_, w.mono (fun H s => h H s) (fun i H x H' _ _ y => y), fun i H x H' d e y => ?_⟩
  obtain ⟨T, u, v, rfl, h2, rfl, h3, h4⟩ := y
  obtain ⟨d', e1, rfl⟩ := enumL_at 0 ds i d e
  obtain ⟨v', hv, rv⟩ := r.get e1
  have h4 : vs[i]? = some v := h4
  rw [hv] at h4; cases h4
  cases (show some (V.int (i : Nat)) = some u from h3)
  exact .inr ⟨T, _, _, rfl, h2, rfl, rfl, .cons (by rw [Nat.zero_add]; exact .int _) (.cons rv .nil)⟩
variable {X : Cx} {G : Cfgx} {W : WX} {k : Nat}
theorem ti_enum {e : Expr} {m : E} {p pos tpos : Pos} {elts : List Expr} {kk : Nat} (C : Cok X G W k) (h : TrE X G W e m) (hm : X.mg "enumerate" = none) (hg : Gl X "enumerate" := by rfl) (hs : starEach [e] X.env = [(false, eval e X.env)] := by rfl) : TrI X G W (.Tuple elts kk tpos) (.Call (.Name "enumerate" p) [e] [] pos) (itEnum m) := by
  obtain ⟨t, q, d⟩ := h
  refine ⟨_, pi_enumA hg hm (pa_cons q pa_nil (by rw [hs]; rfl)) hs, fun F H σ S T R st z => ?_⟩
  show t σ H fun v H1 => _
  refine d.dat F H σ S T _ st (PR.bind z fun dd S1 y => ?_)
  intro v F1 H1 T1 s1 st1 r1
  cases r1 with
  | @tup a vs ds hq rs =>
    have y : KI G F H σ T R (enumL 0 ds) S1 := y
    exact ⟨a, vs, rfl, .inr ⟨C.hK ▸ same_t st1.sub hq, y _ F1 H1 T1 s1 st1 (walkD_enum (K := X.K) walk_enumT (fun H s => C.hK ▸ same_t s hq) rs)⟩⟩
  | @lst a vs ds hq rs =>
    have y : KI G F H σ T R (enumL 0 ds) S1 := y
    exact ⟨a, vs, rfl, .inl ⟨.inl (.inl (st1.sub _ _ hq)), y _ F1 H1 T1 s1 st1 (walkD_enum (K := X.K) L2.walk_enum (fun H s => .inl (.inl (s _ _ hq))) rs)⟩⟩
  | _ => exact y.elim
end
end TB
namespace TBZ
open PySem PySem.W
open Sem (wp)
/-- the zip whose last pair is at T -/
abbrev IsZo (h : Heap) (z TI TO T : Addr) (b : Bool) : Prop := h.get? z = some { cls := .type "zip", data := .fields #[rawInt T, .bool b, .bool false, .ref TI, .ref TO] }
section
variable {prog : Program} {w : World} {A : Around} {E : Value → Shared → Prop} {s : Shared} {z TI TO i1 i2 T : Addr} {fp1 fp2 : List Addr} {n1 n2 i : Nat} {P1 P2 : Nat → Value → Prop} {St1 St2 : Nat → Heap → Prop} {b : Bool} {o : Obj}
/-- the pair is alive: not free -/
theorem held {Q : Bool → Shared → Prop} (hz : IsZo s.heap z TI TO T b) (ha : s.heap.get? T = some o) (h : ∀ h', IsZo h' z TI TO T true → Heap.SameBut z s.heap h' → Q false { s with heap := h' }) : wpAny (model prog w) A (Builtin.SmallTypes.ownedTupleIsFree (.ref z)) Q E s := by
  unfold Builtin.SmallTypes.ownedTupleIsFree
  refine wpAny_bind (wpAny_field hz rfl (x := rawInt T) rfl ?_)
  show wpAny _ _ (loadIfAlive (Int.toNat ((T : Nat) : Int)) >>= _) _ _ _
  refine wpAny_bind ?_
  rw [Int.toNat_natCast]
  refine kdx_alive ha ?_
  show wpAny _ _ (field (.ref z) 1 >>= _) _ _ _
  refine wpAny_bind (wpAny_field hz rfl (x := .bool b) rfl ?_)
  cases b with
  | true =>
    show wpAny _ _ (pure false) _ _ _
    refine wpAny_pure ?_
    exact h s.heap hz ⟨rfl, fun _ _ => rfl⟩
  | false =>
    show wpAny _ _ (setField (.ref z) 1 (.bool true) >>= _) _ _ _
    refine wpAny_bind (wpAny_setField_rec hz (by simp) fun h' hz' hs' => wpAny_pure (h h' hz' hs'))
/-- both states -/
def ZS (x z TI TO i1 i2 : Addr) (St1 St2 : Nat → Heap → Prop) (i : Nat) (h : Heap) : Prop := IsTupOf2 h TI (.ref i1) (.ref i2) ∧ St1 i h ∧ St2 i h ∧
  ((IsZip h z TI TO .none ∧ ∃ a1 a2, IsTupOf2 h TO a1 a2) ∨ ∃ (T : Addr) (b : Bool) (o : Obj), IsZo h z TI TO T b ∧ h.get? T = some o ∧ T ≠ z ∧ T ≠ i1 ∧ T ≠ i2 ∧ T ≠ x)
theorem ZS.keep (D1 : Draws prog w A.in1 i1 fp1 n1 P1 St1) (D2 : Draws prog w A.in1 i2 fp2 n2 P2 St2) {x : Addr} {h h' : Heap} (hz : ZS x z TI TO i1 i2 St1 St2 i h) (hx : ∀ b o, b ≠ x → h.get? b = some o → h'.get? b = some o) (n1 : x ≠ z) (n2 : x ≠ TI) (n3 : x ≠ TO) (n4 : x ∉ fp1) (n5 : x ∉ fp2) : ZS x z TI TO i1 i2 St1 St2 i h' := by
  obtain ⟨hTI, st1, st2, q⟩ := hz
  refine ⟨hx _ _ (Ne.symm n2) hTI, D1.frame _ _ _ st1 fun b hb o e => hx b o (fun q => n4 (q ▸ hb)) e, D2.frame _ _ _ st2 fun b hb o e => hx b o (fun q => n5 (q ▸ hb)) e, ?_⟩
  rcases q with ⟨hz, a1, a2, hTO⟩ | ⟨T, b, o, hz, ha, t⟩
  · exact .inl ⟨hx _ _ (Ne.symm n1) hz, a1, a2, hx _ _ (Ne.symm n3) hTO⟩
  · exact .inr ⟨T, b, o, hx _ _ (Ne.symm n1) hz, hx _ _ t.2.2.2 ha, t⟩
end
end TBZ
namespace TBZ
open PySem PySem.W
open Sem (wp)
section
end
section
open L2
end
section
open PyProof.Rows L2
end
end TBZ
namespace TB
open PySem L2
section
open TBZ
end
end TB
namespace TB
open PySem PySem.Spec PyProof.Rows L2
/-- a class of refusals without an own __init__ -/
structure RaiseC (K : PySem.W.Frag) (C : Addr) : Prop where
  q : PySem.W.excIn K C [.type "ValueError", .type "Exception", .type "BaseException", .type "object"] "ValueError.__new__" = true
  kp : PySem.W.keepIn K (.ref C) = true
  b : PySem.W.subIn K (.ref C) (.type "BaseException") = some true
  t : PySem.W.typeIn K (.ref C) = some (.type "type")
def raiseB (K : PySem.W.Frag) (C : Addr) : Bool := PySem.W.excIn K C [.type "ValueError", .type "Exception", .type "BaseException", .type "object"] "ValueError.__new__" && (PySem.W.keepIn K (.ref C) && (decide (PySem.W.subIn K (.ref C) (.type "BaseException") = some true) && decide (PySem.W.typeIn K (.ref C) = some (.type "type"))))
theorem raiseB_ok {K : PySem.W.Frag} {C : Addr} (h : raiseB K C = true) : RaiseC K C := by
  obtain ⟨h1, h⟩ := Bool.and_eq_true_iff.mp h
  obtain ⟨h2, h⟩ := Bool.and_eq_true_iff.mp h
  obtain ⟨h3, h4⟩ := Bool.and_eq_true_iff.mp h
  exact ⟨h1, h2, of_decide_eq_true h3, of_decide_eq_true h4⟩
theorem tr_raise (c : Nat) {X : Cx} {G : Cfgx} {W : WX} {k : Nat} {x m : PySem.Str} {j : Nat} {p p2 pos pos' : Pos} (C : Cok X G W k) (R : RaiseC X.K (G.ca c)) (hm : X.mg x = some (.ref (G.ca c))) (hg : Gl X x := by rfl) (hdb : (x == ("__debug__" : PySem.Str)) = false := by decide) :
    TrS X G W (.Raise (some (.Call (.Name x p) [.Constant (.str m) j p2] [] pos)) none pos') (sRaise c) :=
  ⟨_, L2N.ps_raise C.calm C.tk (L2N.pmk_own PySem.F.excBase_ValueError R.q hm R.kp (raises_own R.b R.t) hg hdb),
    fun F H σ S T D st z => (show PXs G W F H T ⟨c, .non⟩ S from z) σ (.ref (G.ca c)) none F H T (Step.refl F H T) st ⟨rfl, .inl ⟨rfl, rfl⟩⟩⟩
def tM (G : Cfgx) (W : WX) (m : St) : TS := fun D σ H => ∃ F S T, St' G F H σ S T ∧ PRs G W F H T (KS G F H T D) (m S)
theorem TrSs.can {X : Cx} {G : Cfgx} {W : WX} {ss : List Stmt} {m : St} (h : TrSs X G W ss m) : PSs X ss (tM G W m) := by
  obtain ⟨t, p, d⟩ := h
  exact ⟨fun pins s σ H D I ⟨F, S, T, st, z⟩ => p.run pins s σ H D I (d F H σ S T D st z)⟩
/-- a clause: its class, the slot of its name, the reading of its suite -/
structure ClK where
  c : Value
  i : Nat
  ts : Addr → Value → Option Addr → TS
/-- the suite's ends: the name goes -/
def clrD (i : Nat) (D : Ends) : Ends := { nx := fun σ H => D.nx (σ.set i none) H, rt := D.rt, bk := fun σ H => D.bk (σ.set i none) H, ct := fun σ H => D.ct (σ.set i none) H }
def wCl (K : PySem.W.Frag) (Wout : WX) (D : Ends) : List ClK → WX
  | [] => Wout
  | q :: qs => fun cls d σ H => ∃ b, PySem.W.exmOne K cls q.c = some b ∧ (b = true → ∀ a, H a = none → q.ts a cls d (clrD q.i D) (σ.set q.i (some (.ref a))) H) ∧ (b = false → wCl K Wout D qs cls d σ H)
inductive ClOk (X : Cx) : List ExceptHandler → List ClK → Prop
  | nil : ClOk X [] []
  | cons {x n : PySem.Str} {c : Value} {i : Nat} {ts : Addr → Value → Option Addr → TS} {b₁ : Stmt} {ss : List Stmt} {np ep : Pos} {hds : List ExceptHandler} {qs : List ClK} (hi : X.N[i]? = some n) (hl : X.env.kindOf n = some .local) (hc : Names X x c)
      (hu : ∀ (a : Addr) (oe : Obj) (cls : Value) (d : Option Addr) (pn : List (Addr × Obj)), L2N.Zn cls d oe → (∃ fv, oe.data = .fields fv) → PSs (X.suite a ((a, oe) :: pn)) (b₁ :: ss) (ts a cls d)) (rest : ClOk X hds qs) :
      ClOk X (.ExceptHandler (some (.Name x np)) (some n) (b₁ :: ss) ep :: hds) (⟨c, i, ts⟩ :: qs)
section
variable {X : Cx}
/-- an exception that has landed meets the clauses -/
theorem meets_cl {pins : List (Addr × Obj)} {D : Ends} {Wout : WX} {a : Addr} {B hb : Heap} {sI z : Shared} {τ : L2.St} {Hx : Hp} {cls : Value} {dx : Option Addr} (st : X.stack = X.env :: X.outer) (fr : X.env.frame = some X.env.locals) (nd : X.N.Nodup) (tk : L2N.Takes X Wout)
    (J : Inv X pins τ Hx sI) (gr : ∀ b o, sI.heap.get? b = some o → b ∉ frs X.stack → B.get? b = some o) (hz : sI.heap.UpToSlots hb) (fl : HandSPX.FlyingZ B (X.env :: X.outer) a (L2N.Zn cls dx) hb) (na : Hx a = none) (os : z.os = sI.os) (ag : AllBare z.gens) :
    ∀ {hds : List ExceptHandler} {qs : List ClK}, ClOk X hds qs → wCl X.K Wout D qs cls dx τ Hx → wpAny (model X.prog X.w) X.A (handleBy (.ref a) X.env hds) (SP X pins D) X.xe { z with heap := hb } := by
  obtain ⟨oz, vz, gz, kz, dz⟩ := fl.there
  have outside : ∀ {h : Heap} {o : Obj} {vs : Array Value}, h.FunFrames B (X.env :: X.outer) → h.get? a = some o → o.data = .fields vs → a ∉ frs (X.env :: X.outer) := fun {h o vs} ff e dd hm => by
    obtain ⟨_, u, e2, hn⟩ := ff.mem hm
    rw [e] at e2
    cases e2
    exact hn _ dd
  have n1 := outside fl.2.2.1 gz dz
  have notL : a ≠ X.env.locals := fun y => n1 (List.mem_filterMap.mpr ⟨X.env, List.mem_cons_self, by rw [fr, y]⟩)
  have notF : a ∉ X.fs := fun hm => by
    obtain ⟨e, he, y⟩ := List.mem_filterMap.mp hm
    exact n1 (List.mem_filterMap.mpr ⟨e, List.mem_cons_of_mem _ he, y⟩)
  have JL : Inv X pins τ Hx { z with heap := hb } := J.landed gr fl.1 hz os ag
  have JS := JL.suite gz dz na notL notF
  intro hds qs hk
  induction hk with
  | nil =>
    intro w
    refine wpAny_handleBy_nil ?_
    obtain ⟨_, _, _, o1, vs1, T1, _, _, g1, _, d1, t1, _⟩ := id fl
    unfold PySem.passOn
    refine wpAny_bind (wpAny_field g1 d1 t1 ?_)
    rw [if_neg (show ¬ ((Value.ref T1 == Value.none) = true) from by simp)]
    have on : wpAny (model X.prog X.w) X.A (setFlight (.ref a) X.env.frame) (fun _ s4 => wpAny (model X.prog X.w) X.A (throw (.ref a) : Sem Flow) (SP X pins D) X.xe s4) X.xe { z with heap := hb } := by
      rw [fr]
      exact HandSPX.setFlight_upZ fl fun h4 hh4 up4 => wpAny_throw (tk _ _ ⟨a, B, sI, pins, τ, Hx, cls, dx, rfl, J, gr, hz.trans up4, .inr (.inr (by rw [st]; exact hh4)), na, os, ag, w⟩)
    first
      | exact wpAny_bind (wpAny_pure (wpAny_bind on))
      | exact wpAny_bind on
  | @cons x n c i ts b₁ ss np ep hds qs hi hl hc hu rest ih =>
    intro w
    obtain ⟨b, eb, yes, no⟩ := w
    refine wpAny_handleBy_cons (codeAny_handlers_test ?_) (by intro y; cases y)
    have ty : PySem.W.Looks (model X.prog X.w) hb (typeOf (.ref a)) cls := fun A Q E s k y => wpAny_typeOf_ref (k _ _ gz) (by rw [kz.1]; exact y)
    have asked : ∀ {Q E : Value → Shared → Prop}, Q c { z with heap := hb } → wpAny (model X.prog X.w) (X.A.mark (some (.ref a))) (eval (.Name x np) X.env) Q E { z with heap := hb } := fun {Q E} y => by
      obtain ⟨g1, g2, g3 | ⟨g3, g4, g5⟩⟩ := hc
      · exact ld_glob (X := X.suite a ((a, oz) :: (X.pn ++ pins))) JS g1 g3 y g2
      · exact ld_blt (X := X.suite a ((a, oz) :: (X.pn ++ pins))) JS g1 g3 g4 y g5 g2
    refine asked ((PySem.W.exm_one (M := model X.prog X.w) JL.kIn ty eb).here ?_)
    cases b with
    | false =>
      show wpAny _ X.A (handleBy (.ref a) X.env hds) _ _ _
      exact ih (no rfl)
    | true =>
      refine codeAny_handlers_suite_as ?_
      refine HandSPX.lands_againZ fl fun h4 fl4 up4 => ?_
      have J4 : Inv X pins τ Hx { z with heap := h4 } := J.landed gr fl4.1 (hz.trans up4) os ag
      obtain ⟨o4, v4, g4, k4, d4⟩ := fl4.there
      have S4 := J4.suite g4 d4 na notL notF
      refine store_ok (X := X.suite a ((a, o4) :: (X.pn ++ pins))) (v := .ref a) S4 nd hi (.inl hl) rfl (fun s5 S5 => ?_) (.inr hl)
      have gone : ∀ {s6 : Shared} {υ : L2.St} {H6 : Hp} {Q : Shared → Prop}, Inv (X.suite a ((a, o4) :: (X.pn ++ pins))) [] υ H6 s6 → (∀ s7, Inv X pins (υ.set i none) H6 s7 → Q s7) →
          wpAny (model X.prog X.w) X.A (do bindName X.env n .none; unbindBehindTheSuite X.env n ep) (fun _ s7 => Q s7) X.xe s6 := fun {s6 υ H6 Q} S6 hq => gone_ok (S6.unsuite JL.ok) nd hi hl hq
      refine wpAny_mono ((hu a o4 cls dx (X.pn ++ pins) k4 ⟨_, d4⟩).run [] s5 _ Hx _ S5 (yes rfl a na)) (fun f s6 q => ?_) (fun _ _ y => False.elim y)
      cases f with
      | ret u =>
        obtain ⟨v6, υ, H6, S6, r6, q6⟩ := q
        exact gone S6 fun s7 J7 => ⟨_, _, _, J7, r6, q6⟩
      | next =>
        obtain ⟨υ, H6, S6, q6⟩ := q
        exact gone S6 fun s7 J7 => ⟨_, _, J7, q6⟩
      | brk =>
        obtain ⟨υ, H6, S6, q6⟩ := q
        exact gone S6 fun s7 J7 => ⟨_, _, J7, q6⟩
      | cont =>
        obtain ⟨υ, H6, S6, q6⟩ := q
        exact gone S6 fun s7 J7 => ⟨_, _, J7, q6⟩
theorem ps_try_cl {body : List Stmt} {h₁ : ExceptHandler} {hds : List ExceptHandler} {qs : List ClK} {pos : Pos} {tb : WX → TS} {Wout : WX} (st : X.stack = X.env :: X.outer) (fr : X.env.frame = some X.env.locals) (nd : X.N.Nodup) (tk : L2N.Takes X Wout)
    (hb : ∀ (W : WX) (pn : List (Addr × Obj)) (xe : Value → Shared → Prop), L2N.Takes (X.tr pn xe) W → PassesOwn (model X.prog X.w) X.A X.env xe → PSs (X.tr pn xe) body (tb W))
    (hh : ClOk X (h₁ :: hds) qs) : L2.PS X (.Try body (h₁ :: hds) [] [] pos) (fun D σ H => tb (wCl X.K Wout D qs) D σ H) := by
  refine ⟨fun pins s σ H D I h => ?_⟩
  have ok := I.ok
  have fr2 : X.A.frames = some (X.env :: X.outer) := by rw [ok.frames, st]
  have out := (hb (wCl X.K Wout D qs) (X.pn ++ pins) (fun u s₁ => wpAny (model X.prog X.w) X.A (noteFrame u X.env) (fun _ s₂ => wpAny (model X.prog X.w) X.A (setFlight u none) (fun _ s₃ =>
    wpAny (model X.prog X.w) X.A (handleBy u X.env (h₁ :: hds)) (SP X pins D) X.xe s₃) X.xe s₂) X.xe s₁) (fun u z xx => by
      obtain ⟨a, B, sI, pins', τ, Hx, cls, dx, rfl, J', gr, up, sky, na, os, ag, w⟩ := xx
      have J : Inv X pins τ Hx sI := J'.ofTry ok
      have sky2 : Sky B (X.env :: X.outer) a (L2N.Zn cls dx) X.env.locals z.heap := by rw [← st]; exact sky
      show wpAny (model X.prog X.w) X.A (noteFrame (.ref a) X.env) _ _ _
      exact L2N.Sky.land L2N.Zn.steady fr2 fr sky2 fun h3 fl3 up3 => meets_cl st fr nd tk J gr (up.trans up3) fl3 na os ag hh w) PassesOwn.looking).run [] s σ H D (I.toTry _) h
  refine wpAny_Try_except (wpAny_mono out (fun f s1 q => ?_) fun _ _ y => y)
  cases f with
  | next =>
    obtain ⟨τ, Hx, J, q⟩ := q
    exact wpAny_execs_nil ⟨τ, Hx, J.ofTry ok, q⟩
  | ret u =>
    obtain ⟨v, τ, Hx, J, r, q⟩ := q
    exact ⟨v, τ, Hx, J.ofTry ok, r, q⟩
  | brk =>
    obtain ⟨τ, Hx, J, q⟩ := q
    exact ⟨τ, Hx, J.ofTry ok, q⟩
  | cont =>
    obtain ⟨τ, Hx, J, q⟩ := q
    exact ⟨τ, Hx, J.ofTry ok, q⟩
end
end TB
namespace TB
open PySem PySem.Spec PyProof.Rows L2 L2H
/-- the block's context: the handled exception p stays in sight -/
abbrev blkH (X : Cx) (p : Addr × Obj) (s : Shared) (H : Hp) (scope : Scope) (ce : Env) (fp : List Addr) : Cx := (X.blk s H scope ce fp).tr [p] fun _ _ => False
theorem pe_lcH {X : Cx} {p : Addr × Obj} {elt tg iter : Expr} {ifs : List Expr} {scope : Scope} {own : List (PySem.Str × Nat)} {pos : Pos} {wi : TI} {g : TG} {tt : TT} {te : TE} (hot : Hot1 X.A p) (hp : p ∈ X.pn) (nd : X.N.Nodup) (hi : PIH X tg iter wi) (ok : BlkOk X.N X.env.scope scope own)
    (hg : ∀ (s : Shared) (H : Hp) (C : Addr) (cl : List (PySem.Str × Addr)) (fp : List Addr), PG (blkH X p s H scope (compEnvC scope cl C X.env) fp) tg g)
    (ht : ∀ (s : Shared) (H : Hp) (C : Addr) (cl : List (PySem.Str × Addr)) (fp : List Addr), PTs (blkH X p s H scope (compEnvC scope cl C X.env) fp) ifs tt)
    (he : ∀ (s : Shared) (H : Hp) (C : Addr) (cl : List (PySem.Str × Addr)) (fp : List Addr), PE (blkH X p s H scope (compEnvC scope cl C X.env) fp) elt te) (hs : ∀ x, foldedSetIterable iter X.env x = pure x := by intro _; rfl) :
    PE X (.ListComp elt [⟨tg, iter, ifs, 0⟩] scope pos) (tLc wi g tt te (own.map (·.2))) := by
  refine ⟨fun pins s σ H Q I h => ?_⟩
  rw [eval_ListComp]
  have cells : ∀ y ∈ scope.names, y.2 = .free → ∃ c, X.env.cells.lookup y.1 = some c := fun y hy e => I.ok.has _ (ok.free y hy e)
  refine wpAny_comprehension_free (use := none) rfl hs (closure_ok cells) ok.kind (fun y hy e => by rw [ok.uniq y hy, e]) (thn (hi.run pins s σ H _ I h) fun xv sa ha => thn ha fun itv sb hb => ?_)
  obtain ⟨it, fp, tn, J, Hb, e, Ib, T, stb, fb, q⟩ := hb
  subst e
  refine wpAny_newObj_type (newEnv_comp ?_) (by show 0 ≤ sizeLine; decide)
  generalize eL : sb.heap.objs.size = L
  obtain ⟨W, ⟨m0, w0⟩, turn⟩ := q L (Ib.hok.fresh (Nat.le_of_eq eL))
  generalize es : ({ sb with heap := sb.heap.push { cls := .type "list", data := .seq ([] : List Value).toArray } } : Shared) = sc
  have hc : sc.heap = sb.heap.push { cls := .type "list", data := .seq ([] : List Value).toArray } := by rw [← es]
  have Ic : Inv X pins σ (upd Hb L (.lst [])) sc := by
    rw [← es]
    exact Ib.laid (t' := sb.toks) (fun b o e => Heap.get?_push_of_some _ e) (Nat.le_of_eq eL) ⟨Nat.zero_le _, [], 0, .nil, by rw [← eL]; exact Heap.get?_push_size _ rfl⟩
  have fc : ∀ b ∈ fp, FpOk X pins (upd Hb L (.lst [])) b ∧ b < sc.heap.objs.size := fun b hb => by
    obtain ⟨o, e, _⟩ := T.obj _ _ stb b hb
    have lt := Heap.lt_size e
    exact ⟨⟨by rw [upd_ne (by rw [← eL]; exact Nat.ne_of_lt lt)]; exact (fb b hb).1, (fb b hb).2⟩, by rw [hc, Heap.size_push]; exact Nat.lt_succ_of_lt lt⟩
  have stc : tn 0 sc.heap := T.keep _ _ _ stb fun b _ o e => by rw [hc]; exact Heap.get?_push_of_some _ e
  have Id := block_start Ic ok nd fc
  have pP := Ic.pin p (List.mem_append_left _ hp)
  have pg := hg sc (upd Hb L (.lst [])) sc.heap.objs.size (cellsFrom (sc.heap.objs.size + 1) scope.names (cloFrom X.env.cells scope.names [])) fp
  have pt := ht sc (upd Hb L (.lst [])) sc.heap.objs.size (cellsFrom (sc.heap.objs.size + 1) scope.names (cloFrom X.env.cells scope.names [])) fp
  have pe := he sc (upd Hb L (.lst [])) sc.heap.objs.size (cellsFrom (sc.heap.objs.size + 1) scope.names (cloFrom X.env.cells scope.names [])) fp
  show codeAny _ _ (.compStart (.ListComp elt [⟨tg, iter, ifs, 0⟩] scope pos) 0 (.ref it) (.ref L) (compEnvC scope (cellsFrom (sc.heap.objs.size + 1) scope.names (cloFrom X.env.cells scope.names [])) sc.heap.objs.size X.env)) (compPost (model X.prog X.w) X.A X.xe none (EP X pins σ Q) (.ref L) sc.heap.objs.size) { sc with heap := pushCells (sc.heap.push { cls := .type "dict", data := .dict #[] }) scope.names }
  have n0 : ∀ b ∈ fp, (upd Hb L (.lst [])) b = none := fun b hb => (fc b hb).1.1
  generalize ece : compEnvC scope (cellsFrom (sc.heap.objs.size + 1) scope.names (cloFrom X.env.cells scope.names [])) sc.heap.objs.size X.env = ce at Id pg pt pe ⊢
  have cL : ce.locals = sc.heap.objs.size := by subst ece; rfl
  generalize eHc : upd Hb L (.lst []) = Hc at Ic Id pg pt pe w0 n0 fc pP
  generalize ed : ({ sc with heap := pushCells (sc.heap.push { cls := .type "dict", data := .dict #[] }) scope.names } : Shared) = sd at Id ⊢
  have kd : ∀ b o, sc.heap.get? b = some o → sd.heap.get? b = some o := fun b o e => by rw [← ed]; exact pushCells_keeps _ _ _ _ (Heap.get?_push_of_some _ e)
  have std : tn 0 sd.heap := T.keep _ _ _ stc fun b _ o e => kd b o e
  have frees : (X.blk sc Hc scope ce fp).fs = frs X.stack := rfl
  have Ip : Inv (X.blk sc Hc scope ce fp) [p] (wipe σ (own.map (·.2))) Hc sd := Id.pins_of fun q hq => by
    have e : q = p := by simpa using hq
    subst e
    refine ⟨kd _ _ pP.1, pP.2.1, ?_, fun hm => (List.mem_cons.mp (Ic.stkSub q.1 hm)).elim pP.2.2.1 pP.2.2.2.1, pP.2.2.2.2⟩
    show q.1 ≠ ce.locals
    rw [cL]
    exact Nat.ne_of_lt (Heap.lt_size pP.1)
  have Ih : Inv (blkH X p sc Hc scope ce fp) [] (wipe σ (own.map (·.2))) Hc sd := Ip.toTry _
  have hotB : HotC (blkH X p sc Hc scope ce fp) := ⟨p, hot, List.mem_singleton.mpr rfl⟩
  have offp : ∀ b ∈ fp, p.1 ≠ b := fun b hb => (fc b hb).1.2.2.2.2.2 p (List.mem_append_left _ hp)
  have stay : ∀ {τ : L2.St} {H' : Hp} {z : Shared}, Inv (blkH X p sc Hc scope ce fp) [] τ H' z → (∀ b ∈ fp, H' b = none) → ∀ b ∈ fp, FpOk (blkH X p sc Hc scope ce fp) [] H' b := fun {τ H' z} I' hn b hb =>
    ⟨hn b hb, (I'.ok.exf b hb).1, I'.ok.exfs b hb, .inl hb, fun x c e => (I'.ok.exf b hb).2 x c e, fun q hq => by
      have e : q = p := by simpa using (show q ∈ [p] ++ ([] : List (Addr × Obj)) from hq)
      subst e
      exact offp b hb⟩
  have go : codeAny (model X.prog X.w) X.A (.compLoop (.ListComp elt [⟨tg, iter, ifs, 0⟩] scope pos) 0 (.ref it) (.ref L) ce) (compPost (model X.prog X.w) X.A X.xe none (EP X pins σ Q) (.ref L) sc.heap.objs.size) sd := by
    refine compLoop_any (fun n z => ∃ i H', Inv (blkH X p sc Hc scope ce fp) [] (wipe σ (own.map (·.2))) H' z ∧ tn i z.heap ∧ (∀ b ∈ fp, H' b = none) ∧ W i n H') ?_ m0 ⟨0, Hc, Ih, std, n0, w0⟩
    rintro n z ⟨i, H5, I5, st5, n5, w5⟩
    rcases turn i n H5 w5 with ⟨ends, qq⟩ | ⟨more, Nx, hNx, step⟩
    · refine thnF (T.done (blkH X p sc Hc scope ce fp) rfl rfl rfl hotB i [] z _ H5 (fun _ _ => False) I5 (stay I5 n5) st5 ends) fun r z6 ⟨hr, I6⟩ => ?_
      subst hr
      have I7 : Inv X pins σ H5 z6 := Ic.call' (ch := fp) I6.os I6.base I6.hok I6.bare fun b hb => ⟨(fc b hb).1.2.2.2.1, (fc b hb).1.2.1, (fc b hb).1.2.2.2.2.1, (fc b hb).1.2.2.2.2.2⟩
      have nC : H5 sc.heap.objs.size = none := by
        have y : H5 ce.locals = none := I6.free
        rwa [cL] at y
      obtain ⟨m, hn, _⟩ := I6.loc
      have hn : z6.heap.Ns ce.locals m := hn
      rw [cL] at hn
      obtain ⟨f0, f1, f2, f3, f4, f5⟩ := Ic.fpOk (Nat.le_refl _) nC
      exact ⟨m, hn, fun h9 sb9 => ⟨.ref L, H5, I7.turned (t' := z6.toks) (fun b o hb e => (sb9.2 b hb).trans e) f0 f1 f3 f4 f5, rfl, qq⟩⟩
    · refine thnF (T.item (blkH X p sc Hc scope ce fp) rfl rfl rfl hotB i [] z _ H5 (fun _ _ => False) I5 (stay I5 n5) st5 more) fun r z6 ⟨u, hr, h6⟩ => ?_
      subst hr
      refine thnF h6 fun _ z7 ⟨x, H7, I7, r7, y7, st7, n7⟩ => ?_
      refine thnF (pg.run _ z7 _ H7 x u _ (I7.pinned (stay I7 n7) (T.obj _ _ st7)) r7 (step x H7 y7)) fun _ z8 ⟨σ8, H8, I8, hw8, q8⟩ => ?_
      refine thnF (pt.run _ z8 σ8 H8 _ I8 q8) fun b z9 ⟨H9, I9, q9⟩ => ?_
      have again : ∀ {z' : Shared} {H' : Hp}, Inv (blkH X p sc Hc scope ce fp) ([] ++ pinsAt fp z7.heap) σ8 H' z' → Nx H' → ∃ m, m < n ∧ ∃ i H', Inv (blkH X p sc Hc scope ce fp) [] (wipe σ (own.map (·.2))) H' z' ∧ tn i z'.heap ∧ (∀ b ∈ fp, H' b = none) ∧ W i m H' := fun {z' H'} I' nx => by
        obtain ⟨m', lt, w'⟩ := hNx H' nx
        have held : ∀ b ∈ fp, ∀ o, z7.heap.get? b = some o → z'.heap.get? b = some o ∧ H' b = none := fun b hb o e =>
          let y := I'.pin (b, o) (List.mem_append_right _ (List.mem_append_right _ (mem_pinsAt hb e)))
          ⟨y.1, y.2.1⟩
        refine ⟨m', lt, i + 1, H', (I'.unpinned (pins := [])).weak (by rw [← hw8, wipe_length]) (fun j v e => ?_), T.keep _ _ _ st7 fun b hb o e => (held b hb o e).1, fun b hb => ?_, w'⟩
        · rw [← hw8] at e
          exact (wipe_some e).1
        · obtain ⟨o, e, _⟩ := T.obj _ _ st7 b hb
          exact (held b hb o e).2
      cases b with
      | false =>
        simp only [Bool.false_eq_true, if_false] at q9 ⊢
        exact again I9 q9
      | true =>
        simp only [if_true] at q9 ⊢
        refine thnF (pe.run _ z9 σ8 H9 _ I9 q9) fun _ zA ⟨yv, HA, IA, rA, acc, hL, hz, nx⟩ => ?_
        exact app_ok (X := blkH X p sc Hc scope ce fp) IA hL hz rA fun zB IB => again IB nx
  exact codeAny_compStart_list go (T.self X.A 0 _ _ _ std go)
end TB
namespace TB
open PySem PySem.Spec PyProof.Rows L2 L2H
theorem hot_fn {P : Program} {w : World} {K : PySem.W.Frag} {mg : PySem.Str → Option Value} {base : Heap} {x qual : PySem.Str} {params : Arguments} {body : List Stmt} {scope : Scope} {dvs : List V} {kws : List (PySem.Str × V)} {f : Addr} {fd : FuncData} {N ps : List PySem.Str} {k : Nat}
    {A : Around} {outer : List Env} {s : Shared} {H : Hp} {args : PySem.Args} {us : List Value} {vs : List V} {Q : VK} {E : XK} {p : Addr × Obj} (FD : FunD K x qual params body scope dvs kws f fd) (S : FnScope N ps scope) (room : RoomH (k + 1) A) (pin : PinOk outer H s p) (e0 : Env0 P w K mg base A outer s H)
    (bd : BindsTo s fd args (ps.zip us)) (rv : Vals vs us) (hl : vs.length = ps.length)
    (hb : ∀ cdv : Value, ∃ t, PSs (cxH (L2N.CX P w) P w K mg base N qual scope f cdv A outer s H E p) body t ∧ t { nx := fun _ H' => Q .non H', rt := Q } (L2.start N vs) H) :
    codeAny (model P w) A (.call (.ref f) args) (CR (L2N.CX P w) outer P w H s Q E) s := by
  obtain ⟨oc, od, dV, kV, doc, pm, an, cdv, ct, osl, rfl, lk, hcd, _, _⟩ := FD.ex
  obtain ⟨t, ht, hq⟩ := hb cdv
  have inK : K.In s.heap := e0.mod.kin.keeps fun b o e => (e0.bs b o e).1
  have free : s.heap.NoLimit := e0.mod.nolimit.keeps fun b o e => (e0.bs b o e).1
  have kinds : ∀ y ∈ ps.zip us, scope.names.lookup y.1 = some .local ∨ (scope.names.lookup y.1 = some .cell ∧ ((cellsFrom (s.heap.objs.size + 1) scope.names []).lookup y.1).isSome = true) := by
    rintro ⟨n, v⟩ hy
    exact (S.par n (List.of_mem_zip hy).1).imp id fun c => ⟨c, PySem.W.cellsFrom_some _ _ _ (.inl c)⟩
  refine codeAny_call_function room.depth (inK _ _ lk) rfl S.co S.gen rfl (PySem.W.codeRec_of inK hcd) (bd _ _ _ _ (wpAny_newFunctionEnv_cells S.kind kinds fun env he s1 x => ?_))
  subst he
  refine ⟨free.keeps x.toInCall.keep, codeAny_func ?_⟩
  refine wpAny_mono (ht.run [] s1 (L2.start N vs) H _ (inv_startH S pin e0 hl rv x) hq) (fun fl z hz => ?_) fun _ _ y => y
  cases fl with
  | brk => exact hz.elim fun _ y => y.elim fun _ y => False.elim y.2
  | cont => exact hz.elim fun _ y => y.elim fun _ y => False.elim y.2
  | next =>
    obtain ⟨τ, Hz, J, q⟩ := hz
    exact ⟨.non, Hz, J.os, J.bare, J.base, J.hok, rfl, q⟩
  | ret u =>
    obtain ⟨v, τ, Hz, J, r, q⟩ := hz
    exact ⟨v, Hz, J.os, J.bare, J.base, J.hok, r, q⟩
/-- the exception's own dict, if it has one, stands in the heap -/
def DictAt (h : Heap) (d : Option Addr) : Prop := match d with
  | none => True
  | some dx => ∃ o, h.get? dx = some o
theorem call_isP {X : Cx} {D : Addr} {p : Addr × Obj} (C : ExcC X.K D) (hp : p ∈ X.pn) (hc : p.2.cls = .ref D) (hf : ∃ fv, p.2.data = .fields fv) (hd : DictAt X.s_0.heap p.2.dict) (he : X.ex = []) : CallR X (.builtin "isinstance") (rIsE X.K D p.1) := by
  intro pins s σ H xs us Q I r h
  obtain ⟨c, cv, b, rfl, hcv, e, q⟩ := h
  obtain ⟨fv, dt⟩ := hf
  cases r with
  | cons rx rr =>
    cases rr with
    | @cons _ u2 _ _ rt rr =>
      cases rr
      cases rx
      have ec := hcv _ rt
      subst ec
      have at_ : s.heap.get? p.1 = some p.2 := (I.pin p (List.mem_append_left _ hp)).1
      have no : PySem.W.notCls p.2 = true := by unfold PySem.W.notCls; rw [dt]
      have cl : (PySem.W.clsIn X.K D).isSome = true := by
        obtain ⟨cd, hcd, _⟩ := PySem.W.any_some C.hd
        rw [hcd]
        rfl
      have fin : ∀ {od : Option Obj}, PySem.W.InstAt s.heap p.1 p.2 D od → wpAny (model X.prog X.w) X.A (call (.builtin "isinstance") [.ref p.1, u2]) (EP X pins σ Q) X.xe s := fun {od} J =>
        PySem.W.kia_one (PySem.W.kitx_exc cl C.hg C.hk C.hs C.ha C.hn C.ht C.hm) I.kIn J e (fun z => nomatch z) fun tk => ⟨.bl b, H, I.kept (t' := tk) fun _ _ z => z, rfl, q⟩
      cases q2 : p.2.dict with
      | none => exact fin (od := none) ⟨at_, hc, no, by rw [q2]; trivial⟩
      | some dx =>
        rw [q2] at hd
        obtain ⟨o, ho⟩ := hd
        obtain ⟨o2, ho2⟩ := I.base.there dx o ho (by rw [he]; simp)
        exact fin (od := some o2) ⟨at_, hc, no, by rw [q2]; exact ho2⟩
/-- what is known of the classes of refusals -/
structure XFacts (K : PySem.W.Frag) (ca : Nat → Addr) (xs : List Nat) : Prop where
  ec : ∀ c, xs.contains c = true → ExcC K (ca c)
  is_ : ∀ c t, xs.contains c = true → t ∈ ([13, 17, 11, 18, 16, 15, 14, 22, 12, 20, 21, 23, 19] : List Nat) → PySem.W.kitOne K (.ref (ca c)) (.ref (ca t)) = some (xSub c t)
  ve : ∀ c, xs.contains c = true → PySem.W.kitOne K (.ref (ca c)) (.type "ValueError") = some true
  ct : ∀ c t, xs.contains c = true → t ∈ ([10, 22, 23] : List Nat) → PySem.W.exmOne K (.ref (ca c)) (.ref (ca t)) = some (xSub c t)
def excCB (K : PySem.W.Frag) (D : Addr) : Bool := decide (PySem.W.findIn K (.ref D) "__getattribute__" = some (some (.builtin "BaseException.__getattribute__"))) && (decide (PySem.W.findIn K (.ref D) "__getattr__" = some none) && (decide (PySem.W.subIn K (.ref D) (.type "BaseException") = some true) && (PySem.W.hasDictIn K D &&
  (decide (PySem.W.findIn K (.ref D) "__class__" = some (some (.builtin "object.__class__"))) && (decide (PySem.W.specialIn K (.builtin "object.__class__") "__get__" = some (some (.builtin "getset_descriptor.__get__"))) && (decide (PySem.W.takesIn K (.builtin "object.__class__") = some true) && decide (PySem.W.mroIn K D (.type "object") = some true)))))))
theorem excCB_ok {K : PySem.W.Frag} {D : Addr} (h : excCB K D = true) : ExcC K D := by
  simp only [excCB, Bool.and_eq_true, decide_eq_true_eq] at h
  obtain ⟨h1, h2, h3, h4, h5, h6, h7, h8⟩ := h
  exact ⟨h1, h2, h3, h4, h5, h6, h7, h8⟩
def xFactsB (K : PySem.W.Frag) (ca : Nat → Addr) (xs : List Nat) : Bool := xs.all fun c => excCB K (ca c) && (([13, 17, 11, 18, 16, 15, 14, 22, 12, 20, 21, 23, 19] : List Nat).all (fun t => decide (PySem.W.kitOne K (.ref (ca c)) (.ref (ca t)) = some (xSub c t))) &&
  (decide (PySem.W.kitOne K (.ref (ca c)) (.type "ValueError") = some true) && ([10, 22, 23] : List Nat).all (fun t => decide (PySem.W.exmOne K (.ref (ca c)) (.ref (ca t)) = some (xSub c t)))))
theorem xFactsB_ok {K : PySem.W.Frag} {ca : Nat → Addr} {xs : List Nat} (h : xFactsB K ca xs = true) : XFacts K ca xs := by
  have h : ∀ c, xs.contains c = true → _ := fun c hc => List.all_eq_true.mp h c (by simpa using hc)
  simp only [Bool.and_eq_true, List.all_eq_true, decide_eq_true_eq] at h
  exact ⟨fun c hc => excCB_ok (h c hc).1, fun c t hc ht => (h c hc).2.1 t ht, fun c hc => (h c hc).2.2.1, fun c t hc ht => (h c hc).2.2.2 t ht⟩
section
variable {X : Cx} {G : Cfgx} {W : WX}
theorem tr_setN (i : Nat) {x : PySem.Str} {e : Expr} {m : E} {p pos : Pos} (nd : X.N.Nodup) (h : TrE X G W e m) (hp : G.pk.contains i = false := by rfl) (hi : X.N[i]? = some x := by rfl) (hx : Loc X.env.scope x := by first | exact Or.inl rfl | exact Or.inr rfl) (hs : swapsWith e (some (.Name x p)) pos.line X.env = pure false := by rfl)
    (hf : X.fn x = true ∨ X.env.scope.names.lookup x = some .local := by first | exact .inl rfl | exact .inr rfl) : TrS X G W (.Assign [.Name x p] e pos) (sSet i m) := by
  obtain ⟨t, q, d⟩ := h
  refine ⟨_, ps_set nd hi hx q hs hf, fun F H σ S T D st z => d F H σ S T _ st (PRs.bind z fun kd S1 y => ?_)⟩
  obtain ⟨kk, dd⟩ := kd
  intro v F' H' T' f s' st' o le di
  show D.nx (σ.set i (some v)) H'
  have y : PRs G W F H T (KS G F H T D) (if i < S1.length then .ok .nx (S1.set i (some (kk, dd))) else .bad) := y
  by_cases hl : i < S1.length
  · rw [if_pos hl] at y
    obtain ⟨T2, st2, l2⟩ := st'.set hl (pin_ok hp) o le di
    exact (show KS G F H T D .nx _ from y) _ F' H' T2 (s'.less l2) st2
  · rw [if_neg hl] at y
    exact y.elim
/-- isinstance(e, C), C a class of refusals -/
theorem tr_isP {p : Addr × Obj} {c t : Nat} {y cn : PySem.Str} {xs : List Nat} {p0 p1 p2 pos : Pos} (V : XFacts X.K G.ca xs) (hcx : xs.contains c = true) (ht : t ∈ ([13, 17, 11, 18, 16, 15, 14, 22, 12, 20, 21, 23, 19] : List Nat)) (hp : p ∈ X.pn) (hc : p.2.cls = .ref (G.ca c)) (hf : ∃ fv, p.2.data = .fields fv) (hd : DictAt X.s_0.heap p.2.dict) (hx : X.ex = [])
    (h0 : (0 : Nat) ∈ G.pk) (hv0 : G.pv 0 = some (.ref p.1)) (hm : X.mg "isinstance" = none) (hg : X.mg cn = some (.ref (G.ca t))) (gi : Gl X "isinstance" := by rfl) (gl : Gl X cn := by rfl) (dcn : (cn == ("__debug__" : PySem.Str)) = false := by decide)
    (hN : X.N[0]? = some y := by rfl) (hv : Vis X.env.scope y := by first | exact Or.inl rfl | exact Or.inr (Or.inl rfl) | exact Or.inr (Or.inr rfl)) (dy : (y == ("__debug__" : PySem.Str)) = false := by decide) (dcy : (y == ("__classdict__" : PySem.Str)) = false := by decide)
    (he : starEach [.Name y p1, .Name cn p2] X.env = (false, eval (.Name y p1) X.env) :: starEach [.Name cn p2] X.env := by rfl) (he2 : starEach [.Name cn p2] X.env = (false, eval (.Name cn p2) X.env) :: starEach [] X.env := by rfl) (hpl : (backTo pos (starEach [.Name cn p2] X.env)).any (·.1) = false := by rfl) :
    TrE X G W (.Call (.Name "isinstance" p0) [.Name y p1, .Name cn p2] [] pos) (eCon (.bl (xSub c t))) :=
  ⟨_, pe_callB (call_isP (V.ec c hcx) hp hc hf hd hx) gi hm (by decide +kernel) (pa_cons (pe_var hN hv dy dcy) (pa_cons (pe_glob (v := .ref (G.ca t)) gl hg rfl dcn) pa_nil he2) he) (by decide) (by decide) he hpl,
    fun F H σ S T Q st z => ⟨.ref p.1, by rw [st.pi 0 h0, hv0], .ref (G.ca t), .ref (G.ca t), xSub c t, rfl, fun u r => r, V.is_ c t hcx ht, KE.val z st (.bl _)⟩⟩
/-- isinstance(e, ValueError) -/
theorem tr_isVE {p : Addr × Obj} {c : Nat} {y : PySem.Str} {xs : List Nat} {p0 p1 p2 pos : Pos} (V : XFacts X.K G.ca xs) (hcx : xs.contains c = true) (hp : p ∈ X.pn) (hc : p.2.cls = .ref (G.ca c)) (hf : ∃ fv, p.2.data = .fields fv) (hd : DictAt X.s_0.heap p.2.dict) (hx : X.ex = [])
    (h0 : (0 : Nat) ∈ G.pk) (hv0 : G.pv 0 = some (.ref p.1)) (hm : X.mg "isinstance" = none) (hg : X.mg "ValueError" = none) (gi : Gl X "isinstance" := by rfl) (gl : Gl X "ValueError" := by rfl)
    (hN : X.N[0]? = some y := by rfl) (hv : Vis X.env.scope y := by first | exact Or.inl rfl | exact Or.inr (Or.inl rfl) | exact Or.inr (Or.inr rfl)) (dy : (y == ("__debug__" : PySem.Str)) = false := by decide) (dcy : (y == ("__classdict__" : PySem.Str)) = false := by decide)
    (he : starEach [.Name y p1, .Name "ValueError" p2] X.env = (false, eval (.Name y p1) X.env) :: starEach [.Name "ValueError" p2] X.env := by rfl) (he2 : starEach [.Name "ValueError" p2] X.env = (false, eval (.Name "ValueError" p2) X.env) :: starEach [] X.env := by rfl) (hpl : (backTo pos (starEach [.Name "ValueError" p2] X.env)).any (·.1) = false := by rfl) :
    TrE X G W (.Call (.Name "isinstance" p0) [.Name y p1, .Name "ValueError" p2] [] pos) (eCon (.bl true)) :=
  ⟨_, pe_callB (call_isP (V.ec c hcx) hp hc hf hd hx) gi hm (by decide +kernel) (pa_cons (pe_var hN hv dy dcy) (pa_cons (pe_bltn (v := .ty "ValueError") gl hg PyProof.Rows.Boot.«ValueError» rfl (by decide) (by decide)) pa_nil he2) he) (by decide) (by decide) he hpl,
    fun F H σ S T Q st z => ⟨.ref p.1, by rw [st.pi 0 h0, hv0], .ty "ValueError", .type "ValueError", true, rfl, fun u r => r, V.ve c hcx, KE.val z st (.bl _)⟩⟩
/-- [e for i in range(n) if c] there -/
theorem tr_lcH {p : Addr × Obj} {n : Int} {a : Nat} {elt tg : Expr} {ifs : List Expr} {scope : Scope} {own : List (PySem.Str × Nat)} {q1 q2 q3 pos : Pos} {t : Tg} {c : T} {e : E} (hot : Hot1 X.A p) (hp : p ∈ X.pn) (nd : X.N.Nodup) (hm : X.mg "range" = none) (ok : BlkOk X.N X.env.scope scope own)
    (hg : ∀ (s : Shared) (H : Hp) (C : Addr) (cl : List (PySem.Str × Addr)) (fp : List Addr), TrG (blkH X p s H scope (compEnvC scope cl C X.env) fp) G tg t)
    (ht : ∀ (s : Shared) (H : Hp) (C : Addr) (cl : List (PySem.Str × Addr)) (fp : List Addr), TrTs (blkH X p s H scope (compEnvC scope cl C X.env) fp) G W0 ifs c)
    (he : ∀ (s : Shared) (H : Hp) (C : Addr) (cl : List (PySem.Str × Addr)) (fp : List Addr), TrE (blkH X p s H scope (compEnvC scope cl C X.env) fp) G W0 elt e) (hn : n.natAbs < limN := by decide) (gr : Gl X "range" := by rfl) (hst : starEach [.Constant (.int n) a q1] X.env = [(false, eval (.Constant (.int n) a q1) X.env)] := by rfl)
    (hs : ∀ x, foldedSetIterable (.Call (.Name "range" q2) [.Constant (.int n) a q1] [] q3) X.env x = pure x := by intro _; rfl) (hpn : (own.map (·.2)).all (fun v => !G.pk.contains v) = true := by rfl) :
    TrE X G W (.ListComp elt [⟨tg, .Call (.Name "range" q2) [.Constant (.int n) a q1] [] q3, ifs, 0⟩] scope pos) (eLc (itRange1 (eCon (.int n))) t (own.map (·.2)) c e) := by
  refine ⟨_, pe_lcH hot hp nd (pi_range1H gr hm (pa_cons pe_int pa_nil hst) hst) ok (fun s H A cl fp => (hg s H A cl fp).can) (fun s H A cl fp => ht s H A cl fp) (fun s H A cl fp => (he s H A cl fp).can) hs, den_lc (pins_ok hpn) fun F H σ S T R st z => ?_⟩
  have z : PR G W F H σ T (KI G F H σ T R) ((if n.natAbs < limN then M.pure (rangeL 0 n.toNat) else fun _ => .bad) S) := z
  rw [if_pos hn] at z
  have z : KI G F H σ T R (rangeL 0 n.toNat) S := z
  have l : limN = 4611686018427387904 := rfl
  exact ⟨n, rfl, by omega, by omega, z _ F H T (Step.refl F H T) st walkD_rng⟩
end
/-- a text by its signs -/
def strOf (s : List Nat) : PySem.Str := ⟨s.toArray⟩
theorem strOf_codes (s : List Nat) : (strOf s).cps.toList = s := by simp [strOf]
theorem strOf_eq {z : PySem.Str} {s : List Nat} (h : z.cps.toList = s) : z = strOf s := by
  cases z with
  | mk a => subst h; simp [strOf]
/-- what _law_kind_of promises where an exception of the class c is handled -/
structure KindFn (P : Program) (w : World) (K : PySem.W.Frag) (mg : PySem.Str → Option Value) (base : Heap) (ca : Nat → Addr) (xs : List Nat) (j : Nat) (f : Addr) (fd : FuncData) : Prop where
  run : ∀ (A : Around) (outer : List Env) (s : Shared) (H : Hp) (args : PySem.Args) (us : List Value) (Q : VK) (E : XK) (p : Addr × Obj) (c : Nat), RoomH j A → Hot1 A p → PinOk outer H s p → xs.contains c = true → p.2.cls = .ref (ca c) → DictAt s.heap p.2.dict →
    Env0 P w K mg base A outer s H → BindsTo s fd args ((["_law_e"] : List PySem.Str).zip us) → us = [.ref p.1] → (∀ H', Same H H' → Q (.str (strOf (kindT c))) H') → codeAny (model P w) A (.call (.ref f) args) (CR (L2N.CX P w) outer P w H s Q E) s
theorem kind_fn {P : Program} {w : World} {G : Cfg} {mg : PySem.Str → Option Value} {base : Heap} {x qual : PySem.Str} {params : Arguments} {body : List Stmt} {scope : Scope} {dvs : List V} {kws : List (PySem.Str × V)} {f : Addr} {fd : FuncData} {N : List PySem.Str} {xs : List Nat}
    (FD : FunD G.K x qual params body scope dvs kws f fd) (S : FnScope N ["_law_e"] scope) (hN : N.length = 4) (hxs : xs.all xAll.contains = true)
    (hb : ∀ (cdv : Value) (A : Around) (outer : List Env) (s : Shared) (H : Hp) (E : XK) (p : Addr × Obj) (c : Nat), Hot1 A p → xs.contains c = true → p.2.cls = .ref (G.ca c) → DictAt s.heap p.2.dict →
      TrSs (cxH (L2N.CX P w) P w G.K mg base N qual scope f cdv A outer s H E p) { G with pk := [0], pv := fun _ => some (.ref p.1) } W0 body (mKind c)) :
    KindFn P w G.K mg base G.ca xs 1 f fd := by
  refine ⟨fun A outer s H args us Q E p c room hot pin hcx hcl hdd e0 bd hus q => ?_⟩
  subst hus
  refine hot_fn (vs := [.ref p.1]) (k := 0) FD S room pin e0 bd (.cons rfl .nil) rfl fun cdv => ?_
  obtain ⟨t, pt, den⟩ := hb cdv A outer s H E p c hot hcx hcl hdd
  refine ⟨t, pt, ?_⟩
  have st : St' { G with pk := [0], pv := fun _ => some (.ref p.1) } H H (L2.start N [.ref p.1]) [none, none, none, none] nil0 := by
    refine ⟨fun i hi => ?_, Same.refl H, ?_, fun _ => Nat.zero_le _, fun _ _ => rfl⟩
    · have e : i = 0 := by simpa using hi
      subst e
      rfl
    · have e : L2.start N [V.ref p.1] = [some (.ref p.1), none, none, none] := by
        unfold L2.start
        rw [hN]
        rfl
      rw [e]
      exact .cons (f := nil0) (g := nil0) (.no _) (.cons (f := nil0) (g := nil0) (.no _) (.cons (f := nil0) (g := nil0) (.no _) (.cons (f := nil0) (g := nil0) (.no _) .nil)))
  obtain ⟨S1, hk⟩ := kind_run (c := c) (List.all_eq_true.mp hxs c (by simpa using hcx))
  refine den H H _ _ nil0 _ st ?_
  rw [hk]
  intro v σ' F' H' T' g s' st' o le di
  have o : Own _ F' H' .fz v (.str (kindT c)) g := o
  cases o with
  | fz r =>
    generalize es : kindT c = sx at r
    cases r with
    | str z => rw [strOf_eq es.symm]; exact q H' fun a o e => s'.fr a o rfl e
end TB
namespace TB
open PySem PySem.Spec PyProof.Rows L2 L2H
def QuE (X : Cx) (P : L2.St → Hp → Prop) (e : Expr) (v : V) : Prop := ∃ t, PE X e t ∧ ∀ σ H Q, P σ H → (∀ H', Same H H' → Q v H') → t σ H Q
/-- the exception x, of the class cls, at a, in the slot i -/
def SeesX (G : Cfg) (i : Nat) (a : Addr) (x : Xc) (cls : Value) (d : Option Addr) (σ : L2.St) (H : Hp) : Prop := σ[i]? = some (some (.ref a)) ∧ ExcR G x cls d H
theorem SeesX.same {G : Cfg} {i : Nat} {a : Addr} {x : Xc} {cls : Value} {d : Option Addr} {σ : L2.St} {H H' : Hp} (h : SeesX G i a x cls d σ H) (e : Same H H') : SeesX G i a x cls d σ H' := by
  refine ⟨h.1, h.2.1, h.2.2.imp id fun ⟨dd, j, h1, h2, h3⟩ => ⟨dd, j, h1, h2, e _ _ h3⟩⟩
section
variable {X : Cx} {G : Cfg} {i : Nat} {a : Addr} {x : Xc} {cls : Value} {d : Option Addr}
theorem qx_str {P : L2.St → Hp → Prop} {z : PySem.Str} {j} {pos : Pos} : QuE X P (.Constant (.str z) j pos) (.str z) := ⟨_, pe_str, fun σ H Q _ q => q H (Same.refl H)⟩
theorem qx_add {e f : Expr} {z w : PySem.Str} {pos : Pos} (h : QuE X (SeesX G i a x cls d) e (.str z)) (g : QuE X (SeesX G i a x cls d) f (.str w)) (hl : z.length + w.length ≤ sizeLine) : QuE X (SeesX G i a x cls d) (.BinOp e .Add f pos) (.str (z ++ w)) := by
  obtain ⟨t, p, dt⟩ := h
  obtain ⟨u, q, du⟩ := g
  refine ⟨_, pe_op op_add_str p q, fun σ H Q s k => dt σ H _ s fun H1 e1 => du σ H1 _ (s.same e1) fun H2 e2 => ⟨z, w, rfl, rfl, hl, k H2 (e1.trans e2)⟩⟩
/-- e.f -/
theorem qx_fld {oe : Obj} {pn : List (Addr × Obj)} {n f : PySem.Str} {j : Int} {np pos : Pos} (T : XfC X.K (G.ca x.c)) (hno : PySem.W.findIn X.K (.ref (G.ca x.c)) f = some none) (hz : L2N.Zn cls d oe) (hf : ∃ fv, oe.data = .fields fv) (hx : x.arg = .int j) (hn : G.cn x.c = [f])
    (hN : X.N[i]? = some n) (hv : Vis X.env.scope n := by first | exact Or.inl rfl | exact Or.inr (Or.inl rfl) | exact Or.inr (Or.inr rfl)) (dn : (n == ("__debug__" : PySem.Str)) = false := by decide) (dcn : (n == ("__classdict__" : PySem.Str)) = false := by decide)
    (hb : attributeBase (.Name n np) f X.env (eval (.Name n np) X.env) = eval (.Name n np) X.env := by rfl) : QuE (X.suite a ((a, oe) :: pn)) (SeesX G i a x cls d) (.Attribute (.Name n np) f pos) (.int j) := by
  refine ⟨_, pe_xf T hno hz.zc hf (pe_var (X := X.suite a ((a, oe) :: pn)) hN hv dn dcn) hb, fun σ H Q s k => ⟨.ref a, s.1, rfl, s.2.1, ?_⟩⟩
  rcases s.2.2 with ⟨e, _⟩ | ⟨dd, j2, e1, e2, e3⟩
  · rw [hx] at e
    cases e
  · rw [hx] at e1
    cases e1
    refine ⟨dd, _, .int j, e2, e3, ?_, k H (Same.refl H)⟩
    rw [hn]
    simp [List.lookup]
/-- _law_kind_of(e) -/
theorem q_kind {oe : Obj} {pn : List (Addr × Obj)} {xs : List Nat} {n : PySem.Str} {f : Addr} {fd : FuncData} {k : Nat} {np p pos : Pos} (V : KindFn X.prog X.w X.K X.mg X.base G.ca xs 1 f fd) (room : Room k X.A) (hk1 : 1 ≤ k) (hz : L2N.Zn cls d oe) (hf : ∃ fv, oe.data = .fields fv) (hcx : xs.contains x.c = true)
    (hm : X.mg "_law_kind_of" = some (.ref f)) (hk : PySem.W.keepIn X.K (.ref f) = true) (hb : Binds X.K fd ["_law_e"] []) (hN : X.N[i]? = some n) (hg : Gl X "_law_kind_of" := by rfl)
    (hv : Vis X.env.scope n := by first | exact Or.inl rfl | exact Or.inr (Or.inl rfl) | exact Or.inr (Or.inr rfl)) (dn : (n == ("__debug__" : PySem.Str)) = false := by decide) (dcn : (n == ("__classdict__" : PySem.Str)) = false := by decide)
    (he : starEach [.Name n np] X.env = (false, eval (.Name n np) X.env) :: starEach [] X.env := by rfl) (hpl : (backTo pos (starEach [] X.env)).any (·.1) = false := by rfl) :
    QuE (X.suite a ((a, oe) :: pn)) (SeesX G i a x cls d) (.Call (.Name "_law_kind_of" p) [.Name n np] [] pos) (.str (strOf (kindT x.c))) := by
  refine ⟨fun σ H Q => SeesX G i a x cls d σ H ∧ ∀ H', Same H H' → Q (.str (strOf (kindT x.c))) H', ⟨fun pins s σ H Q I hq => ?_⟩, fun σ H Q s q => ⟨s, q⟩⟩
  obtain ⟨sx, q⟩ := hq
  refine wpAny_Call_Name_kw (ld_glob I hg hm ?_ (by decide))
  have pa : PA (X.suite a ((a, oe) :: pn)) [.Name n np] (tCons (tVar i) tNil) := pa_cons (pe_var (X := X.suite a ((a, oe) :: pn)) hN hv dn dcn) pa_nil he
  refine PySem.W.callWith_K (h₀ := X.base) I.ok.mod.kin hk (thn (pa.run pos pins s σ H (fun vs H1 => vs = [.ref a] ∧ H1 = H) I ⟨.ref a, sx.1, rfl, rfl⟩) fun us s1 ⟨vs, H1, I1, r, ev, eH⟩ => ⟨I1.kIn, ?_⟩) he hpl
  subst ev
  subst eH
  cases r with
  | cons r0 rr =>
    cases rr
    cases r0
    have P1 := I1.pin (a, oe) (List.mem_append_left _ List.mem_cons_self)
    have hot : Hot1 (X.suite a ((a, oe) :: pn)).A (a, oe) := ⟨rfl, by obtain ⟨fv, e⟩ := hf; exact ⟨fv, e, hz.2.2 fv e⟩⟩
    have pin : PinOk (X.suite a ((a, oe) :: pn)).stack H1 s1 (a, oe) := ⟨P1.1, P1.2.1, fun hm => (List.mem_cons.mp (I1.stkSub a hm)).elim P1.2.2.1 P1.2.2.2.1, P1.2.2.2.2⟩
    have dict : DictAt s1.heap oe.dict := by
      rw [hz.2.1]
      rcases sx.2.2 with ⟨_, e⟩ | ⟨dd, j, _, e, hd⟩
      · rw [e]; trivial
      · rw [e]
        obtain ⟨mA, ⟨o, es, ep, ho, _⟩, _⟩ := I1.hok dd _ hd
        exact ⟨o, ho⟩
    have b := hb s1 [.ref a] I1.kIn rfl
    refine wpAny_call (codeAny_mono (V.run (X.suite a ((a, oe) :: pn)).A (X.suite a ((a, oe) :: pn)).stack s1 H1 ⟨[.ref a], []⟩ [.ref a] Q (fun _ _ _ => False) (a, oe) x.c (roomH_mark (room.mono hk1) _) hot pin hcx (hz.1.trans sx.2.1) dict I1.env0 b rfl q) fun r z hq => ?_)
    cases r with
    | error e =>
      obtain ⟨_, _, _, _, _, _, _, _, _, _, _, _, y⟩ := hq
      exact y.elim
    | ok fl =>
      cases fl with
      | ret u => exact I1.after hq
      | next => exact False.elim hq
      | brk => exact False.elim hq
      | cont => exact False.elim hq
end
def tRs (G : Cfg) (i j : Nat) (a : Addr) (x : Xc) (cls : Value) (d : Option Addr) (r : Rs) : TS := fun D σ H => SeesX G i a x cls d σ H ∧ ∀ H', Same H H' → match r with
  | .one e => ∀ v, (∀ F, Rep G F v e) → D.nx (σ.set j (some v)) H'
  | .tup es => ∀ vs, (∀ F, Reps G F vs es) → ∀ p, H' p = none → D.nx (σ.set j (some (.ref p))) (upd H' p (.tup vs))
section
variable {X : Cx} {G : Cfg} {i j : Nat} {a : Addr} {x : Xc} {cls : Value} {d : Option Addr}
theorem rs_one {y : PySem.Str} {e : Expr} {v : V} {de : D} {p pos : Pos} (nd : X.N.Nodup) (h : QuE X (SeesX G i a x cls d) e v) (hr : ∀ F, Rep G F v de) (hj : X.N[j]? = some y) (hx : Loc X.env.scope y := by first | exact Or.inl rfl | exact Or.inr rfl) (hs : swapsWith e (some (.Name y p)) pos.line X.env = pure false := by rfl)
    (hf : X.fn y = true ∨ X.env.scope.names.lookup y = some .local := by first | exact .inl rfl | exact .inr rfl) : PSs X [.Assign [.Name y p] e pos] (tRs G i j a x cls d (.one de)) := by
  obtain ⟨t, q, dt⟩ := h
  have b := pss_one (ps_set nd hj hx q hs hf)
  exact ⟨fun pins s σ H D I ⟨sx, k⟩ => b.run pins s σ H D I (dt σ H _ sx fun H' e => k H' e v hr)⟩
end
inductive ClsT (X : Cx) (G : Cfgx) (xs : List Nat) : List ExceptHandler → List Cl → Prop
  | nil : ClsT X G xs [] []
  | cons {q : Cl} {cn n : PySem.Str} {b₁ : Stmt} {ss : List Stmt} {np ep : Pos} {hds : List ExceptHandler} {qs : List Cl} (hi : X.N[q.i]? = some n) (hl : X.env.kindOf n = some .local) (hc : Names X cn (.ref (G.ca q.t))) (ht : q.t ∈ ([10, 22, 23] : List Nat)) (pi_ : G.pk.contains q.i = false) (pj : G.pk.contains q.j = false)
      (hu : ∀ (a : Addr) (oe : Obj) (cls : Value) (d : Option Addr) (pn : List (Addr × Obj)) (x : Xc), L2N.Zn cls d oe → (∃ fv, oe.data = .fields fv) → xs.contains x.c = true → xSub x.c q.t = true → (q.r x).ok = true → PSs (X.suite a ((a, oe) :: pn)) (b₁ :: ss) (tRs G q.i q.j a x cls d (q.r x))) (rest : ClsT X G xs hds qs) :
      ClsT X G xs (.ExceptHandler (some (.Name cn np)) (some n) (b₁ :: ss) ep :: hds) (q :: qs)
/-- the reading of a clause, whatever the exception is -/
def tCl (G : Cfg) (xs : List Nat) (q : Cl) : Addr → Value → Option Addr → TS := fun a cls d D σ H => ∃ x : Xc, xs.contains x.c = true ∧ xSub x.c q.t = true ∧ (q.r x).ok = true ∧ tRs G q.i q.j a x cls d (q.r x) D σ H
def clK (G : Cfg) (xs : List Nat) (q : Cl) : ClK := ⟨.ref (G.ca q.t), q.i, tCl G xs q⟩
theorem ClsT.ok {X : Cx} {G : Cfgx} {xs : List Nat} {hds : List ExceptHandler} {qs : List Cl} (h : ClsT X G xs hds qs) : ClOk X hds (qs.map (clK G xs)) := by
  induction h with
  | nil => exact .nil
  | cons hi hl hc ht pi_ pj hu rest ih => exact .cons hi hl hc (fun a oe cls d pn hz hf => ⟨fun pins s σ H D I ⟨x, h1, h2, h3, h4⟩ => (hu a oe cls d pn x hz hf h1 h2 h3).run pins s σ H D I h4⟩) ih
theorem St'.same {G : Cfgx} {F H H' : Hp} {σ : L2.St} {S : List Slot} {T : Cnt} (st : St' G F H σ S T) (e : Same H H') : St' G F H' σ S T ∧ Step F H T F H' T :=
  ⟨⟨st.pi, st.sub.trans e, st.sl.mono (Same.refl F) fun a u _ h => e _ _ h, st.le, st.di⟩, ⟨Same.refl F, fun a u _ h => e _ _ h, fun _ n => .inl n, fun a h n => absurd h n, fun a h n => by
    cases q : H a with
    | none => exact h q
    | some o => rw [e _ _ q] at n; cases n⟩⟩
theorem tr_try {X : Cx} {G : Cfgx} {W : WX} {k : Nat} {xs : List Nat} {body : List Stmt} {h₁ : ExceptHandler} {hds : List ExceptHandler} {qs : List Cl} {mb : St} {pos : Pos} (C : Cok X G W k) (XF : XFacts X.K G.ca xs) (hb : ∀ (W' : WX) (pn : List (Addr × Obj)) (xe : Value → Shared → Prop), Cok (X.tr pn xe) G W' k → TrSs (X.tr pn xe) G W' body mb)
    (hq : ClsT X G xs (h₁ :: hds) qs) (st : X.stack = X.env :: X.outer := by rfl) (fr : X.env.frame = some X.env.locals := by rfl) : TrS X G W (.Try body (h₁ :: hds) [] [] pos) (sTry xs mb qs) := by
  refine ⟨_, ps_try_cl (tb := fun W' => tM G W' mb) st fr C.nd C.tk (fun W' pn xe tk po => (hb W' pn xe ⟨C.hK, tk, po, C.calm, C.room, C.nd⟩).can) hq.ok, fun F H σ S T D s0 z => ⟨F, S, T, s0, ?_⟩⟩
  unfold sTry at z
  cases e : mb S with
  | bad => rw [e] at z; exact z
  | ok f S1 => rw [e] at z; exact z
  | exc x S1 =>
    rw [e] at z
    intro σ1 cls dx F1 H1 T1 s1 st1 ex
    change PRs G W F H T (KS G F H T D) (if xs.contains x.c = true then hdl x qs S1 else .bad) at z
    by_cases hx : xs.contains x.c = true
    case neg => rw [if_neg hx] at z; exact z.elim
    rw [if_pos hx] at z
    clear e
    generalize h₁ :: hds = hs at hq
    induction hq with
    | nil => exact z σ1 cls dx F1 H1 T1 s1 st1 ex
    | @cons q cn n b₁ ss np ep hds qs hi hl hc ht pi_ pj hu rest ih =>
      refine ⟨xSub x.c q.t, by rw [ex.1]; exact XF.ct x.c q.t hx ht, fun hs a na => ?_, fun hs => ih ?_⟩
      · unfold hdl at z
        rw [if_pos hs] at z
        by_cases ok : (q.r x).ok = true ∧ q.i < S1.length ∧ q.j < S1.length
        case neg => rw [if_neg ok] at z; exact z.elim
        rw [if_pos ok] at z
        obtain ⟨ok, li, lj⟩ := ok
        have z : KS G F H T D .nx (((S1.set q.i none).set q.j (some (.fz, (q.r x).d))).set q.i none) := z
        obtain ⟨T2, st2, l2⟩ := st1.drop (i := q.i) (pin_ok pi_) (some (.ref a))
        refine ⟨x, hx, hs, ok, ⟨by have := st1.sl.len; show (σ1.set q.i (some (V.ref a)))[q.i]? = _; rw [List.getElem?_set_self (by omega)], ex⟩, fun H3 e3 => ?_⟩
        have fin : ∀ {F4 H4 : Hp} {v : V} {T4 : Cnt}, Step F H T F4 H4 T4 → St' G F4 H4 (σ1.set q.i (some (.ref a))) (S1.set q.i none) T4 → Rep G F4 v (q.r x).d → D.nx (((σ1.set q.i (some (.ref a))).set q.j (some v)).set q.i none) H4 := fun {F4 H4 v T4} s4 st4 r4 => by
          obtain ⟨T5, st5, l5⟩ := st4.set (i := q.j) (f := nil0) (by rw [List.length_set]; exact lj) (pin_ok pj) (.fz r4) (fun b => st4.le b) fun _ _ => rfl
          obtain ⟨T6, st6, l6⟩ := st5.drop (i := q.i) (pin_ok pi_) none
          exact z _ F4 H4 T6 (s4.less fun b => by have := l5 b; have := l6 b; simp only [nil0] at *; omega) st6
        obtain ⟨st3, s3⟩ := st2.same e3
        have s03 : Step F H T F1 H3 T2 := (s1.less l2).trans s3
        generalize hr : q.r x = r at ok fin
        cases r with
        | one de => exact fun v rv => fin s03 st3 (rv F1)
        | tup es =>
          intro vs rvs w hw
          obtain ⟨st4, s4⟩ := st3.newF (o := .tup vs) hw
          exact fin (s03.trans s4) st4 (.tup (.inl (.inl upd_same)) (rvs _))
      · unfold hdl at z
        rw [if_neg (by rw [hs]; decide)] at z
        exact z
end TB
namespace TB
open PySem PySem.Spec PyProof.Rows L2
section
end
theorem rep_strOf {G : Cfg} {F : Hp} (s : List Nat) : Rep G F (.str (strOf s)) (.str s) := by
  have h := Rep.str (G := G) (F := F) (strOf s)
  rwa [strOf_codes] at h
theorem tr_addK {X : Cx} {G : Cfgx} {W : WX} {a b : Expr} {ma mb : E} {pos : Pos} (hK : X.K = G.K) (ha : TrE X G W a ma) (hb : TrE X G W b mb) : TrE X G W (.BinOp a .Add b pos) (eOp fAdd ma mb) := by
  obtain ⟨r, ho, hs⟩ := cls_add (X := X) (G := G) hK
  exact tr_op ho hs ha hb
theorem tr_ixK {X : Cx} {G : Cfgx} {W : WX} {a b : Expr} {ma mb : E} {pos : Pos} (hK : X.K = G.K) (ha : TrE X G W a ma) (hb : TrE X G W b mb) (hp : PlainIx b := by exact fun _ _ => rfl) : TrE X G W (.Subscript a b pos) (eOp fIx ma mb) := by
  obtain ⟨r, ho, hs⟩ := cls_ix (X := X) (G := G) hK
  exact tr_ix ho hs ha hb hp
end TB
namespace TB
open PySem PySem.Spec PyProof.Rows L2
section
end
section
end
end TB
namespace TB
/-- the digits of a number -/
def strI (i : Int) : List Nat := (toString i).toList.map Char.toNat
def fStrI : List D → Option KD
  | [.int i] => if i.natAbs < 10 ^ 30 then kz (.str (strI i)) else none
  | _ => none
def rTxt (x : Xc) : Rs := match x.arg with
  | .int i => if i.natAbs < 10 ^ 30 then .one (.str (kindT x.c ++ [32] ++ strI i)) else .one (.lst [])
  | _ => .one (.lst [])
end TB
namespace TB
open PySem PySem.Spec PyProof.Rows L2
section
end
section
end
section
variable {X : Cx} {G : Cfgx} {W : WX} {k : Nat}
theorem strI_rel (i : Int) : (PySem.Str.ofString (toString i)).cps.toList = strI i := by
  rw [PySem.Str.ofString_eq_toList]
  rfl
theorem cls_strI : ∃ r, CallR X (.type "str") r ∧ SN G r fStrI := by
  refine ⟨_, call_str_int, fun F H σ S T xs ds kd Q st rs e k => ?_⟩
  cases rs with
  | nil => simp [fStrI] at e
  | cons r1 r2 =>
    cases r2 with
    | cons _ _ => cases r1 <;> simp [fStrI] at e
    | nil =>
      cases r1 <;> simp only [fStrI, kz, reduceCtorEq] at e
      rename_i i
      split at e
      · rename_i hz
        cases e
        refine ⟨i, rfl, ?_, KE.val k st (strI_rel i ▸ .str _)⟩
        by_cases z : i.natAbs = 0
        · rw [z]; decide
        · have h1 := Nat.lt_of_lt_of_le hz (show (10 : Nat) ^ 30 ≤ 2 ^ 1920 by decide +kernel)
          exact (Nat.log2_lt z).mpr h1
      · cases e
theorem tr_strI {e : Expr} {ms : List E} {p pos : Pos} (hm : X.mg "str" = none) (ha : TrA X G W [e] ms) (hg : Gl X "str" := by rfl) (he : starEach [e] X.env = (false, eval e X.env) :: starEach [] X.env := by rfl) : TrE X G W (.Call (.Name "str" p) [e] [] pos) (eApp fStrI ms) := by
  obtain ⟨r, h1, h2⟩ := cls_strI (X := X) (G := G)
  exact tr_callT h1 h2 hm (by decide +kernel) ha hg (by decide) (by decide) he rfl
end
end TB
namespace TB
open PySem PySem.Spec PyProof.Rows L2
section
end
section
end
end TB
namespace HT
open PySem PySem.Spec PyProof.Rows PySem.Calls
section
end
end HT
namespace L2
open PySem PySem.Spec PyProof.Rows
section
end
end L2
namespace TB
open PySem PySem.Spec PyProof.Rows L2
section
end
end TB
namespace TB
open PySem PySem.Spec PyProof.Rows L2
/-- what is asked of the base, an own class: its __init__ is ValueError's -/
structure BaseC (K : PySem.W.Frag) (B : Addr) : Prop where
  rd : PySem.W.readsIn K B (.type "type") = true
  ga : PySem.W.specialIn K (.ref B) "__getattribute__" = some (some (.builtin "type.__getattribute__"))
  at_ : PySem.W.findCls K (.ref B) (.type "type") "__init__" = some (.val (.builtin "ValueError.__init__"))
section
variable {X : Cx} {e : Expr} {es : List Expr} {ta : TA} {x : PySem.Str} {p1 p2 pos : Pos} {B : Addr}
theorem pe_binit {pl : Sem Bool} (hB : BaseC X.K B) (hg : Gl X x) (hm : X.mg x = some (.ref B)) (ha : PA X (e :: es) ta) (hdb : (x == ("__debug__" : PySem.Str)) = false := by decide)
    (hc : eval (.Call (.Attribute (.Name x p1) "__init__" p2) (e :: es) [] pos) X.env = (do
      let recv ← eval (.Name x p1) X.env
      standAt p2.atName
      let (g, first) ← holding [recv] (getMethod recv "__init__" pl)
      callWith pos g first (backTo pos (starEach (e :: es) X.env)) (backToKw pos (keywordEach [] X.env))) := by rfl)
    (he : starEach (e :: es) X.env = (false, eval e X.env) :: starEach es X.env := by rfl) (hpl : (backTo pos (starEach es X.env)).any (·.1) = false := by rfl) :
    PE X (.Call (.Attribute (.Name x p1) "__init__" p2) (e :: es) [] pos) (tVeI X.K ta) := by
  constructor
  intro pins s σ H Q I h
  refine PySem.W.methodCall_KW (ld_glob I hg hm ?_ hdb) hc
  refine PySem.W.method_cls I.kIn hB.ga (PySem.W.cls_value I.kIn hB.rd hB.at_ (by decide +kernel) ?_)
  show wpAny _ _ (callWith pos (Value.builtin "ValueError.__init__") [] (backTo pos (starEach (e :: es) X.env)) []) _ _ _
  refine PyProof.Rows.callWith_method1 (thn (ha.run pos pins _ σ H _ (I.tok _) h) ?_) he hpl
  rintro us s1 ⟨vs, H1, I1, r1, a, C, ws, rfl, hl, T, ea, q⟩
  cases r1 with
  | @cons _ u0 _ ur ra rw' =>
    cases (show u0 = Value.ref a from ra)
    exact oinit_ok T I1 ea (by have := Paired.length rw'; rw [sizeLine_eq]; omega) fun s' J => ⟨.non, H1, J, rfl, q⟩
end
def spInit (C : Addr) (fld : PySem.Str) : Sp := fun vs H Q _ => ∃ a y, vs = [.ref a, y] ∧ H a = some (exo a C none) ∧ ∀ dx, H dx = none → dx ≠ a → Q .non (upd (upd H dx (exd dx [(fld, y)])) a (exo a C (some dx)))
section
variable {P : Program} {w : World} {K : PySem.W.Frag} {mg : PySem.Str → Option Value} {base : Heap} {x qual m fld : PySem.Str} {params : Arguments} {body : List Stmt} {scope : Scope} {f C : Addr} {fd : FuncData} {k : Nat}
theorem init_fn (FD : FunD K x qual params body scope [] [] f fd) (S : FnScope ["self", fld] ["self", fld] scope) (T : OexC K C) (hno : PySem.W.findIn K (.ref C) fld = some none)
    (hb : ∀ (cdv : Value) (A : Around) (outer : List Env) (s : Shared) (H : Hp) (E : XK), PSs (cxOf (L2N.CX P w) P w K mg base ["self", fld] qual scope f cdv A outer s H E) body (tSeq (tDrop (tVeI K (tCons (tVar 0) (tCons (tC (.str m)) tNil)))) (tOst K fld (tVar 0) (tVar 1)))) :
    FnOk P w K mg base (L2N.CX P w) (k + 1) f fd ["self", fld] (spInit C fld) := by
  refine FD.ok S (fun vs H Q E ⟨a, y, e, _⟩ => by rw [e]; rfl) fun cdv A outer s H vs Q E hr ⟨a, y, e, ha, hq⟩ => ⟨_, hb cdv A outer s H E, ?_⟩
  subst e
  refine ⟨.ref a, rfl, a, C, [.str m], rfl, (by show 1 ≤ 1000; decide), T, ha, ?_⟩
  refine ⟨y, rfl, .ref a, rfl, a, C, rfl, T, hno, .inl ⟨ha, fun dx n ne => hq dx n ne⟩⟩
end
section
variable {X : Cx} {e : Expr} {es : List Expr} {ta : TA} {x fld : PySem.Str} {p pos : Pos} {C fI : Addr} {k : Nat} {fd : FuncData} {ps : List PySem.Str} {sp : Sp}
theorem pmk_ini (T : OexC X.K C) (iC : PySem.W.findIn X.K (.ref C) "__init__" = some (some (.ref fI))) (tI : PySem.W.typeIn X.K (.ref fI) = some (.type "function"))
    (F1 : FnOk X.prog X.w X.K X.mg X.base (L2N.CX X.prog X.w) k fI fd ps sp) (hr : Room (k + 1) X.A) (hb : Binds X.K fd ps []) (hg : Gl X x) (hm : X.mg x = some (.ref C)) (ha : PA X (e :: es) ta)
    (hdb : (x == ("__debug__" : PySem.Str)) = false := by decide) (he : starEach (e :: es) X.env = (false, eval e X.env) :: starEach es X.env := by rfl) (hpl : (backTo pos (starEach es X.env)).any (·.1) = false := by rfl) :
    L2N.PMk X (.Call (.Name x p) (e :: es) [] pos) (tMkO C sp [] ta) := by
  intro pins s σ H Q I h
  obtain ⟨nm, q, N, bs, bm, sn, sub, ab, col, dd, k0, k1, k2, k3, k5, hC, hbm⟩ := T.cls
  refine wpAny_Call_Name_kw (ld_glob I hg hm ?_ hdb)
  refine PySem.W.callWith_K (h₀ := X.base) I.ok.mod.kin T.kC (thn (ha.run pos pins s σ H _ I h) ?_) he hpl
  rintro us s1 ⟨vs, H1, I1, r1, hz, q1⟩
  refine ⟨I1.kIn, ?_⟩
  show wpAny _ _ (call (.ref C) us) _ _ _
  obtain ⟨hp, g, dr, tk, os⟩ := s1
  have hn : H1 (hp.objs.size + 1) = none := I1.hok.fresh (Nat.le_succ _)
  have hq := q1 (hp.objs.size + 1) hn
  have kk : ∀ b o, hp.get? b = some o → ((hp.push (PySem.W.kdv_tup us)).push (PySem.HandSPX.excO C hp.objs.size)).get? b = some o := fun b o z => Heap.get?_push_of_some _ (Heap.get?_push_of_some _ z)
  have hget : ((hp.push (PySem.W.kdv_tup us)).push (PySem.HandSPX.excO C hp.objs.size)).get? (hp.objs.size + 1) = some (PySem.HandSPX.excO C hp.objs.size) := by heap_get
  have I2 := I1.laid (t' := tk) (a := hp.objs.size + 1) (o := exo (hp.objs.size + 1) C none) kk (Nat.le_succ _) (exo_ok hget)
  have r2 : Vals (V.ref (hp.objs.size + 1) :: (vs ++ [])) (Value.ref (hp.objs.size + 1) :: us) := .cons rfl (by simpa using r1)
  have hl : (Value.ref (hp.objs.size + 1) :: us).length = ps.length := by
    have z := r2.length
    rw [F1.len _ _ _ _ hq] at z
    exact z.symm
  have hus : us.length ≤ sizeLine := by
    have z := Paired.length r1
    rw [sizeLine_eq]; omega
  have bnd : BindsTo ⟨(hp.push (PySem.W.kdv_tup us)).push (PySem.HandSPX.excO C hp.objs.size), g, dr, tk, os⟩ fd ⟨Value.ref (hp.objs.size + 1) :: us, []⟩ (ps.zip (Value.ref (hp.objs.size + 1) :: us)) := by
    have z := hb ⟨(hp.push (PySem.W.kdv_tup us)).push (PySem.HandSPX.excO C hp.objs.size), g, dr, tk, os⟩ (Value.ref (hp.objs.size + 1) :: us) I2.kIn (by simpa using hl)
    simpa using z
  refine wpAny_call (PySem.HandSPX.call_own F.excBase_ValueError (fun Y => PySem.HandSPX.refsVE_contains Y bm hbm) (I1.kIn _ _ hC) (PySem.W.looks_findIn I1.kIn iC) (fun self => PySem.W.bind_fn I1.kIn self tI) hus
    (codeAny_mono (F1.run _ X.stack _ _ ⟨Value.ref (hp.objs.size + 1) :: us, []⟩ (Value.ref (hp.objs.size + 1) :: us) _ _ _ (hr.make C us []) (I2.env0.make C us []) bnd r2 hq) ?_))
  rintro (er | fl) s' hq'
  · exact pass_none X pins σ _ _ er s' I2 hq'
  · cases fl with
    | ret u =>
      obtain ⟨v, H2, os2, bare2, un2, hok2, rv, rfl, d, fs, ea, ed, hd1, q2⟩ := hq'
      obtain ⟨h2, g2, d2, t2, os'⟩ := s'
      obtain ⟨t0, G, J, kG, ge, hoe, na⟩ := mk_end0 (d2 := d2) (t2 := t2) I1 (Nat.le_succ _) kk un2 hok2 os2 bare2 ea ed hd1
      exact ⟨rv, hp.objs.size + 1, _, _, ⟨G, g2, d2, t2, os'⟩, _, .ref C, some d, rfl, J, kG, ge, hoe, ⟨rfl, rfl, fun vs z => by cases z; rfl⟩, rfl, rfl, na, rfl, bare2, raises_own T.exC T.tyC, q2⟩
    | _ => exact False.elim hq'
end
def oexClsB (K : PySem.W.Frag) (C : Addr) : Bool := match K.lookup C with
  | some ⟨.type "type", _, .cls cd, sl⟩ => (match cd.mro, sl.toList with
    | .ref C' :: bm, [_, _, _, _, some (.builtin n), _] => C' == C && (n == "ValueError.__new__" && (!cd.hasDel && (cd.hasDict && PySem.HandSPX.refsVE bm)))
    | _, _ => false)
  | _ => false
theorem oexClsB_ok {K : PySem.W.Frag} {C : Addr} (q : oexClsB K C = true) : ∃ nm q N bs bm sn sub ab col dd k0 k1 k2 k3 k5, K.lookup C = some (excClassObj nm q C N bs bm true sn sub ab col dd k0 k1 k2 k3 k5 "ValueError.__new__") ∧ PySem.HandSPX.refsVE bm = true := by
  unfold oexClsB at q
  split at q
  · rename_i dd cd sl ho
    split at q
    · rename_i C' bm k0 k1 k2 k3 n k5 hm hs
      simp only [Bool.and_eq_true, beq_iff_eq, Bool.not_eq_true'] at q
      obtain ⟨rfl, rfl, hdel, hdct, hr⟩ := q
      obtain ⟨nm, bs, mro, ns, qn, hd, sn, sub, ab, col, del⟩ := cd
      dsimp only at hm hdel hdct
      subst hm hdel hdct
      obtain ⟨l⟩ := sl
      simp only at hs
      subst hs
      exact ⟨nm, qn, ns, bs, bm, sn, sub, ab, col, dd, k0, k1, k2, k3, k5, ho, hr⟩
    · cases q
  · cases q
/-- a class of refusals with an __init__ of its own -/
structure IniC (K : PySem.W.Frag) (C fI : Addr) (fld : PySem.Str) : Prop where
  ox : OexC K C
  init : PySem.W.findIn K (.ref C) "__init__" = some (some (.ref fI))
  fn : PySem.W.typeIn K (.ref fI) = some (.type "function")
  no : PySem.W.findIn K (.ref C) fld = some none
  xf : XfC K C
def iniB (K : PySem.W.Frag) (C fI : Addr) (fld : PySem.Str) : Bool := oexClsB K C && (decide (PySem.W.findIn K (.ref C) "__setattr__" = some (some (.builtin "object.__setattr__"))) && (decide (PySem.W.subIn K (.ref C) (.type "BaseException") = some true) && (decide (PySem.W.typeIn K (.ref C) = some (.type "type")) &&
  (PySem.W.keepIn K (.ref C) && (decide (PySem.W.findIn K (.ref C) "__init__" = some (some (.ref fI))) && (decide (PySem.W.typeIn K (.ref fI) = some (.type "function")) && (decide (PySem.W.findIn K (.ref C) fld = some none) && xfB K C)))))))
theorem iniB_ok {K : PySem.W.Frag} {C fI : Addr} {fld : PySem.Str} (h : iniB K C fI fld = true) : IniC K C fI fld := by
  simp only [iniB, Bool.and_eq_true, decide_eq_true_eq] at h
  obtain ⟨h1, h2, h3, h4, h5, h6, h7, h8, h9⟩ := h
  exact ⟨⟨oexClsB_ok h1, h2, h3, h4, h5⟩, h6, h7, h8, xfB_ok h9⟩
def baseB (K : PySem.W.Frag) (B : Addr) : Bool := PySem.W.readsIn K B (.type "type") && (decide (PySem.W.specialIn K (.ref B) "__getattribute__" = some (some (.builtin "type.__getattribute__"))) && (match PySem.W.findCls K (.ref B) (.type "type") "__init__" with
  | some (.val v) => v == .builtin "ValueError.__init__"
  | _ => false))
theorem baseB_ok {K : PySem.W.Frag} {B : Addr} (h : baseB K B = true) : BaseC K B := by
  simp only [baseB, Bool.and_eq_true, decide_eq_true_eq] at h
  obtain ⟨h1, h2, h3⟩ := h
  refine ⟨h1, h2, ?_⟩
  split at h3
  · rename_i v e
    rw [e, beq_iff_eq.mp h3]
  · cases h3
section
variable {X : Cx} {G : Cfgx} {W : WX} {k : Nat}
theorem del_upd {H : Hp} {a dx : Addr} {o1 o2 o3 : HO} (ha : H a = none) (hd : H dx = none) (ne : dx ≠ a) (o : HO) : upd (del (upd (upd (upd H a o1) dx o2) a o3) a) dx o = upd H dx o := by
  funext b
  by_cases h1 : b = dx
  · rw [h1, upd_same, upd_same]
  · rw [upd_ne h1, upd_ne h1]
    by_cases h2 : b = a
    · rw [h2, del_same, ha]
    · rw [del_ne h2, upd_ne h2, upd_ne h1, upd_ne h2]
theorem tr_raiseI (c : Nat) {x fld : PySem.Str} {e : Expr} {m : E} {j : Nat} {fI : Addr} {fd : FuncData} {p pos pos' : Pos} (C : Cok X G W k) (hj : j + 1 ≤ k) (I : IniC X.K (G.ca c) fI fld) (F1 : FnOk X.prog X.w X.K X.mg X.base (L2N.CX X.prog X.w) j fI fd ["self", fld] (spInit (G.ca c) fld)) (hb : Binds X.K fd ["self", fld] [])
    (hm : X.mg x = some (.ref (G.ca c))) (hcn : G.cn c = [fld]) (h : TrE X G W e m) (hg : Gl X x := by rfl) (hdb : (x == ("__debug__" : PySem.Str)) = false := by decide) (he : starEach [e] X.env = (false, eval e X.env) :: starEach [] X.env := by rfl) :
    TrS X G W (.Raise (some (.Call (.Name x p) [e] [] pos)) none pos') (sRaiseI c m) := by
  obtain ⟨t, q, d⟩ := h
  refine ⟨_, L2N.ps_raise C.calm C.tk (pmk_ini I.ox I.init I.fn F1 (C.room.mono hj) hb hg hm (pa_cons q pa_nil he) hdb he rfl), fun F H σ S T D st z => ?_⟩
  refine d.dat F H σ S T _ st (PRs.bind z fun dd S1 y => ?_)
  intro v F1 H1 T1 s1 st1 r1
  cases dd with
  | int i =>
    cases r1
    have y : PXs G W F H T ⟨c, .int i⟩ S1 := y
    refine ⟨by show 1 ≤ 1000; decide, fun a ha => ⟨a, .int i, rfl, upd_same, fun dx hdx ne => ⟨rfl, dx, [(fld, .int i)], upd_same, ?_, ?_, ?_⟩⟩⟩
    · rw [upd_ne ne, upd_same]
    · rw [upd_ne ne] at hdx; exact hdx
    · rw [upd_ne ne] at hdx
      rw [del_upd ha hdx ne]
      have k12 : Same H1 (upd H1 dx (.xd [(fld, V.int i)])) := fun b o z => by
        rw [upd_ne (ne_of_none z hdx)]; exact z
      have td : T1 dx = 0 := Decidable.byContradiction fun w => st1.there dx w hdx
      refine y σ (.ref (G.ca c)) (some dx) F1 (upd H1 dx (.xd [(fld, V.int i)])) T1 (s1.trans ⟨Same.refl F1, fun b o _ z => k12 b o z, fun b z => .inl z, fun b z w => absurd z w, fun b z => ?_⟩) ⟨st1.pi, st1.sub.trans k12, st1.sl.mono (Same.refl F1) fun b o _ z => k12 b o z, st1.le, st1.di⟩ ⟨rfl, .inr ⟨dx, i, rfl, rfl, ?_⟩⟩
      · cases w : H1 b with
        | none => exact absurd w z
        | some o => rw [k12 b o w]; simp
      · rw [upd_same, hcn]
        rfl
  | _ => exact y.elim
end
end TB
namespace TB
open PySem PySem.Spec PyProof.Rows L2 L2H
theorem rTxt_int {x : Xc} (h : (rTxt x).ok = true) : ∃ i, x.arg = .int i ∧ i.natAbs < 10 ^ 30 := by
  unfold rTxt at h
  split at h
  · rename_i i e
    split at h
    · rename_i z; exact ⟨i, e, z⟩
    · cases h
  · cases h
theorem rTxt_eq {x : Xc} {i : Int} (h : x.arg = .int i) (z : i.natAbs < 10 ^ 30) : rTxt x = .one (.str (kindT x.c ++ [32] ++ strI i)) := by
  unfold rTxt; rw [h]
  show (if i.natAbs < 10 ^ 30 then _ else _) = _
  rw [if_pos z]
theorem sub_22 {c : Nat} (h : xSub c 22 = true) : c = 22 := by
  unfold xSub at h
  simp at h
  exact h
section
variable {X : Cx} {G : Cfg} {i j : Nat} {a : Addr} {x : Xc} {cls : Value} {d : Option Addr} {ss : List Stmt}
theorem rs_txtF (ok : (rTxt x).ok = true) (h : ∀ n, x.arg = .int n → n.natAbs < 10 ^ 30 → PSs X ss (tRs G i j a x cls d (.one (.str (kindT x.c ++ [32] ++ strI n))))) : PSs X ss (tRs G i j a x cls d (rTxt x)) := by
  obtain ⟨n, e, z⟩ := rTxt_int ok
  rw [rTxt_eq e z]
  exact h n e z
/-- str(e), e a number -/
theorem qx_strI {P : L2.St → Hp → Prop} {e : Expr} {n : Int} {p pos : Pos} (h : QuE X P e (.int n)) (hz : n.natAbs < 10 ^ 30) (hm : X.mg "str" = none) (hg : Gl X "str" := by rfl) (he : starEach [e] X.env = (false, eval e X.env) :: starEach [] X.env := by rfl) : QuE X P (.Call (.Name "str" p) [e] [] pos) (.str (toString n)) := by
  obtain ⟨t, q, dt⟩ := h
  refine ⟨_, pe_callTy call_str_int hg hm (by decide +kernel) (pa_cons q pa_nil he) (by decide) (by decide) he rfl, fun σ H Q s k => dt σ H _ s fun H1 e1 => ⟨n, rfl, ?_, k H1 e1⟩⟩
  by_cases z : n.natAbs = 0
  · rw [z]; decide
  · exact (Nat.log2_lt z).mpr (Nat.lt_of_lt_of_le hz (show (10 : Nat) ^ 30 ≤ 2 ^ 1920 by decide +kernel))
end
end TB
namespace TB
end TB
namespace TB
end TB
namespace TB
open PySem PySem.Spec PyProof.Rows L2
section
end
end TB
namespace TB
open PySem PySem.Spec PyProof.Rows L2
section
end
end TB
namespace TB
open PySem PySem.Spec PyProof.Rows L2
section
end
end TB
namespace TB
end TB
namespace TB
open PySem L2 PySem.SeqAt
section
end
end TB
namespace TB
end TB
namespace TB
open PySem L2
open PySem.Calls PyProof.Rows
/-- the zip's cells, i turns on -/
structure ZSt (x : PySem.Str) (t : Tok) (z p q i1 i2 b : Addr) (i : Nat) (h : Heap) : Prop where
  zz : IsZip h z p q .none
  pp : IsTupOf2 h p (.ref i1) (.ref i2)
  qq : ∃ u v, IsTupOf2 h q u v
  s1 : h.IsStrIter i1 (strIterType x) x t i
  s2 : h.IsTupleIter i2 b i
theorem ZSt.lt {x : PySem.Str} {t : Tok} {z p q i1 i2 b : Addr} {i : Nat} {h : Heap} (S : ZSt x t z p q i1 i2 b i h) : ∀ c, c ∈ [z, p, q, i1, i2] → c < h.objs.size := fun c hc => by
  obtain ⟨u, v, hq⟩ := S.qq
  obtain ⟨o1, e1, _⟩ := S.s1
  obtain ⟨o2, e2, _⟩ := S.s2
  simp only [List.mem_cons, List.not_mem_nil, or_false] at hc
  rcases hc with rfl | rfl | rfl | rfl | rfl
  · exact Heap.lt_size S.zz
  · exact Heap.lt_size S.pp
  · exact Heap.lt_size hq
  · exact Heap.lt_size e1
  · exact Heap.lt_size e2
section
end
end TB
namespace TB
open PySem L2
section
end
end TB
namespace TB
/-- the parts between the signs c -/
def splC (c : Nat) : List Nat → List Nat → List (List Nat)
  | acc, [] => [acc]
  | acc, x :: r => if x = c then acc :: splC c [] r else splC c (acc ++ [x]) r
def fSplit : D → D → Option KD
  | .str s, .str [c] => if s.length + 2 ≤ sizeMax ∧ c < 256 then some (.li .fz, .lst ((splC c [] s).map D.str)) else none
  | _, _ => none
/-- s.split(e) -/
def eSplit (a b : E) : E := M.bind (eDat a) fun x => match x with
  | .str s => M.bind (eDat b) fun y => ofO (fSplit (.str s) y)
  | _ => eBad
end TB
namespace TB
open PySem L2 TL
section
variable {X : Cx} {G : Cfgx} {W : WX} {k : Nat} {F H : Hp} {σ : L2.St} {S : List Slot} {T : Cnt}
theorem spl_C (c : Nat) : ∀ (xs acc : List Nat), spl [c] 0 acc xs = splC c acc xs
  | [], acc => rfl
  | x :: r, acc => by
    have e : spl [c] 0 acc (x :: r) = if pre [c] (x :: r) = true then acc :: spl [c] 0 [] r else spl [c] 0 (acc ++ [x]) r := rfl
    have e2 : pre [c] (x :: r) = decide (x = c) := by
      show ((x :: r).take 1 == [c]) = _
      rw [Bool.eq_iff_iff]
      simp
    rw [e, e2, spl_C c r [], spl_C c r (acc ++ [x])]
    show _ = if x = c then _ else _
    by_cases q : x = c
    · simp [q]
    · simp [q]
theorem reps_tl {F : Hp} : ∀ (ys : List PySem.Str), Reps G F (ys.map V.str) ((ys.map fun y => y.cps.toList).map D.str)
  | [] => .nil
  | y :: ys => .cons (.str y) (reps_tl ys)
theorem tr_split {o e : Expr} {m n : E} {apos pos : Pos} (ho : TrE X G W o m) (he : TrE X G W e n) (hs : starEach [e] X.env = [(false, eval e X.env)] := by rfl) (hbase : attributeBase o "split" X.env (eval o X.env) = eval o X.env := by rfl) (hline : (apos.endLine == pos.line) = true := by rfl) :
    TrE X G W (.Call (.Attribute o "split" apos) [e] [] pos) (eSplit m n) := by
  obtain ⟨t, p, d⟩ := ho
  obtain ⟨u, q, d2⟩ := he
  refine ⟨_, pe_split p q hs hbase hline, fun F H σ S T Q st z => ?_⟩
  refine d.dat F H σ S T _ st (PR.bind z fun x S1 y => ?_)
  intro v F1 H1 T1 s1 st1 r1
  cases r1 with
  | str a =>
    refine ⟨⟨a, rfl⟩, ?_⟩
    refine d2.dat F1 H1 σ S1 T1 _ st1 (PR.bind (PR.re s1 (fun _ _ h => h) y) fun y2 S2 w => ?_)
    intro v2 F2 H2 T2 s2 st2 r2
    cases r2 with
    | str b =>
      have w : PR G W F1 H1 σ T1 (KE G F H σ T Q) (ofO (fSplit (.str a.cps.toList) (.str b.cps.toList)) S2) := w
      cases hb : b.cps.toList with
      | nil => rw [hb] at w; exact w.elim
      | cons c r =>
        cases r with
        | cons _ _ => rw [hb] at w; exact w.elim
        | nil =>
          rw [hb] at w
          have w : PR G W F1 H1 σ T1 (KE G F H σ T Q) (ofO (if a.cps.toList.length + 2 ≤ sizeMax ∧ c < 256 then some (.li .fz, .lst ((splC c [] a.cps.toList).map D.str)) else none) S2) := w
          split at w
          · rename_i hc
            have w : KE G F H σ T Q (.li .fz, .lst ((splC c [] a.cps.toList).map D.str)) S2 := w
            have bs : b.cps.size = 1 := by rw [← Array.length_toList, hb]; rfl
            have ks : ¬ Builtin.Str.strKind a < Builtin.Str.strKind b := TL.kind_ok (by
              rw [Array.all_eq_true_iff_forall_mem]
              intro x hx
              have : x ∈ b.cps.toList := by simpa using hx
              rw [hb] at this
              have : x = c := by simpa using this
              rw [this]
              exact decide_eq_true hc.2)
            have sp := split_spl a b (by rw [show tl b = [c] from hb]; simp) ks
            rw [show tl b = [c] from hb, spl_C] at sp
            have sl : sizeLine = sizeMax := rfl
            refine ⟨a, b, rfl, rfl, ?_, ?_, fun p hp => ?_⟩
            · show (b.cps.size == 0) = false
              rw [bs]; rfl
            · show a.cps.size + 2 ≤ sizeLine
              rw [sl]
              exact hc.1
            · refine KE.newL (KE.re (s1.trans s2) w) st2 ?_ p hp
              rw [← sp]
              exact reps_tl _
          · exact w.elim
    | _ => exact w.elim
  | _ => exact y.elim
end
end TB
namespace TB
def digV (s : List Nat) : Nat := s.foldl (fun a c => a * 10 + (c - 48)) 0
/-- int(s) of figures -/
def fIntS : List D → Option KD
  | [.str s] => if (s.all (fun c => decide (48 ≤ c) && decide (c ≤ 57)) && !s.isEmpty && decide (s.length ≤ 600)) = true then kz (.int (digV s)) else none
  | _ => none
/-- str(i), str(s) -/
def fStrA : List D → Option KD
  | [.str s] => kz (.str s)
  | ds => fStrI ds
end TB
namespace TB
open PySem L2 NumText
section
variable {X : Cx} {G : Cfgx} {W : WX} {k : Nat} {F H : Hp} {σ : L2.St} {S : List Slot} {T : Cnt}
theorem cls_intS : ∃ r, CallR X (.type "int") r ∧ SN G r fIntS := by
  refine ⟨_, call_int_str, fun F H σ S T xs ds kd Q st rs e k => ?_⟩
  rcases rs with _ | ⟨r1, _ | ⟨r2, r3⟩⟩
  · cases e
  · cases r1 with
    | str z =>
      have e : (if (z.cps.toList.all (fun c => decide (48 ≤ c) && decide (c ≤ 57)) && !z.cps.toList.isEmpty && decide (z.cps.toList.length ≤ 600)) = true then kz (.int (digV z.cps.toList)) else none) = some kd := e
      split at e
      · rename_i h
        cases e
        simp only [Bool.and_eq_true, decide_eq_true_eq] at h
        obtain ⟨⟨h1, h2⟩, h3⟩ := h
        have hd : NumText.AllDigits z.cps.toList := fun c hc => by
          have := List.all_eq_true.mp h1 c hc
          simpa using this
        have ne : z.cps.toList ≠ [] := fun e => by rw [e] at h2; cases h2
        have hl : z.length = z.cps.toList.length := Array.length_toList.symm
        exact ⟨z, _, rfl, intText_digits hd ne (by rw [hl]; omega), by rw [hl]; omega, KE.val k st (.int _)⟩
      · cases e
    | _ => cases e
  · cases r1 <;> cases e
theorem tr_b_intS (C : Cok X G W k) {p pos : Pos} {e : Expr} {es : List Expr} {ms : List E} (hm : X.mg "int" = none) (hg : Gl X "int") (ha : TrA X G W (e :: es) ms) (he : starEach (e :: es) X.env = (false, eval e X.env) :: starEach es X.env := by rfl) (hpl : (backTo pos (starEach es X.env)).any (·.1) = false := by rfl) : TrE X G W (.Call (.Name "int" p) (e :: es) [] pos) (eApp fIntS ms) := by
  obtain ⟨r, h1, h2⟩ := cls_intS (X := X) (G := G)
  exact tr_callT h1 h2 hm (by rfl) ha hg (by decide) (by decide) he hpl
theorem cls_strA : ∃ r, CallR X (.type "str") r ∧ SN G r fStrA := by
  obtain ⟨r, h1, h2⟩ := cls_strI (X := X) (G := G)
  refine ⟨_, CallR.or h1 SkE.call_str_str, fun F H σ S T xs ds kd Q st rs e k => ?_⟩
  by_cases q : ∃ s, ds = [.str s]
  · obtain ⟨s, rfl⟩ := q
    right
    rcases rs with _ | ⟨r1, _ | ⟨r2, r3⟩⟩
    cases r1 with
    | str z =>
      have e : kz (.str z.cps.toList) = some kd := e
      cases e
      exact ⟨z, rfl, KE.val k st (.str z)⟩
  · left
    refine h2 F H σ S T xs ds kd Q st rs ?_ k
    unfold fStrA at e
    split at e
    · exact absurd ⟨_, rfl⟩ q
    · exact e
theorem tr_strA {e : Expr} {ms : List E} {p pos : Pos} (hm : X.mg "str" = none) (ha : TrA X G W [e] ms) (hg : Gl X "str" := by rfl) (he : starEach [e] X.env = (false, eval e X.env) :: starEach [] X.env := by rfl) : TrE X G W (.Call (.Name "str" p) [e] [] pos) (eApp fStrA ms) := by
  obtain ⟨r, h1, h2⟩ := cls_strA (X := X) (G := G)
  exact tr_callT h1 h2 hm (by decide +kernel) ha hg (by decide) (by decide) he rfl
end
end TB
namespace TB
open PySem L2 TL
theorem strI_num (n : Nat) : strI (n : Int) = numL n := (strI_rel (n : Int)).symm.trans (tl_num n)
theorem strI_neg (m : Nat) : strI (Int.negSucc m) = 45 :: strI ((m + 1 : Nat) : Int) := by
  have e : toString (Int.negSucc m) = "-" ++ toString ((m + 1 : Nat) : Int) := rfl
  unfold strI
  rw [e, String.toList_append, List.map_append]
  rfl
theorem strI_len {i : Int} (h : i.natAbs < 10 ^ 30) : (strI i).length ≤ 31 := by
  cases i with
  | ofNat n =>
    have : (numL n).length ≤ 30 := numL_len (by decide) h
    show (strI (n : Int)).length ≤ 31
    rw [strI_num]
    omega
  | negSucc m =>
    have : (numL (m + 1)).length ≤ 30 := numL_len (by decide) h
    rw [strI_neg, strI_num, List.length_cons]
    omega
theorem joinD_len (s : List Nat) : ∀ ws : List (List Nat), (joinD s ws).length ≤ (ws.map (·.length)).sum + ws.length * s.length
  | [] => by simp [joinD]
  | [p] => by simp [joinD]
  | p :: q :: r => by
    have := joinD_len s (q :: r)
    show (p ++ (s ++ joinD s (q :: r))).length ≤ _
    simp only [List.length_append, List.map_cons, List.sum_cons, List.length_cons, Nat.add_mul, Nat.one_mul] at *
    omega
theorem pickB_sub : ∀ (ws : List (List Nat)) (bs : List Bool), (pickB ws bs).Sublist ws
  | [], _ => by simp [pickB]
  | _ :: _, [] => by simp [pickB]
  | w :: ws, b :: bs => by
    have := pickB_sub ws bs
    cases b
    · exact this.cons w
    · exact this.cons_cons w
theorem sub_sum {l m : List Nat} (h : l.Sublist m) : l.sum ≤ m.sum := by
  induction h with
  | slnil => exact Nat.le_refl _
  | cons a _ ih => rw [List.sum_cons]; omega
  | cons_cons a _ ih => rw [List.sum_cons, List.sum_cons]; omega
theorem kindT_len (c : Nat) : (kindT c).length ≤ 1000 := by
  have h1 := joinD_len [32] (pickB kindW (kindBits c))
  have sb := pickB_sub kindW (kindBits c)
  have h2 : ((pickB kindW (kindBits c)).map (·.length)).sum ≤ (kindW.map (·.length)).sum := sub_sum (sb.map _)
  have h3 := sb.length_le
  have k1 : (kindW.map (·.length)).sum ≤ 200 := by decide
  have k2 : kindW.length = 14 := by decide
  unfold kindT
  simp only [List.length_cons, List.length_nil] at h1
  omega
theorem strOf_len (s : List Nat) : (strOf s).length = s.length := by simp [strOf, PySem.Str.length]
theorem app_len (a b : PySem.Str) : (a ++ b).length = a.length + b.length := by
  show (a ++ b).cps.size = a.cps.size + b.cps.size
  rw [PySem.Str.cps_append, Array.size_append]
theorem num_len (i : Int) : (PySem.Str.ofString (toString i)).length = (strI i).length := by
  rw [← strI_rel i]
  exact Array.length_toList.symm
theorem txt_len1 (c : Nat) : (strOf (kindT c)).length + (PySem.Str.ofString " ").length ≤ sizeLine := by
  have h := kindT_len c
  have e : (PySem.Str.ofString " ").length = 1 := by decide
  have l : sizeLine = 16777216 := sizeLine_eq
  rw [strOf_len, e, l]
  omega
theorem txt_len2 (c : Nat) {n : Int} (zn : n.natAbs < 10 ^ 30) : (strOf (kindT c) ++ PySem.Str.ofString " ").length + (PySem.Str.ofString (toString n)).length ≤ sizeLine := by
  have h := kindT_len c
  have h2 := strI_len zn
  have e : (PySem.Str.ofString " ").length = 1 := by decide
  have l : sizeLine = 16777216 := sizeLine_eq
  rw [app_len, strOf_len, num_len, e, l]
  omega
theorem rep_txt {G : Cfg} {F : Hp} {c : Nat} {n : Int} : Rep G F (.str (strOf (kindT c) ++ PySem.Str.ofString " " ++ PySem.Str.ofString (toString n))) (.str (kindT c ++ [32] ++ strI n)) := by
  have h := Rep.str (G := G) (F := F) (strOf (kindT c) ++ PySem.Str.ofString " " ++ PySem.Str.ofString (toString n))
  have e : (strOf (kindT c) ++ PySem.Str.ofString " " ++ PySem.Str.ofString (toString n)).cps.toList = kindT c ++ [32] ++ strI n := by
    rw [PySem.Str.cps_append, PySem.Str.cps_append, Array.toList_append, Array.toList_append, strOf_codes, strI_rel]
    have s : (PySem.Str.ofString " ").cps.toList = [32] := by decide
    rw [s]
  rwa [e] at h
end TB
noncomputable section
namespace TBH
open PySem PySem.W PySem.Calls PyProof.Rows
def obsA (as : List Addr) (fa : List He.Fa) (fn : List He.DefD) (ts : List He.Tab) (ex : PySem.W.Frag → Bool) (g : Addr → Option Obj) : He.AlT × Bool :=
  (He.obsT fa fn ts (He.frT g as), ex (He.frT g as))
theorem saysA {as : List Addr} {fa : List He.Fa} {fn : List He.DefD} {ts : List He.Tab} {ex : PySem.W.Frag → Bool} {w : World} {h : Heap}
    (e : obsA as fa fn ts ex h.get? = (He.valT fn ts w, true)) : He.SaysX fa fn ts [] ex w h (He.frT h.get? as) :=
  ⟨(congrArg Prod.fst e : He.obsT fa fn ts _ = _), (congrArg Prod.snd e : ex _ = _), fun _ m => absurd m (by simp), fun _ m => absurd m (by simp), fun _ m => absurd m (by simp)⟩
def hookA (as : List Addr) (fa : List He.Fa) (fn : List He.DefD) (ts : List He.Tab) (ex : PySem.W.Frag → Bool) : PySem.W.Hook where
  α := He.AlT × Bool
  obs s := obsA as fa fn ts ex s.heap.get?
  val w := (He.valT fn ts w, true)
  says w h := ∃ K : PySem.W.Frag, K.In h ∧ He.SaysX fa fn ts [] ex w h K
  of _ _ e := ⟨_, He.frT_in, saysA e⟩
  keeps := by
    intro w h h' hs k
    obtain ⟨K, hK, c⟩ := hs
    exact ⟨K, hK.keeps k, c.t, c.more, fun _ m => absurd m (by simp), fun _ m => absurd m (by simp), fun _ m => absurd m (by simp)⟩
theorem obsA_eq {as : List Addr} {fa : List He.Fa} {fn : List He.DefD} {ts : List He.Tab} {ex : PySem.W.Frag → Bool} {g : Addr → Option Obj} {s : Shared}
    (h : ∀ a, g a = s.heap.get? a) : obsA as fa fn ts ex g = (hookA as fa fn ts ex).obs s := by
  have e : g = s.heap.get? := funext h
  subst e
  rfl
end TBH
namespace LW
open TB
/-- is_within -/
def mb_0 (Γ : Nat → Fn) : St := (sRet (eAnd (eIsi .int (eVar 0)) (eAnd (eNot (eIsi .bool (eVar 0))) (eChain fLe fLe (eVar 1) (eVar 0) (eVar 2)))))
abbrev rf_0 (Γ : Nat → Fn) : Fn := runF 3 [] (mb_0 Γ)
/-- is_name -/
def mb_1 (Γ : Nat → Fn) : St := (sRet (eAnd (eIsi .str (eVar 0)) (eAnd (eChain fLe fLe (eCon (.int 1)) (eApp fLen [(eVar 0)]) (eCon (.int 8))) (eApp fAllB [(eLc (itStr (eVar 0)) (.nm 1) [1] tTrue (eOp fInA (eVar 1) (eCon (.str [97, 98, 99, 100, 101, 102, 103, 104, 105, 106, 107, 108, 109, 110, 111, 112, 113, 114, 115, 116, 117, 118, 119, 120, 121, 122]))))]))))
abbrev rf_1 (Γ : Nat → Fn) : Fn := runF 2 [] (mb_1 Γ)
/-- are_rising -/
def mb_2 (Γ : Nat → Fn) : St := (sRet (eApp fAllB [(eLc (itRange2 (eCon (.int 1)) (eApp fLen [(eVar 0)])) (.nm 1) [1] tTrue (eOp fLt (eOp fIx (eVar 0) (eOp fSub (eVar 1) (eCon (.int 1)))) (eOp fIx (eVar 0) (eVar 1))))]))
abbrev rf_2 (Γ : Nat → Fn) : Fn := runF 2 [] (mb_2 Γ)
/-- are_names -/
def mb_3 (Γ : Nat → Fn) : St := (sSeq (sIf (tOr (tNot (eBool (eIsi .tuple (eVar 0)))) (tNot (eBool (eChain fLe fLe (eVar 1) (eApp fLen [(eVar 0)]) (eVar 2))))) (sRet (eCon (.bl false))) sNx) (sRet (eAnd (eApp fAllB [(eLc (itSeq (eVar 0)) (.nm 3) [3] tTrue (eCall (Γ 1) [.v (eVar 3)]))]) (eCall (Γ 2) [.v (eVar 0)]))))
abbrev rf_3 (Γ : Nat → Fn) : Fn := runF 4 [] (mb_3 Γ)
/-- is_rule -/
def mb_4 (Γ : Nat → Fn) : St := (sSeq (sIf (tOr (tNot (eBool (eIsi .tuple (eVar 0)))) (tOr (eBool (eOp fNe (eApp fLen [(eVar 0)]) (eCon (.int 6)))) (tNot (eBool (eIsi .str (eOp fIx (eVar 0) (eCon (.int 0)))))))) (sRet (eCon (.bl false))) sNx) (sSeq (sPut (.tp [(.nm 1), (.nm 2), (.nm 3), (.nm 4), (.nm 5), (.nm 6)]) (eVar 0)) (sSeq (sIf (tOr (eBool (eOp fNotInA (eVar 1) (eApp fTup [(eCon (.str [108, 101, 116])), (eCon (.str [98, 97, 114]))]))) (tOr (tNot (eBool (eCall (Γ 3) [.v (eVar 2), .v (eCon (.int 0)), .v (eCon (.int 2))]))) (tNot (eBool (eCall (Γ 3) [.v (eVar 3), .v (eCon (.int 0)), .v (eCon (.int 2))]))))) (sRet (eCon (.bl false))) sNx) (sSeq (sIf (tOr (tNot (eBool (eIsi .tuple (eVar 4)))) (tOr (tNot (eBool (eApp fAllB [(eLc (itSeq (eVar 4)) (.nm 7) [7] tTrue (eCall (Γ 0) [.v (eVar 7), .v (eCon (.int 0)), .v (eCon (.int 6))]))]))) (tNot (eBool (eCall (Γ 2) [.v (eVar 4)]))))) (sRet (eCon (.bl false))) sNx) (sRet (eAnd (eCall (Γ 0) [.v (eVar 5), .v (eCon (.int 1)), .v (eCon (.int 1000000))]) (eCall (Γ 0) [.v (eVar 6), .v (eVar 5), .v (eCon (.int 1000000))])))))))
abbrev rf_4 (Γ : Nat → Fn) : Fn := runF 8 [] (mb_4 Γ)
/-- is_book -/
def mb_5 (Γ : Nat → Fn) : St := (sRet (eAnd (eIsi .tuple (eVar 0)) (eAnd (eOp fLe (eApp fLen [(eVar 0)]) (eCon (.int 6))) (eApp fAllB [(eLc (itSeq (eVar 0)) (.nm 1) [1] tTrue (eCall (Γ 4) [.v (eVar 1)]))]))))
abbrev rf_5 (Γ : Nat → Fn) : Fn := runF 2 [] (mb_5 Γ)
/-- _law_draws -/
def mb_6 (Γ : Nat → Fn) : St := (sSeq (sSet 2 (eFr (eOp fMul (eCon (.int 15485863)) (eVar 1)))) (sSeq (sIf (eBool (eOp fLt (eVar 1) (eApp fLen [(eVar 0)]))) (sSet 2 (eOp fMod (eOp fIx (eVar 0) (eVar 1)) (eOp fMul (eOp fPow (eCon (.int 10)) (eCon (.int 60))) (eOp fPow (eCon (.int 10)) (eCon (.int 60)))))) (sIf (eBool (eOp fGt (eApp fLen [(eVar 0)]) (eCon (.int 0)))) (sSet 2 (eFr (eOp fAdd (eOp fMod (eOp fIx (eVar 0) (eOp fMod (eVar 1) (eApp fLen [(eVar 0)]))) (eOp fPow (eCon (.int 10)) (eCon (.int 15)))) (eOp fMul (eCon (.int 15485863)) (eVar 1))))) sNx)) (sRet (eApp fLst [(eOp fMul (eVar 2) (eApp fIntB [(eOp fGe (eVar 2) (eOp fPow (eCon (.int 10)) (eCon (.int 18))))])), (eOp fAdd (eCon (.int 1)) (eOp fMod (eOp fAdd (eOp fMul (eVar 2) (eCon (.int 69621))) (eOp fMul (eCon (.int 86028121)) (eOp fAdd (eVar 1) (eCon (.int 1))))) (eCon (.int 2147483646))))]))))
abbrev rf_6 (Γ : Nat → Fn) : Fn := runF 3 [] (mb_6 Γ)
/-- _law_draw -/
def mb_7 (Γ : Nat → Fn) : St := (sSeq (sIf (eBool (eOp fGt (eIxO 0 (eCon (.int 0))) (eCon (.int 0)))) (sSeq (sSet 2 (eOp fMod (eIxO 0 (eCon (.int 0))) (eVar 1))) (sSeq (sSetIx 0 (eCon (.int 0)) (eOp fDiv (eIxO 0 (eCon (.int 0))) (eVar 1))) (sRet (eVar 2)))) sNx) (sSeq (sSet 2 (eCon (.int 0))) (sSeq (sSet 3 (eCon (.int 1))) (sSeq (sWhile 64 (eBool (eOp fLt (eVar 3) (eVar 1))) (sSeq (sSetIx 0 (eCon (.int 1)) (eOp fMod (eOp fMul (eIxO 0 (eCon (.int 1))) (eCon (.int 69621))) (eCon (.int 2147483647)))) (sSeq (sSet 2 (eFr (eOp fAdd (eOp fMul (eVar 2) (eCon (.int 268435456))) (eOp fDiv (eOp fMod (eOp fMul (eIxO 0 (eCon (.int 1))) (eOp fAdd (eOp fDiv (eIxO 0 (eCon (.int 1))) (eCon (.int 128))) (eCon (.int 3)))) (eCon (.int 2147483629))) (eCon (.int 8)))))) (sSet 3 (eFr (eOp fMul (eVar 3) (eCon (.int 268435456)))))))) (sRet (eOp fMod (eVar 2) (eVar 1)))))))
abbrev rf_7 (Γ : Nat → Fn) : Fn := runF 4 [0] (mb_7 Γ)
/-- _law_some -/
def mb_8 (Γ : Nat → Fn) : St := (sSeq (sSet 3 eDnew) (sSeq (sFor (itRange1 (eCall (Γ 7) [.b 0, .v (eOp fAdd (eVar 2) (eCon (.int 1)))])) (.nm 4) (sDput 3 (eOp fIx (eVar 1) (eCall (Γ 7) [.b 0, .v (eApp fLen [(eVar 1)])])) (eCon (.bl true)))) (sRet (eApp fTuple [(eApp fSorted [(ePeekL (eApp fList [(eVar 3)]))])]))))
abbrev rf_8 (Γ : Nat → Fn) : Fn := runF 5 [0] (mb_8 Γ)
/-- _law_rule -/
def mb_9 (Γ : Nat → Fn) : St := (sSeq (sSet 4 (eFr (eOp fAdd (eCon (.int 1)) (eOp fIx (eApp fLst [(eCon (.int 0)), (eCall (Γ 7) [.b 0, .v (eCon (.int 9))]), (eCall (Γ 7) [.b 0, .v (eVar 3)])]) (eCall (Γ 7) [.b 0, .v (eCon (.int 3))]))))) (sSeq (sSet 5 (eApp fMin2 [(eOp fPow (eCon (.int 10)) (eCon (.int 6))), (eOp fAdd (eVar 4) (eOp fIx (eApp fLst [(eCon (.int 0)), (eCall (Γ 7) [.b 0, .v (eCon (.int 9))]), (eCall (Γ 7) [.b 0, .v (eVar 3)]), (eOp fPow (eCon (.int 10)) (eCon (.int 6)))]) (eCall (Γ 7) [.b 0, .v (eCon (.int 4))])))])) (sSeq (sSet 6 (eCall (Γ 8) [.b 0, .v (eLRg1 (eCon (.int 7))), .v (eOp fIx (eApp fLst [(eCon (.int 0)), (eCon (.int 3)), (eCon (.int 7))]) (eCall (Γ 7) [.b 0, .v (eCon (.int 3))]))])) (sSeq (sSet 7 (eOp fIx (eApp fLst [(eCon (.str [98, 97, 114])), (eCon (.str [108, 101, 116]))]) (eOp fDiv (eCall (Γ 7) [.b 0, .v (eCon (.int 5))]) (eCon (.int 3))))) (sRet (eApp fTup [(eVar 7), (eCall (Γ 8) [.b 0, .v (eVar 1), .v (eCon (.int 2))]), (eCall (Γ 8) [.b 0, .v (eVar 2), .v (eCon (.int 2))]), (eVar 6), (eVar 4), (eVar 5)]))))))
abbrev rf_9 (Γ : Nat → Fn) : Fn := runF 8 [0] (mb_9 Γ)
/-- _law_book -/
def mb_10 (Γ : Nat → Fn) : St := (sSeq (sSet 3 (eOp fIx (eApp fLst [(eCon (.int 30)), (eOp fPow (eCon (.int 10)) (eCon (.int 6)))]) (eOp fDiv (eCall (Γ 7) [.b 0, .v (eCon (.int 4))]) (eCon (.int 3))))) (sRet (eApp fTuple [(eLc (itRange1 (eCall (Γ 7) [.b 0, .v (eCon (.int 6))])) (.nm 4) [4] tTrue (eCall (Γ 9) [.b 0, .v (eVar 1), .v (eVar 2), .v (eVar 3)]))])))
abbrev rf_10 (Γ : Nat → Fn) : Fn := runF 5 [0] (mb_10 Γ)
/-- _law_names -/
def mb_37 (Γ : Nat → Fn) : St := (sSeq (sSet 2 (eCon (.str [97, 98, 99, 100, 101, 102, 103, 104, 105, 106, 107, 108, 109, 110, 111, 112, 113, 114, 115, 116, 117, 118, 119, 120, 121, 122]))) (sSeq (sSet 3 (eJoin (eCon (.str [])) (eLc (itRange1 (eOp fIx (eApp fLst [(eCon (.int 0)), (eCon (.int 1)), (eCon (.int 2)), (eCon (.int 7))]) (eCall (Γ 7) [.b 0, .v (eCon (.int 4))]))) (.nm 6) [6] tTrue (eOp fIx (eVar 2) (eCall (Γ 7) [.b 0, .v (eCon (.int 26))]))))) (sSeq (sSet 4 (eCall (Γ 7) [.b 0, .v (eCon (.int 26))])) (sSeq (sSet 5 (eOp fIx (eApp fLst [(eCon (.int 1)), (eCon (.int 3)), (eCon (.int 5)), (eCon (.int 7))]) (eCall (Γ 7) [.b 0, .v (eCon (.int 4))]))) (sRet (eFr (eApp fSorted [(eLc (itRange1 (eVar 1)) (.nm 6) [6] tTrue (eOp fAdd (eVar 3) (eOp fIx (eVar 2) (eOp fMod (eOp fAdd (eVar 4) (eOp fMul (eVar 5) (eVar 6))) (eCon (.int 26))))))])))))))
abbrev rf_37 (Γ : Nat → Fn) : Fn := runF 7 [0] (mb_37 Γ)
end LW
namespace LW
open TB
/-- _law_is_name -/
def mb_14 (Γ : Nat → Fn) : St := (sSeq (sIf (tOr (tNot (eBool (eIsi .str (eVar 0)))) (tOr (eBool (eOp fLt (eApp fLen [(eVar 0)]) (eCon (.int 1)))) (eBool (eOp fGt (eApp fLen [(eVar 0)]) (eCon (.int 8)))))) (sRet (eCon (.bl false))) sNx) (sRet (eOp fEq (eLc (itStr (eVar 0)) (.nm 1) [1] (eBool (eOp fNotInA (eVar 1) (eCon (.str [97, 98, 99, 100, 101, 102, 103, 104, 105, 106, 107, 108, 109, 110, 111, 112, 113, 114, 115, 116, 117, 118, 119, 120, 121, 122])))) (eVar 1)) (eApp fLst []))))
abbrev rf_14 (Γ : Nat → Fn) : Fn := runF 2 [] (mb_14 Γ)
/-- _law_are_rising -/
def mb_15 (Γ : Nat → Fn) : St := (sSeq (sIf (tOr (tNot (eBool (eIsi .tuple (eVar 0)))) (tOr (eBool (eOp fLt (eApp fLen [(eVar 0)]) (eVar 1))) (eBool (eOp fGt (eApp fLen [(eVar 0)]) (eVar 2))))) (sRet (eCon (.bl false))) sNx) (sRet (eOp fEq (eLc (itRange2 (eCon (.int 1)) (eApp fLen [(eVar 0)])) (.nm 3) [3] (eBool (eOp fGe (eOp fIx (eVar 0) (eOp fSub (eVar 3) (eCon (.int 1)))) (eOp fIx (eVar 0) (eVar 3)))) (eVar 3)) (eApp fLst []))))
abbrev rf_15 (Γ : Nat → Fn) : Fn := runF 4 [] (mb_15 Γ)
/-- _law_are_names -/
def mb_16 (Γ : Nat → Fn) : St := (sSeq (sIf (tOr (tNot (eBool (eIsi .tuple (eVar 0)))) (eBool (eOp fNe (eLc (itSeq (eVar 0)) (.nm 3) [3] (tNot (eBool (eCall (Γ 14) [.v (eVar 3)]))) (eVar 3)) (eApp fLst [])))) (sRet (eCon (.bl false))) sNx) (sRet (eCall (Γ 15) [.v (eVar 0), .v (eVar 1), .v (eVar 2)])))
abbrev rf_16 (Γ : Nat → Fn) : Fn := runF 4 [] (mb_16 Γ)
/-- _law_within -/
def mb_17 (Γ : Nat → Fn) : St := (sRet (eAnd (eIsi .int (eVar 0)) (eAnd (eNot (eIsi .bool (eVar 0))) (eAnd (eOp fLe (eVar 1) (eVar 0)) (eOp fLe (eVar 0) (eVar 2))))))
abbrev rf_17 (Γ : Nat → Fn) : Fn := runF 3 [] (mb_17 Γ)
/-- _law_is_rule -/
def mb_18 (Γ : Nat → Fn) : St := (sSeq (sIf (tOr (tNot (eBool (eIsi .tuple (eVar 0)))) (tOr (eBool (eOp fNe (eApp fLen [(eVar 0)]) (eCon (.int 6)))) (tNot (eBool (eIsi .str (eOp fIx (eVar 0) (eCon (.int 0)))))))) (sRet (eCon (.bl false))) sNx) (sSeq (sIf (eBool (eOp fNotInA (eOp fIx (eVar 0) (eCon (.int 0))) (eApp fTup [(eCon (.str [108, 101, 116])), (eCon (.str [98, 97, 114]))]))) (sRet (eCon (.bl false))) sNx) (sSeq (sIf (tOr (tNot (eBool (eCall (Γ 16) [.v (eOp fIx (eVar 0) (eCon (.int 1))), .v (eCon (.int 0)), .v (eCon (.int 2))]))) (tOr (tNot (eBool (eCall (Γ 16) [.v (eOp fIx (eVar 0) (eCon (.int 2))), .v (eCon (.int 0)), .v (eCon (.int 2))]))) (tNot (eBool (eIsi .tuple (eOp fIx (eVar 0) (eCon (.int 3)))))))) (sRet (eCon (.bl false))) sNx) (sSeq (sIf (tOr (eBool (eOp fNe (eLc (itSeq (eOp fIx (eVar 0) (eCon (.int 3)))) (.nm 1) [1] (tNot (eBool (eCall (Γ 17) [.v (eVar 1), .v (eCon (.int 0)), .v (eCon (.int 6))]))) (eVar 1)) (eApp fLst []))) (tNot (eBool (eCall (Γ 15) [.v (eOp fIx (eVar 0) (eCon (.int 3))), .v (eCon (.int 0)), .v (eCon (.int 7))])))) (sRet (eCon (.bl false))) sNx) (sRet (eAndV (eCall (Γ 17) [.v (eOp fIx (eVar 0) (eCon (.int 4))), .v (eCon (.int 1)), .v (eOp fPow (eCon (.int 10)) (eCon (.int 6)))]) (eCall (Γ 17) [.v (eOp fIx (eVar 0) (eCon (.int 5))), .v (eOp fIx (eVar 0) (eCon (.int 4))), .v (eOp fPow (eCon (.int 10)) (eCon (.int 6)))])))))))
abbrev rf_18 (Γ : Nat → Fn) : Fn := runF 2 [] (mb_18 Γ)
/-- _law_is_book -/
def mb_19 (Γ : Nat → Fn) : St := (sSeq (sIf (tOr (tNot (eBool (eIsi .tuple (eVar 0)))) (eBool (eOp fGt (eApp fLen [(eVar 0)]) (eCon (.int 6))))) (sRet (eCon (.bl false))) sNx) (sRet (eOp fEq (eLc (itSeq (eVar 0)) (.nm 1) [1] (tNot (eBool (eCall (Γ 18) [.v (eVar 1)]))) (eVar 1)) (eApp fLst []))))
abbrev rf_19 (Γ : Nat → Fn) : Fn := runF 2 [] (mb_19 Γ)
end LW
namespace LW
open TB
/-- need_book -/
def mb_23 (Γ : Nat → Fn) : St := (sIf (tNot (eBool (eCall (Γ 5) [.v (eVar 0)]))) (sRaise 13) sNx)
abbrev rf_23 (Γ : Nat → Fn) : Fn := runF 1 [] (mb_23 Γ)
/-- some_text -/
def mb_33 (Γ : Nat → Fn) : St := (sRet (eOrV (eJoin (eCon (.str [44])) (eLc (itSeq (eVar 0)) (.nm 1) [1] tTrue (eApp fStrA [(eVar 1)]))) (eCon (.str [42]))))
abbrev rf_33 (Γ : Nat → Fn) : Fn := runF 2 [] (mb_33 Γ)
/-- rule_text -/
def mb_34 (Γ : Nat → Fn) : St := (sSeq (sSet 1 (eFr (eOp fAdd (eOp fAdd (eApp fLst [(eOp fIx (eVar 0) (eCon (.int 0)))]) (eLc (itSeq (eSl (eVar 0) (some (eCon (.int 1))) (some (eCon (.int 4))))) (.nm 2) [2] tTrue (eCall (Γ 33) [.v (eVar 2)]))) (eApp fLst [(eApp fStrA [(eOp fIx (eVar 0) (eCon (.int 4)))]), (eApp fStrA [(eOp fIx (eVar 0) (eCon (.int 5)))])])))) (sRet (eJoin (eCon (.str [32])) (eVar 1))))
abbrev rf_34 (Γ : Nat → Fn) : Fn := runF 3 [] (mb_34 Γ)
/-- book_text -/
def mb_35 (Γ : Nat → Fn) : St := (sSeq (sDrop (eCall (Γ 23) [.v (eVar 0)])) (sRet (eJoin (eCon (.str [10])) (eLc (itSeq (eVar 0)) (.nm 1) [1] tTrue (eCall (Γ 34) [.v (eVar 1)])))))
abbrev rf_35 (Γ : Nat → Fn) : Fn := runF 2 [] (mb_35 Γ)
/-- number_in -/
def mb_280 (Γ : Nat → Fn) : St := (sSeq (sIf (tOr (tNot (eBool (eChain fLe fLe (eCon (.int 1)) (eApp fLen [(eVar 0)]) (eCon (.int 20))))) (tNot (eBool (eApp fAllB [(eLc (itStr (eVar 0)) (.nm 1) [1] tTrue (eOp fInA (eVar 1) (eCon (.str [48, 49, 50, 51, 52, 53, 54, 55, 56, 57]))))])))) (sRet (eCon .non)) sNx) (sSeq (sIf (tAnd (eBool (eOp fEq (eOp fIx (eVar 0) (eCon (.int 0))) (eCon (.str [48])))) (eBool (eOp fGt (eApp fLen [(eVar 0)]) (eCon (.int 1))))) (sRet (eCon .non)) sNx) (sRet (eApp fIntS [(eVar 0)]))))
abbrev rf_280 (Γ : Nat → Fn) : Fn := runF 2 [] (mb_280 Γ)
/-- lines_of -/
def mb_281 (Γ : Nat → Fn) : St := (sSeq (sIf (tNot (eBool (eIsi .str (eVar 0)))) (sRaiseI 22 (eCon (.int 0))) sNx) (sSeq (sIf (eBool (eOp fEq (eVar 0) (eCon (.str [])))) (sRet (eFr (eApp fLst []))) sNx) (sRet (eFr (eSplit (eVar 0) (eCon (.str [10])))))))
abbrev rf_281 (Γ : Nat → Fn) : Fn := runF 1 [] (mb_281 Γ)
/-- some_in -/
def mb_282 (Γ : Nat → Fn) : St := (sSeq (sIf (eBool (eOp fEq (eVar 0) (eCon (.str [42])))) (sRet (eApp fTup [])) sNx) (sRet (eApp fTuple [(eSplit (eVar 0) (eCon (.str [44])))])))
abbrev rf_282 (Γ : Nat → Fn) : Fn := runF 1 [] (mb_282 Γ)
/-- rule_in -/
def mb_283 (Γ : Nat → Fn) : St := (sSeq (sSet 1 (eFr (eSplit (eVar 0) (eCon (.str [32]))))) (sSeq (sIf (eBool (eOp fNe (eApp fLen [(eVar 1)]) (eCon (.int 6)))) (sRet (eCon .non)) sNx) (sSeq (sSet 2 (eApp fTuple [(eLc (itSeq (eCall (Γ 282) [.v (eOp fIx (eVar 1) (eCon (.int 3)))])) (.nm 4) [4] tTrue (eCall (Γ 280) [.v (eVar 4)]))])) (sSeq (sSet 3 (eApp fTup [(eOp fIx (eVar 1) (eCon (.int 0))), (eCall (Γ 282) [.v (eOp fIx (eVar 1) (eCon (.int 1)))]), (eCall (Γ 282) [.v (eOp fIx (eVar 1) (eCon (.int 2)))]), (eVar 2), (eCall (Γ 280) [.v (eOp fIx (eVar 1) (eCon (.int 4)))]), (eCall (Γ 280) [.v (eOp fIx (eVar 1) (eCon (.int 5)))])])) (sSeq (sIf (eBool (eCall (Γ 4) [.v (eVar 3)])) (sRet (eVar 3)) sNx) (sRet (eCon .non)))))))
abbrev rf_283 (Γ : Nat → Fn) : Fn := runF 5 [] (mb_283 Γ)
/-- read_book -/
def mb_284 (Γ : Nat → Fn) : St := (sSeq (sSet 1 (eApp fLst [])) (sSeq (sFor (itEnum (eCall (Γ 281) [.v (eVar 0)])) (.tp [(.nm 2), (.nm 3)]) (sSeq (sSet 4 (eCall (Γ 283) [.v (eVar 3)])) (sSeq (sIf (tOr (eBool (eOp fIsA (eVar 4) (eCon .non))) (eBool (eOp fEq (eVar 2) (eCon (.int 6))))) (sRaiseI 22 (eVar 2)) sNx) (sDrop (eMth fAppend 1 [(eVar 4)]))))) (sRet (ePeekI (eApp fTuple [(eVar 1)])))))
abbrev rf_284 (Γ : Nat → Fn) : Fn := runF 5 [] (mb_284 Γ)
/-- _law_number_in -/
def mb_304 (Γ : Nat → Fn) : St := (sSeq (sIf (tOr (eBool (eOp fLt (eApp fLen [(eVar 0)]) (eCon (.int 1)))) (tOr (eBool (eOp fGt (eApp fLen [(eVar 0)]) (eCon (.int 20)))) (eBool (eOp fNe (eLc (itStr (eVar 0)) (.nm 1) [1] (eBool (eOp fNotInA (eVar 1) (eCon (.str [48, 49, 50, 51, 52, 53, 54, 55, 56, 57])))) (eVar 1)) (eApp fLst []))))) (sRet (eCon .non)) sNx) (sRet (eFr (eIf (tAnd (eBool (eOp fEq (eOp fIx (eVar 0) (eCon (.int 0))) (eCon (.str [48])))) (eBool (eOp fNe (eVar 0) (eCon (.str [48]))))) (eCon .non) (eApp fIntS [(eVar 0)])))))
abbrev rf_304 (Γ : Nat → Fn) : Fn := runF 2 [] (mb_304 Γ)
/-- _law_spoilt -/
def mb_312 (Γ : Nat → Fn) : St := (sSeq (sSet 2 (eCon (.str [32, 33, 34, 35, 36, 38, 39, 40, 41, 42, 43, 44, 45, 46, 47, 48, 49, 50, 51, 52, 53, 54, 55, 56, 57, 58, 59, 60, 61, 62, 63, 64, 65, 66, 67, 68, 69, 70, 71, 72, 73, 74, 75, 76, 77, 78, 79, 80, 81, 82, 83, 84, 85, 86, 87, 88, 89, 90, 91, 92, 93, 94, 95, 96, 97, 98, 99, 100, 101, 102, 103, 104, 105, 106, 107, 108, 109, 110, 111, 112, 113, 114, 115, 116, 117, 118, 119, 120, 121, 122, 123, 124, 125, 126, 10]))) (sSeq (sSet 3 (eOp fIx (eApp fLst [(eOp fIx (eVar 2) (eCall (Γ 7) [.b 0, .v (eApp fLen [(eVar 2)])])), (eOp fIx (eCon (.str [32, 48, 49, 44, 43, 97, 10, 42])) (eCall (Γ 7) [.b 0, .v (eCon (.int 8))]))]) (eCall (Γ 7) [.b 0, .v (eCon (.int 2))]))) (sSeq (sSet 4 (eCall (Γ 7) [.b 0, .v (eOp fAdd (eApp fLen [(eVar 1)]) (eCon (.int 1)))])) (sSeq (sSet 5 (eCall (Γ 7) [.b 0, .v (eCon (.int 10))])) (sSeq (sIf (eBool (eOp fEq (eVar 5) (eCon (.int 0)))) (sRet (eFr (eOp fAdd (eOp fAdd (eSl (eVar 1) none (some (eVar 4))) (eVar 3)) (eSl (eVar 1) (some (eVar 4)) none)))) sNx) (sSeq (sIf (eBool (eOp fEq (eVar 5) (eCon (.int 1)))) (sRet (eFr (eOp fAdd (eOp fAdd (eSl (eVar 1) none (some (eVar 4))) (eVar 3)) (eSl (eVar 1) (some (eOp fAdd (eVar 4) (eCon (.int 1)))) none)))) sNx) (sSeq (sIf (eBool (eOp fEq (eVar 5) (eCon (.int 2)))) (sRet (eFr (eOp fAdd (eSl (eVar 1) none (some (eVar 4))) (eSl (eVar 1) (some (eOp fAdd (eVar 4) (eCon (.int 1)))) none)))) sNx) (sSeq (sIf (eBool (eOp fEq (eVar 5) (eCon (.int 3)))) (sRet (eFr (eOp fAdd (eSl (eVar 1) none (some (eOp fAdd (eVar 4) (eCon (.int 1))))) (eSl (eVar 1) (some (eVar 4)) none)))) sNx) (sSeq (sSet 6 (eOp fIx (eApp fLst [(eCon (.str [32])), (eCon (.str [10]))]) (eOp fDiv (eVar 5) (eCon (.int 7))))) (sSeq (sSet 7 (eFr (eSplit (eVar 1) (eVar 6)))) (sSeq (sSet 4 (eCall (Γ 7) [.b 0, .v (eApp fLen [(eVar 7)])])) (sSeq (sSet 8 (eOp fIx (eVar 7) (eCall (Γ 7) [.b 0, .v (eApp fLen [(eVar 7)])]))) (sRet (eJoin (eVar 6) (eOp fAdd (eOp fAdd (eSl (eVar 7) none (some (eVar 4))) (eOp fIx (eApp fLst [(eApp fLst []), (eOp fMul (eApp fLst [(eOp fIx (eVar 7) (eVar 4))]) (eCon (.int 2))), (eApp fLst [(eVar 8)])]) (eOp fMod (eVar 5) (eCon (.int 3))))) (eSl (eVar 7) (some (eOp fAdd (eVar 4) (eCon (.int 1)))) none))))))))))))))))
abbrev rf_312 (Γ : Nat → Fn) : Fn := runF 9 [0] (mb_312 Γ)
/-- _law_read -/
def mb_319 (Γ : Nat → Fn) : St := (sSeq (sSet 1 (eCon .non)) (sSeq (sSet 2 (eCon (.str []))) (sSeq (sTry [13, 22] (sSet 1 (eCall (Γ 284) [.v (eVar 0)])) [⟨22, 3, 2, fun x => rTxt x⟩, ⟨10, 3, 2, fun x => .one (.str (kindT x.c))⟩]) (sRet (eApp fTup [(eVar 1), (eVar 2)])))))
abbrev rf_319 (Γ : Nat → Fn) : Fn := runF 4 [] (mb_319 Γ)
/-- _law_some_text -/
def mb_320 (Γ : Nat → Fn) : St := (sRet (eOrV (eJoin (eCon (.str [44])) (eLc (itSeq (eVar 0)) (.nm 1) [1] tTrue (eApp fStrA [(eVar 1)]))) (eCon (.str [42]))))
abbrev rf_320 (Γ : Nat → Fn) : Fn := runF 2 [] (mb_320 Γ)
/-- _law_some_in -/
def mb_321 (Γ : Nat → Fn) : St := (sRet (eFr (eIf (eBool (eOp fEq (eVar 0) (eCon (.str [42])))) (eApp fTup []) (eApp fTuple [(eSplit (eVar 0) (eCon (.str [44])))]))))
abbrev rf_321 (Γ : Nat → Fn) : Fn := runF 1 [] (mb_321 Γ)
/-- _law_due -/
def mb_322 (Γ : Nat → Fn) : St := (sSeq (sSet 1 (eApp fLst [])) (sSeq (sFor (itEnum (eIf (eBool (eOp fNe (eVar 0) (eCon (.str [])))) (eSplit (eVar 0) (eCon (.str [10]))) (eApp fLst []))) (.tp [(.nm 2), (.nm 3)]) (sSeq (sSet 4 (eFr (eSplit (eVar 3) (eCon (.str [32]))))) (sSeq (sSet 5 (eCon .non)) (sSeq (sIf (eBool (eOp fEq (eApp fLen [(eVar 4)]) (eCon (.int 6)))) (sSeq (sSet 6 (eApp fTuple [(eLc (itSeq (eCall (Γ 321) [.v (eOp fIx (eVar 4) (eCon (.int 3)))])) (.nm 7) [7] tTrue (eCall (Γ 304) [.v (eVar 7)]))])) (sSeq (sSet 5 (eApp fTup [(eOp fIx (eVar 4) (eCon (.int 0))), (eCall (Γ 321) [.v (eOp fIx (eVar 4) (eCon (.int 1)))]), (eCall (Γ 321) [.v (eOp fIx (eVar 4) (eCon (.int 2)))]), (eVar 6)])) (sSet 5 (eFr (eOp fAdd (eVar 5) (eApp fTup [(eCall (Γ 304) [.v (eOp fIx (eVar 4) (eCon (.int 4)))]), (eCall (Γ 304) [.v (eOp fIx (eVar 4) (eCon (.int 5)))])])))))) sNx) (sSeq (sIf (tOr (eBool (eOp fEq (eVar 2) (eCon (.int 6)))) (tNot (eBool (eCall (Γ 19) [.v (eApp fTup [(eVar 5)])])))) (sRet (eApp fTup [(eCon .non), (eOp fAdd (eCon (.str [78, 111, 70, 111, 114, 109, 32, 78, 111, 84, 101, 120, 116, 32, 43, 32])) (eApp fStrI [(eVar 2)]))])) sNx) (sDrop (eMth fAppend 1 [(eVar 5)]))))))) (sRet (ePeekI (eApp fTup [(eApp fTuple [(eVar 1)]), (eCon (.str []))])))))
abbrev rf_322 (Γ : Nat → Fn) : Fn := runF 8 [] (mb_322 Γ)
/-- law -/
def mb_323 (Γ : Nat → Fn) : St := (sSeq (sSet 1 (eFr (eOp fMul (eApp fLst [(eCon (.str [98, 97, 114, 32, 97, 44, 98, 32, 42, 32, 48, 44, 49, 44, 50, 44, 51, 44, 52, 44, 53, 44, 54, 32, 49, 32, 49, 48, 48, 48, 48, 48, 48]))]) (eCon (.int 7))))) (sSeq (sIf (tOr (eBool (eOp fNe (eCall (Γ 319) [.v (eJoin (eCon (.str [10])) (eVar 1))]) (eApp fTup [(eCon .non), (eCon (.str [78, 111, 70, 111, 114, 109, 32, 78, 111, 84, 101, 120, 116, 32, 43, 32, 54]))]))) (eBool (eOp fNe (eApp fLen [(eCall (Γ 284) [.v (eJoin (eCon (.str [10])) (eSl (eVar 1) none (some (eCon (.int 6)))))])]) (eCon (.int 6))))) (sRet (eCon (.bl false))) sNx) (sSeq (sFor (itRange1 (eApp fMax2 [(eCon (.int 1)), (eApp fMin2 [(eCon (.int 20)), (eApp fLen [(eVar 0)])])])) (.nm 2) (sSeq (sSet 3 (eCall (Γ 6) [.v (eVar 0), .v (eVar 2)])) (sSeq (sSet 4 (eCall (Γ 10) [.b 3, .v (eCall (Γ 37) [.b 3, .v (eCon (.int 3))]), .v (eCall (Γ 37) [.b 3, .v (eCon (.int 3))])])) (sSeq (sSet 5 (eApp fLst [])) (sSeq (sFor (itSeq (eVar 4)) (.nm 6) (sSeq (sSet 10 (eFr (eOp fAdd (eApp fLst [(eOp fIx (eVar 6) (eCon (.int 0)))]) (eLc (itSeq (eSl (eVar 6) (some (eCon (.int 1))) (some (eCon (.int 4))))) (.nm 12) [12] tTrue (eCall (Γ 320) [.v (eVar 12)]))))) (sDrop (eMth fAppend 5 [(eJoin (eCon (.str [32])) (eOp fAdd (eVar 10) (eLc (itSeq (eSl (eVar 6) (some (eCon (.int 4))) none)) (.nm 13) [13] tTrue (eApp fStrA [(eVar 13)]))))])))) (sSeq (sSet 7 (ePeekI (eJoin (eCon (.str [10])) (eVar 5)))) (sSeq (sIf (tOr (eBool (eOp fNe (eCall (Γ 35) [.v (eVar 4)]) (eVar 7))) (eBool (eOp fNe (eCall (Γ 319) [.v (eVar 7)]) (eApp fTup [(eVar 4), (eCon (.str []))])))) (sRet (eCon (.bl false))) sNx) (sSeq (sFor (itRange1 (eCon (.int 4))) (.nm 8) (sSeq (sIf (eBool (eOp fNe (eCall (Γ 319) [.v (eVar 7)]) (eCall (Γ 322) [.v (eVar 7)]))) (sRet (eCon (.bl false))) sNx) (sSet 7 (eCall (Γ 312) [.b 3, .v (eVar 7)])))) (sFor (itSeq (eApp fLst [(eCon .non), (eCon (.int 7)), (eCon (.bl true)), (eVar 4), (eApp fLst [(eVar 7)]), (eCon (.str [32])), (eCon (.str [10])), (eCon (.str [108, 101, 116, 32, 42, 32, 42, 32, 42, 32, 49, 32, 53, 32])), (eCon (.str [108, 101, 116, 32, 42, 32, 42, 32, 32, 49, 32, 53])), (eCon (.str [108, 101, 116, 32, 42, 42, 32, 42, 32, 42, 32, 49, 32, 53]))])) (.nm 9) (sSeq (sSet 11 (eFr (eIf (eBool (eIsi .str (eVar 9))) (eCall (Γ 322) [.v (eVar 9)]) (eApp fTup [(eCon .non), (eCon (.str [78, 111, 70, 111, 114, 109, 32, 78, 111, 84, 101, 120, 116, 32, 43, 32, 48]))])))) (sIf (eBool (eOp fNe (eCall (Γ 319) [.v (eVar 9)]) (eVar 11))) (sRet (eCon (.bl false))) sNx))))))))))) (sRet (eCon (.bl true))))))
abbrev rf_323 (Γ : Nat → Fn) : Fn := runF 14 [] (mb_323 Γ)
end LW
namespace LW
open TB
def bodyF (Γ : Nat → Fn) : Nat → Fn
  | 0 => rf_0 Γ
  | 1 => rf_1 Γ
  | 2 => rf_2 Γ
  | 3 => rf_3 Γ
  | 4 => rf_4 Γ
  | 5 => rf_5 Γ
  | 6 => rf_6 Γ
  | 7 => rf_7 Γ
  | 8 => rf_8 Γ
  | 9 => rf_9 Γ
  | 10 => rf_10 Γ
  | 14 => rf_14 Γ
  | 15 => rf_15 Γ
  | 16 => rf_16 Γ
  | 17 => rf_17 Γ
  | 18 => rf_18 Γ
  | 19 => rf_19 Γ
  | 23 => rf_23 Γ
  | 33 => rf_33 Γ
  | 34 => rf_34 Γ
  | 35 => rf_35 Γ
  | 37 => rf_37 Γ
  | 280 => rf_280 Γ
  | 281 => rf_281 Γ
  | 282 => rf_282 Γ
  | 283 => rf_283 Γ
  | 284 => rf_284 Γ
  | 304 => rf_304 Γ
  | 312 => rf_312 Γ
  | 319 => rf_319 Γ
  | 320 => rf_320 Γ
  | 321 => rf_321 Γ
  | 322 => rf_322 Γ
  | 323 => rf_323 Γ
  | _ => fun _ => .bad
def callF (k : Nat) : Nat → Fn := Nat.rec (fun _ _ => .bad) (fun _ Γ => bodyF Γ) k
end LW
namespace TB
section
variable {α β : Type}
@[simp] theorem bind_ap (m : M α) (f : α → M β) (S : List Slot) : M.bind m f S = (m S).bind f := rfl
@[simp] theorem rbind_ok (a : α) (S : List Slot) (f : α → M β) : (R.ok a S).bind f = f a S := rfl
@[simp] theorem rbind_bad (f : α → M β) : (R.bad : R α).bind f = .bad := rfl
@[simp] theorem rbind_exc (x : Xc) (S : List Slot) (f : α → M β) : (R.exc x S : R α).bind f = .exc x S := rfl
@[simp] theorem pure_ap (a : α) (S : List Slot) : M.pure a S = R.ok a S := rfl
@[simp] theorem ite_ap (c : Prop) [Decidable c] (f g : M α) (S : List Slot) : (if c then f else g) S = if c then f S else g S := by split <;> rfl
@[simp] theorem rbind_ite (c : Prop) [Decidable c] (x y : R α) (f : α → M β) : (if c then x else y).bind f = if c then x.bind f else y.bind f := by split <;> rfl
end
@[simp] theorem eVar_ap (i : Nat) (S : List Slot) : eVar i S = match S[i]? with | some (some (.fz, d)) => .ok (.fz, d) S | _ => .bad := rfl
@[simp] theorem eMv_ap (i : Nat) (S : List Slot) : eMv i S = match S[i]? with | some (some kd) => .ok kd (S.set i none) | _ => .bad := rfl
@[simp] theorem eFzV_ap (i : Nat) (S : List Slot) : eFzV i S = match S[i]? with | some (some (_, d)) => .ok (.fz, d) (S.set i (some (.fz, d))) | _ => .bad := rfl
@[simp] theorem eCon_ap (d : D) (S : List Slot) : eCon d S = .ok (.fz, d) S := rfl
@[simp] theorem eDat_ap (e : E) (S : List Slot) : eDat e S = (e S).bind fun kd => M.pure kd.2 := rfl
@[simp] theorem eAll_nil (S : List Slot) : eAll [] S = .ok [] S := rfl
@[simp] theorem eAll_cons (e : E) (es : List E) (S : List Slot) : eAll (e :: es) S = (eDat e S).bind fun d S1 => (eAll es S1).bind fun ds S2 => .ok (d :: ds) S2 := rfl
@[simp] theorem ofO_some (kd : KD) (S : List Slot) : ofO (some kd) S = .ok kd S := rfl
@[simp] theorem ofO_none (S : List Slot) : ofO none S = .bad := rfl
@[simp] theorem ofO_ite (c : Prop) [Decidable c] (a b : Option KD) (S : List Slot) : ofO (if c then a else b) S = if c then ofO a S else ofO b S := by split <;> rfl
@[simp] theorem eFr_ap (e : E) (S : List Slot) : eFr e S = (e S).bind fun kd S1 => .ok (.fz, kd.2) S1 := rfl
@[simp] theorem eApp_ap (f : List D → Option KD) (es : List E) (S : List Slot) : eApp f es S = (eAll es S).bind fun ds S1 => ofO (f ds) S1 := rfl
@[simp] theorem eOp_ap (f : D → D → Option KD) (a b : E) (S : List Slot) : eOp f a b S = (eDat a S).bind fun x S1 => (eDat b S1).bind fun y S2 => ofO (f x y) S2 := rfl
@[simp] theorem eUn_ap (f : D → Option KD) (a : E) (S : List Slot) : eUn f a S = (eDat a S).bind fun x S1 => ofO (f x) S1 := rfl
@[simp] theorem eIsi_ap (t : Ty) (a : E) (S : List Slot) : eIsi t a S = (eDat a S).bind fun x S1 => ofO (fIsi t x) S1 := rfl
@[simp] theorem eBool_ap (e : E) (S : List Slot) : eBool e S = (e S).bind fun kd S1 => (match kd.2 with | .bl b => (M.pure b : M Bool) | _ => fun _ => .bad) S1 := rfl
@[simp] theorem eAnd_ap (a b : E) (S : List Slot) : eAnd a b S = (eBool a S).bind fun c S1 => if c = true then b S1 else .ok (.fz, .bl false) S1 := by
  show (eBool a S).bind (fun c => if c = true then b else M.pure (.fz, .bl false)) = _
  congr 1; funext c S1; split <;> rfl
@[simp] theorem eOr_ap (a b : E) (S : List Slot) : eOr a b S = (eBool a S).bind fun c S1 => if c = true then .ok (.fz, .bl true) S1 else b S1 := by
  show (eBool a S).bind (fun c => if c = true then M.pure (.fz, .bl true) else b) = _
  congr 1; funext c S1; split <;> rfl
@[simp] theorem eNot_ap (a : E) (S : List Slot) : eNot a S = (eBool a S).bind fun c S1 => .ok (.fz, .bl (!c)) S1 := rfl
@[simp] theorem tAnd_ap (a b : T) (S : List Slot) : tAnd a b S = (a S).bind fun c S1 => if c = true then b S1 else .ok false S1 := by
  show (a S).bind (fun c => if c = true then b else M.pure false) = _
  congr 1; funext c S1; split <;> rfl
@[simp] theorem tOr_ap (a b : T) (S : List Slot) : tOr a b S = (a S).bind fun c S1 => if c = true then .ok true S1 else b S1 := by
  show (a S).bind (fun c => if c = true then M.pure true else b) = _
  congr 1; funext c S1; split <;> rfl
@[simp] theorem tNot_ap (a : T) (S : List Slot) : tNot a S = (a S).bind fun c S1 => .ok (!c) S1 := rfl
@[simp] theorem tTrue_ap (S : List Slot) : tTrue S = .ok true S := rfl
@[simp] theorem eIf_ap (c : T) (a b : E) (S : List Slot) : eIf c a b S = (c S).bind fun x S1 => if x = true then a S1 else b S1 := by
  show (c S).bind (fun x => if x = true then a else b) = _
  congr 1; funext c S1; split <;> rfl
@[simp] theorem eChain_ap (f g : D → D → Option KD) (a b c : E) (S : List Slot) : eChain f g a b c S = (eDat a S).bind fun x S1 => (eDat b S1).bind fun y S2 => chain2 g c y (f x y) S2 := rfl
@[simp] theorem chain2_ap (g : D → D → Option KD) (c : E) (y : D) (b : Bool) (S : List Slot) : chain2 g c y (some (.fz, .bl b)) S = if b = true then (eDat c S).bind fun z S1 => ofO (g y z) S1 else .ok (.fz, .bl false) S := by
  show (if b = true then M.bind (eDat c) (fun z => ofO (g y z)) else M.pure (.fz, .bl false)) S = _
  split <;> rfl
@[simp] theorem ePeek_ap (e : E) (S : List Slot) : ePeek e S = match e (S.map frz) with | .ok (_, d) _ => (if d.flat = true then .ok (.fz, d) S else .bad) | _ => .bad := rfl
@[simp] theorem tPeek_ap (c : T) (S : List Slot) : tPeek c S = match c (S.map frz) with | .ok b _ => .ok b S | _ => .bad := rfl
@[simp] theorem ePeekL_ap (e : E) (S : List Slot) : ePeekL e S = match e (S.map frz) with | .ok (.li .fz, .lst ds) _ => (if ds.all D.flat = true then .ok (.li .fz, .lst ds) S else .bad) | _ => .bad := rfl
@[simp] theorem sNx_ap (S : List Slot) : sNx S = .ok .nx S := rfl
@[simp] theorem sSet_ap (i : Nat) (e : E) (S : List Slot) : sSet i e S = (e S).bind fun kd S1 => if i < S1.length then .ok .nx (S1.set i (some kd)) else .bad := rfl
@[simp] theorem sPut_ap (g : Tg) (e : E) (S : List Slot) : sPut g e S = (eDat e S).bind fun d S1 => match g.put d S1 with | some S' => .ok .nx S' | none => .bad := rfl
@[simp] theorem sSeq_ap (a b : St) (S : List Slot) : sSeq a b S = (a S).bind fun f S1 => (match f with | .nx => b | f => M.pure f) S1 := rfl
@[simp] theorem sRet_ap (e : E) (S : List Slot) : sRet e S = (e S).bind fun kd S1 => .ok (.rt kd) S1 := rfl
@[simp] theorem sDrop_ap (e : E) (S : List Slot) : sDrop e S = (e S).bind fun _ S1 => .ok .nx S1 := rfl
@[simp] theorem sIf_ap (c : T) (a b : St) (S : List Slot) : sIf c a b S = (c S).bind fun x S1 => if x = true then a S1 else b S1 := by
  show (c S).bind (fun x => if x = true then a else b) = _
  congr 1; funext c S1; split <;> rfl
@[simp] theorem sFor_ap (it : It) (g : Tg) (b : St) (S : List Slot) : sFor it g b S = (it S).bind fun ds S1 => loop g b ds S1 := rfl
@[simp] theorem itSeq_ap (e : E) (S : List Slot) : itSeq e S = (eDat e S).bind fun d S1 => (match itemsOf d with | some xs => (M.pure xs : It) | none => fun _ => .bad) S1 := rfl
@[simp] theorem itStr_ap (e : E) (S : List Slot) : itStr e S = (eDat e S).bind fun d S1 => (match d with | .str s => (M.pure (s.map fun c => D.str [c]) : It) | _ => fun _ => .bad) S1 := rfl
@[simp] theorem itRange1_ap (e : E) (S : List Slot) : itRange1 e S = (eDat e S).bind fun d S1 => (match d with | .int j => (if j.natAbs < limN then (M.pure (rangeL 0 j.toNat) : It) else fun _ => .bad) | _ => fun _ => .bad) S1 := rfl
@[simp] theorem itRange2_ap (a b : E) (S : List Slot) : itRange2 a b S = (eDat a S).bind fun x S1 => (eDat b S1).bind fun y S2 => (match x, y with | .int i, .int j => (if i.natAbs < limN ∧ j.natAbs < limN then (M.pure (rangeL i (j - i).toNat) : It) else fun _ => .bad) | _, _ => fun _ => .bad) S2 := rfl
@[simp] theorem hasL_ap (i : Nat) (S : List Slot) : hasL i S = match ownL S i with | some _ => .ok () S | none => .bad := rfl
@[simp] theorem hasK_ap (i : Nat) (S : List Slot) : hasK i S = match ownK S i with | some _ => .ok () S | none => .bad := rfl
@[simp] theorem sSetIx_ap (i : Nat) (k e : E) (S : List Slot) : sSetIx i k e S = (eDat e S).bind fun y S1 => (hasL i S1).bind fun _ S2 => (eDat k S2).bind fun x S3 => match ownL S3 i, x with
  | some xs, .int j => (match normIx xs.length j with | some n => .ok .nx (S3.set i (some (.li .fz, .lst (xs.set n y)))) | none => .bad)
  | _, _ => .bad := rfl
@[simp] theorem eIxO_ap (i : Nat) (k : E) (S : List Slot) : eIxO i k S = (hasL i S).bind fun _ S2 => (eDat k S2).bind fun x S3 => match ownL S3 i, x with
  | some xs, .int j => (match (normIx xs.length j).bind fun n => xs[n]? with | some d => .ok (.fz, d) S3 | none => .bad)
  | _, _ => .bad := rfl
@[simp] theorem eMth_ap (f : List D → List D → Option (D × List D)) (i : Nat) (es : List E) (S : List Slot) : eMth f i es S = (hasL i S).bind fun _ S2 => (eAll es S2).bind fun ds S3 => match ownL S3 i with
  | some xs => (match f xs ds with | some (r, ys) => .ok (.fz, r) (S3.set i (some (.li .fz, .lst ys))) | none => .bad)
  | none => .bad := rfl
@[simp] theorem sDput_ap (i : Nat) (k e : E) (S : List Slot) : sDput i k e S = (eDat e S).bind fun y S1 => (hasK i S1).bind fun _ S2 => (eDat k S2).bind fun x S3 => match ownK S3 i with
  | some kvs => (if isKey x = true ∧ kvs.length < sizeMax then .ok .nx (S3.set i (some (.dK .fz, .dic (putD kvs x y)))) else .bad)
  | none => .bad := rfl
@[simp] theorem eDnew_ap (S : List Slot) : eDnew S = .ok (.dK .fz, .dic []) S := rfl
@[simp] theorem eOpt_none (S : List Slot) : eOpt none S = .ok none S := rfl
@[simp] theorem eOpt_some (e : E) (S : List Slot) : eOpt (some e) S = (eDat e S).bind fun d S1 => (match d with | .int i => (M.pure (some i) : M (Option Int)) | _ => fun _ => .bad) S1 := rfl
@[simp] theorem eSl_ap (a : E) (lo hi : Option E) (S : List Slot) : eSl a lo hi S = (eDat a S).bind fun x S1 => (eOpt lo S1).bind fun l S2 => (eOpt hi S2).bind fun h S3 => ofO (fSl x l h) S3 := rfl
@[simp] theorem eSlO_ap (i : Nat) (lo hi : Option E) (S : List Slot) : eSlO i lo hi S = (hasL i S).bind fun _ S1 => (eOpt lo S1).bind fun l S2 => (eOpt hi S2).bind fun h S3 => match ownL S3 i with
  | some xs => .ok (.li .fz, .lst (cutL xs l h)) S3
  | none => .bad := rfl
@[simp] theorem eJoin_ap (a b : E) (S : List Slot) : eJoin a b S = (eDat a S).bind fun x S1 => (match x with | .str s => M.bind (eDat b) fun y => ofO (fJoin s y) | _ => fun _ => .bad) S1 := rfl
@[simp] theorem eLRg1_ap (a : E) (S : List Slot) : eLRg1 a S = (eDat a S).bind fun d S1 => (match d with | .int j => (if j.natAbs ≤ sizeMax then (M.pure (.li .fz, .lst (rangeL 0 j.toNat)) : E) else fun _ => .bad) | _ => fun _ => .bad) S1 := rfl
theorem eCall_ap (F : Fn) (as : List Ar) (S : List Slot) : eCall F as S = (arEv as S).bind fun vs S1 => match arIn vs S1 with
  | none => .bad
  | some (ks, S1) => (match F ks with
    | .ret r os => (match arOut vs os S1 with | some S2 => .ok r S2 | none => .bad)
    | .exc x os => (match arOut vs os S1 with | some S2 => .exc x S2 | none => .bad)
    | .bad => .bad) := rfl
theorem arEv_nil (S : List Slot) : arEv [] S = .ok [] S := rfl
theorem arEv_v (e : E) (as : List Ar) (S : List Slot) : arEv (.v e :: as) S = (eDat e S).bind fun d S1 => (arEv as S1).bind fun r S2 => .ok (.v d :: r) S2 := rfl
theorem arEv_b (i : Nat) (as : List Ar) (S : List Slot) : arEv (.b i :: as) S = match S[i]? with | some (some _) => (arEv as S).bind (fun r S2 => .ok (.b i :: r) S2) | _ => .bad := rfl
def okP {α : Type} (r : R α) (Q : α → List Slot → Prop) : Prop := match r with
  | .ok a S => Q a S
  | _ => False
section
variable {α β : Type}
@[simp] theorem okP_ok (a : α) (S : List Slot) (Q : α → List Slot → Prop) : okP (.ok a S) Q = Q a S := rfl
@[simp] theorem okP_bad (Q : α → List Slot → Prop) : okP (.bad) Q = False := rfl
@[simp] theorem okP_bind (r : R α) (f : α → M β) (Q : β → List Slot → Prop) : okP (r.bind f) Q = okP r (fun a S => okP (f a S) Q) := by cases r <;> rfl
theorem okP.of {r : R α} {a : α} {S : List Slot} {Q : α → List Slot → Prop} (e : r = .ok a S) (h : Q a S) : okP r Q := by rw [e]; exact h
theorem okP.mono {r : R α} {Q Q' : α → List Slot → Prop} (h : okP r Q) (i : ∀ a S, Q a S → Q' a S) : okP r Q' := by
  cases r with
  | ok a S => exact i a S h
  | exc x S => exact h
  | bad => exact h
theorem okP.ex {r : R α} {Q : α → List Slot → Prop} (h : okP r Q) : ∃ a S, r = .ok a S ∧ Q a S := by
  cases r with
  | ok a S => exact ⟨a, S, rfl, h⟩
  | exc x S => exact h.elim
  | bad => exact h.elim
end
def fin (as : List KD) (Q : KD → List KD → Prop) (f : Fl) (S : List Slot) : Prop := match f with
  | .rt r => (match outsOf as S with | some o => Q r o | none => False)
  | .nx => (match outsOf as S with | some o => Q (.fz, .non) o | none => False)
  | _ => False
@[simp] theorem fin_rt (as : List KD) (Q : KD → List KD → Prop) (r : KD) (S : List Slot) : fin as Q (.rt r) S = (match outsOf as S with | some o => Q r o | none => False) := rfl
@[simp] theorem fin_nx (as : List KD) (Q : KD → List KD → Prop) (S : List Slot) : fin as Q .nx S = (match outsOf as S with | some o => Q (.fz, .non) o | none => False) := rfl
theorem runF_eq (n : Nat) (pk : List Nat) (body : St) (as : List KD) : runF n pk body as = if pinned pk 0 as = true then (match body (as.map some ++ List.replicate (n - as.length) none) with
    | .ok (.rt r) S => frOf as r S
    | .ok .nx S => frOf as (.fz, .non) S
    | .exc x S => (match outsOf as S with | some o => .exc x o | none => .bad)
    | _ => .bad) else .bad := rfl
/-- a function's promise -/
def FnP (F : Fn) (as : List KD) (Q : KD → List KD → Prop) : Prop := ∃ r o, F as = .ret r o ∧ Q r o
theorem runF_wp {n : Nat} {pk : List Nat} {body : St} {as : List KD} {Q : KD → List KD → Prop} (hp : pinned pk 0 as = true) (h : okP (body (as.map some ++ List.replicate (n - as.length) none)) (fin as Q)) : FnP (runF n pk body) as Q := by
  obtain ⟨f, S, e, h⟩ := h.ex
  unfold FnP
  rw [runF_eq, if_pos hp, e]
  cases f with
  | rt r =>
    show ∃ r' o, frOf as r S = .ret r' o ∧ Q r' o
    unfold frOf
    have h : (match outsOf as S with | some o => Q r o | none => False) := h
    cases e2 : outsOf as S with
    | none => rw [e2] at h; exact h.elim
    | some o => rw [e2] at h; exact ⟨r, o, rfl, h⟩
  | nx =>
    show ∃ r' o, frOf as (.fz, .non) S = .ret r' o ∧ Q r' o
    unfold frOf
    have h : (match outsOf as S with | some o => Q (.fz, .non) o | none => False) := h
    cases e2 : outsOf as S with
    | none => rw [e2] at h; exact h.elim
    | some o => rw [e2] at h; exact ⟨_, o, rfl, h⟩
  | bk => exact h.elim
  | ct => exact h.elim
theorem call_wp {F : Fn} {as : List Ar} {S : List Slot} {Q : KD → List Slot → Prop} (h : okP (arEv as S) fun vs S1 => match arIn vs S1 with
    | some (ks, S2) => FnP F ks fun r os => (match arOut vs os S2 with | some S3 => Q r S3 | none => False)
    | none => False) : okP (eCall F as S) Q := by
  rw [eCall_ap, okP_bind]
  refine h.mono fun vs S1 h => ?_
  cases e : arIn vs S1 with
  | none => rw [e] at h; exact h.elim
  | some q =>
    obtain ⟨ks, S2⟩ := q
    rw [e] at h
    obtain ⟨r, os, e2, h⟩ := h
    have h : (match arOut vs os S2 with | some S3 => Q r S3 | none => False) := h
    simp only [e2]
    cases e3 : arOut vs os S2 with
    | none => rw [e3] at h; exact h.elim
    | some S3 => rw [e3] at h; exact h
theorem runF_ret {n : Nat} {pk : List Nat} {body : St} {as : List KD} {r : KD} {S : List Slot} {o : List KD} (hp : pinned pk 0 as = true) (hb : body (as.map some ++ List.replicate (n - as.length) none) = .ok (.rt r) S) (ho : outsOf as S = some o) : runF n pk body as = .ret r o := by
  unfold runF
  rw [if_pos hp, hb]
  show frOf as r S = _
  unfold frOf
  rw [ho]
/-- a while by an invariant and a measure -/
theorem while_inv {c : T} {b : St} (I : Nat → List Slot → Prop) (h : ∀ m S, I m S → c S = .ok false S ∨ (c S = .ok true S ∧ m ≠ 0 ∧ ∃ S', b S = .ok .nx S' ∧ I (m - 1) S')) :
    ∀ n m S, m < n → I m S → ∃ m' S', sWhile n c b S = .ok .nx S' ∧ I m' S' ∧ c S' = .ok false S'
  | 0, _, _, l, _ => absurd l (Nat.not_lt_zero _)
  | n + 1, m, S, l, i => by
    unfold sWhile
    rcases h m S i with e | ⟨e, hm, S', e2, i2⟩
    · exact ⟨m, S, by rw [bind_ap, e]; rfl, i, e⟩
    · obtain ⟨m', S2, e3, i3, e4⟩ := while_inv I h n (m - 1) S' (by omega) i2
      refine ⟨m', S2, ?_, i3, e4⟩
      rw [bind_ap, e, rbind_ok, if_pos rfl, bind_ap, e2, rbind_ok]
      exact e3
def dr (a b : Int) : KD := (.li .fz, .lst [.int a, .int b])
def DI (kd : KD) : Prop := ∃ a b, kd = dr a b ∧ 0 ≤ a ∧ a < 1000000000000000000000000000000000000000000000000000000000000000000000000000000000000000000000000000000000000000000000000 ∧ 0 ≤ b ∧ b < 2147483648
def DrawOk (F : Fn) : Prop := ∀ kd m, DI kd → 1 ≤ m → m < 1000000000000000000000000000000000000000000000000000000000000 → ∃ r kd', F [kd, (.fz, .int m)] = .ret (.fz, .int r) [kd'] ∧ DI kd' ∧ 0 ≤ r ∧ r < m
def bDraw : St := (sSeq (sIf (eBool (eOp fGt (eIxO 0 (eCon (.int 0))) (eCon (.int 0)))) (sSeq (sSet 2 (eOp fMod (eIxO 0 (eCon (.int 0))) (eVar 1))) (sSeq (sSetIx 0 (eCon (.int 0)) (eOp fDiv (eIxO 0 (eCon (.int 0))) (eVar 1))) (sRet (eVar 2)))) sNx) (sSeq (sSet 2 (eCon (.int 0))) (sSeq (sSet 3 (eCon (.int 1))) (sSeq (sWhile 64 (eBool (eOp fLt (eVar 3) (eVar 1))) (sSeq (sSetIx 0 (eCon (.int 1)) (eOp fMod (eOp fMul (eIxO 0 (eCon (.int 1))) (eCon (.int 69621))) (eCon (.int 2147483647)))) (sSeq (sSet 2 (eFr (eOp fAdd (eOp fMul (eVar 2) (eCon (.int 268435456))) (eOp fDiv (eOp fMod (eOp fMul (eIxO 0 (eCon (.int 1))) (eOp fAdd (eOp fDiv (eIxO 0 (eCon (.int 1))) (eCon (.int 128))) (eCon (.int 3)))) (eCon (.int 2147483629))) (eCon (.int 8)))))) (sSet 3 (eFr (eOp fMul (eVar 3) (eCon (.int 268435456)))))))) (sRet (eOp fMod (eVar 2) (eVar 1)))))))
def wBody : St := (sSeq (sSetIx 0 (eCon (.int 1)) (eOp fMod (eOp fMul (eIxO 0 (eCon (.int 1))) (eCon (.int 69621))) (eCon (.int 2147483647)))) (sSeq (sSet 2 (eFr (eOp fAdd (eOp fMul (eVar 2) (eCon (.int 268435456))) (eOp fDiv (eOp fMod (eOp fMul (eIxO 0 (eCon (.int 1))) (eOp fAdd (eOp fDiv (eIxO 0 (eCon (.int 1))) (eCon (.int 128))) (eCon (.int 3)))) (eCon (.int 2147483629))) (eCon (.int 8)))))) (sSet 3 (eFr (eOp fMul (eVar 3) (eCon (.int 268435456)))))))
theorem draw_ok : DrawOk (runF 4 [0] bDraw) := by
  rintro _ m ⟨a, b, rfl, a0, a1, b0, b1⟩ m1 m2
  unfold dr
  by_cases ha : a > 0
  · have hm : small m := by show m.natAbs < _; omega
    refine ⟨a % m, dr (a / m) b, ?_, ⟨a / m, b, rfl, Int.ediv_nonneg a0 (by omega), Int.lt_of_le_of_lt (Int.ediv_le_self _ a0) a1, b0, b1⟩, Int.emod_nonneg _ (by omega), Int.emod_lt_of_pos _ (by omega)⟩
    have hm0 : 0 < m := by omega
    simp [bDraw, runF, pinned, Kd.isF, ownL, normIx, fGt, kz, ha, fMod, hm0, hm, fDiv, frOf, outsOf, dr]
  · obtain ⟨m', S', e1, ⟨f, w, b', rfl, h0, h1, h2, h3, h4⟩, _⟩ := while_inv (c := eBool (eOp fLt (eVar 3) (eVar 1))) (b := wBody)
      (fun j S => ∃ f w b', S = [some (dr a b'), some (.fz, .int m), some (.fz, .int f), some (.fz, .int w)] ∧ 0 ≤ b' ∧ b' < 2147483648 ∧ 0 ≤ f ∧ f < w * 1073741824 ∧ 1 ≤ w ∧ m ≤ w * 268435456 ^ j) (by
        rintro j S ⟨f, w, b', rfl, h0, h1, h2, h3, h4, h5⟩
        by_cases hw : w < m
        · right
          have hj : j ≠ 0 := by
            intro z; subst z
            simp at h5; omega
          refine ⟨by simp [fLt, kz, hw], hj, ?_⟩
          have q1 : 0 ≤ b' * 69621 % 2147483647 := Int.emod_nonneg _ (by decide)
          have q2 : b' * 69621 % 2147483647 < 2147483647 := Int.emod_lt_of_pos _ (by decide)
          generalize hb2 : b' * 69621 % 2147483647 = b2 at q1 q2
          have q3 : 0 ≤ b2 * (b2 / 128 + 3) % 2147483629 := Int.emod_nonneg _ (by decide)
          have q4 : b2 * (b2 / 128 + 3) % 2147483629 < 2147483629 := Int.emod_lt_of_pos _ (by decide)
          have s1 : small b' := by show b'.natAbs < _; omega
          have s2 : small b2 := by show b2.natAbs < _; omega
          have s3 : small (b2 / 128 + 3) := by show (b2 / 128 + 3).natAbs < _; omega
          have s4 : small f := by show f.natAbs < _; omega
          have s5 : small w := by show w.natAbs < _; omega
          refine ⟨_, by simp [wBody, ownL, dr, normIx, fMul, fMod, kz, s1, s2, s3, s4, s5, fAdd, fDiv, hb2], f * 268435456 + b2 * (b2 / 128 + 3) % 2147483629 / 8, w * 268435456, b2, rfl, q1, by omega, by omega, by omega, by omega, ?_⟩
          have : (268435456 : Int) ^ j = 268435456 * 268435456 ^ (j - 1) := by
            conv => lhs; rw [show j = (j - 1) + 1 by omega, Int.pow_succ]
            exact Int.mul_comm _ _
          rw [this, ← Int.mul_assoc] at h5
          exact h5
        · left
          simp [fLt, kz, hw]) 64 8 [some (dr a b), some (.fz, .int m), some (.fz, .int 0), some (.fz, .int 1)] (by omega) ⟨0, 1, b, rfl, b0, b1, by omega, by omega, by omega, by omega⟩
    have hm0 : 0 < m := by omega
    refine ⟨f % m, dr a b', ?_, ⟨a, b', rfl, a0, a1, h0, h1⟩, Int.emod_nonneg _ (by omega), Int.emod_lt_of_pos _ hm0⟩
    have e2 : bDraw [some (dr a b), some (.fz, .int m), none, none] = .ok (.rt (.fz, .int (f % m))) [some (dr a b'), some (.fz, .int m), some (.fz, .int f), some (.fz, .int w)] := by
      unfold dr at e1 ⊢
      unfold wBody at e1
      simp [bDraw, ownL, normIx, fGt, kz, ha, e1, fMod, hm0]
    exact runF_ret (as := [dr a b, (.fz, .int m)]) rfl e2 rfl
/-- a draw -/
theorem draw_wp {F : Fn} (hF : DrawOk F) {S : List Slot} {i : Nat} {kd0 : KD} {e : E} {Q : KD → List Slot → Prop} (h0 : S[i]? = some (some kd0))
    (he : okP (eDat e S) fun d S1 => match d with
      | .int m => 1 ≤ m ∧ m < 1000000000000000000000000000000000000000000000000000000000000 ∧ (match S1[i]? with | some (some kd) => DI kd ∧ ∀ (r : Int) (kd' : KD), DI kd' → 0 ≤ r → r < m → Q (.fz, .int r) (S1.set i (some kd')) | _ => False)
      | _ => False) : okP (eCall F [.b i, .v e] S) Q := by
  refine call_wp ?_
  rw [arEv_b, h0]
  simp only [okP_bind]
  rw [arEv_v, okP_bind]
  refine he.mono fun d S1 h => ?_
  cases d with
  | int m =>
    obtain ⟨m1, m2, h⟩ := h
    rw [arEv_nil]
    cases e1 : S1[i]? with
    | none => rw [e1] at h; exact h.elim
    | some s =>
      cases s with
      | none => rw [e1] at h; exact h.elim
      | some kd =>
        rw [e1] at h
        obtain ⟨hd, h⟩ := h
        obtain ⟨r, kd', e2, d2, r0, r1⟩ := hF kd m hd m1 m2
        obtain ⟨a, b, rfl, _⟩ := hd
        obtain ⟨a', b', rfl, hh⟩ := id d2
        have h := h r (dr a' b') ⟨a', b', rfl, hh⟩ r0 r1
        rw [rbind_ok, okP_ok, okP_ok]
        have e3 : arIn [.b i, .v (.int m)] S1 = some ([dr a b, (.fz, .int m)], S1.set i none) := by
          simp [arIn, e1, dr, Kd.isF]
        rw [e3]
        refine ⟨_, _, e2, ?_⟩
        have e4 : arOut [.b i, .v (.int m)] [dr a' b'] (S1.set i none) = some (S1.set i (some (dr a' b'))) := by
          simp [arOut]
        simp only [e4]
        exact h
  | _ => exact h.elim
end TB
namespace TB
theorem set_self {S : List Slot} {v : Nat} (hv : v < S.length) (h : S[v]? = some s) : S.set v s = S := by
  apply List.ext_getElem?
  intro j
  by_cases q : v = j
  · subst q; rw [List.getElem?_set_self hv, h]
  · rw [List.getElem?_set_ne q]
theorem cLoop_pure {S : List Slot} {v : Nat} {c : T} {e : E} {p : D → Bool} {f : D → D} (hv : v < S.length) : ∀ (ds acc : List D),
    (∀ d ∈ ds, c (S.set v (some (.fz, d))) = .ok (p d) (S.set v (some (.fz, d)))) → (∀ d ∈ ds, p d = true → ∃ k, e (S.set v (some (.fz, d))) = .ok (k, f d) (S.set v (some (.fz, d)))) → acc.length + ds.length ≤ sizeMax →
    cLoop (.nm v) [v] c e ds acc (S.set v none) = .ok (acc ++ (ds.filter p).map f) (S.set v none)
  | [], acc, _, _, _ => by simp [cLoop, M.pure]
  | d :: ds, acc, hc, he, hl => by
    unfold cLoop
    have h1 : Tg.put (.nm v) d (S.set v none) = some (S.set v (some (.fz, d))) := by
      unfold Tg.put
      rw [if_pos (by rw [List.length_set]; exact hv), List.set_set]
    have h2 : ∀ S' : List Slot, wipeS S' [v] = S'.set v none := fun _ => rfl
    have hl2 : acc.length + ds.length + 1 ≤ sizeMax := by simpa [Nat.add_assoc] using hl
    rw [h1]
    show R.bind (c (S.set v (some (.fz, d)))) _ = _
    rw [hc d List.mem_cons_self, rbind_ok]
    cases hp : p d with
    | false =>
      show cLoop (.nm v) [v] c e ds acc (wipeS (S.set v (some (.fz, d))) [v]) = _
      rw [h2, List.set_set, cLoop_pure hv ds acc (fun x hx => hc x (List.mem_cons_of_mem _ hx)) (fun x hx => he x (List.mem_cons_of_mem _ hx)) (by omega)]
      simp [hp]
    | true =>
      obtain ⟨k, hk⟩ := he d List.mem_cons_self hp
      show R.bind (eDat e (S.set v (some (.fz, d)))) _ = _
      rw [eDat_ap, hk]
      show (if acc.length < sizeMax then cLoop (.nm v) [v] c e ds (acc ++ [f d]) (wipeS (S.set v (some (.fz, d))) [v]) else .bad) = _
      rw [if_pos (by omega), h2, List.set_set, cLoop_pure hv ds (acc ++ [f d]) (fun x hx => hc x (List.mem_cons_of_mem _ hx)) (fun x hx => he x (List.mem_cons_of_mem _ hx)) (by rw [List.length_append, List.length_singleton]; omega)]
      simp [hp]
/-- a comprehension that changes nothing -/
theorem lc_pure {S0 S : List Slot} {v : Nat} {it : It} {c : T} {e : E} {ds : List D} (p : D → Bool) (f : D → D) (hit : it S0 = .ok ds S) (hv : v < S.length) (hz : fzAt S v = true)
    (hc : ∀ d ∈ ds, c (S.set v (some (.fz, d))) = .ok (p d) (S.set v (some (.fz, d)))) (he : ∀ d ∈ ds, p d = true → ∃ k, e (S.set v (some (.fz, d))) = .ok (k, f d) (S.set v (some (.fz, d)))) (hl : ds.length ≤ sizeMax) :
    eLc it (.nm v) [v] c e S0 = .ok (.li .fz, .lst ((ds.filter p).map f)) S := by
  unfold eLc
  rw [bind_ap, hit, rbind_ok]
  have h1 : ([v].all (fzAt S) && noDup [v] && (Tg.nm v).sl.all [v].contains) = true := by simp [hz, noDup, Tg.sl]
  rw [if_pos h1]
  have h2 : wipeS S [v] = S.set v none := rfl
  rw [h2, cLoop_pure hv ds [] hc he (by simpa using hl)]
  have h3 : backS S (S.set v none) [v] = S := by
    show (S.set v none).set v (S.getD v none) = S
    rw [List.set_set]
    refine set_self hv ?_
    rw [List.getElem?_eq_getElem hv, List.getD_eq_getElem?_getD, List.getElem?_eq_getElem hv]
    rfl
  simp [h3]
theorem cLoop_inv {v n : Nat} {e : E} (I : List Slot → Prop) (Q : D → Prop) (hI : ∀ S, I S → v < S.length) : ∀ (ds acc : List D) (S : List Slot), I S → acc.length + ds.length ≤ sizeMax →
    (∀ S d, I S → d ∈ ds → ∃ k y S', e (S.set v (some (.fz, d))) = .ok (k, y) S' ∧ I (S'.set v none) ∧ Q y) →
    ∃ ys S', cLoop (.nm v) [v] tTrue e ds acc S = .ok (acc ++ ys) S' ∧ I S' ∧ ys.length = ds.length ∧ ∀ y ∈ ys, Q y
  | [], acc, S, i, _, _ => ⟨[], S, by simp [cLoop, M.pure], i, rfl, fun y hy => by simp at hy⟩
  | d :: ds, acc, S, i, hl, he => by
    have hl2 : acc.length + ds.length + 1 ≤ sizeMax := by simpa [Nat.add_assoc] using hl
    obtain ⟨k, y, S1, e1, i1, q1⟩ := he S d i List.mem_cons_self
    obtain ⟨ys, S2, e2, i2, l2, q2⟩ := cLoop_inv (n := n) I Q hI ds (acc ++ [y]) (S1.set v none) i1 (by rw [List.length_append, List.length_singleton]; omega) fun S d i h => he S d i (List.mem_cons_of_mem _ h)
    refine ⟨y :: ys, S2, ?_, i2, by simp [l2], fun z hz => ?_⟩
    · unfold cLoop
      have h1 : Tg.put (.nm v) d S = some (S.set v (some (.fz, d))) := by
        unfold Tg.put
        rw [if_pos (hI S i)]
      rw [h1]
      show R.bind (eDat e (S.set v (some (.fz, d)))) _ = _
      rw [eDat_ap, e1]
      show (if acc.length < sizeMax then cLoop (.nm v) [v] tTrue e ds (acc ++ [y]) (wipeS S1 [v]) else .bad) = _
      rw [if_pos (by omega)]
      have h2 : wipeS S1 [v] = S1.set v none := rfl
      rw [h2, e2]
      simp
    · rcases List.mem_cons.mp hz with h | h
      · rw [h]; exact q1
      · exact q2 z h
/-- a comprehension whose items keep I -/
theorem lc_inv {S0 S : List Slot} {v : Nat} {it : It} {e : E} {ds : List D} (I : List Slot → Prop) (Q : D → Prop) (hit : it S0 = .ok ds S) (hz : fzAt S v = true) (hl : ds.length ≤ sizeMax) (hI : ∀ S, I S → v < S.length) (i : I (S.set v none))
    (he : ∀ S d, I S → d ∈ ds → ∃ k y S', e (S.set v (some (.fz, d))) = .ok (k, y) S' ∧ I (S'.set v none) ∧ Q y) :
    ∃ ys S', eLc it (.nm v) [v] tTrue e S0 = .ok (.li .fz, .lst ys) (S'.set v (S.getD v none)) ∧ I S' ∧ ys.length = ds.length ∧ ∀ y ∈ ys, Q y := by
  obtain ⟨ys, S', e1, i1, l1, q1⟩ := cLoop_inv (n := 0) I Q hI ds [] (S.set v none) i (by simpa using hl) he
  refine ⟨ys, S', ?_, i1, l1, q1⟩
  unfold eLc
  rw [bind_ap, hit, rbind_ok]
  have h1 : ([v].all (fzAt S) && noDup [v] && (Tg.nm v).sl.all [v].contains) = true := by simp [hz, noDup, Tg.sl]
  rw [if_pos h1]
  have h2 : wipeS S [v] = S.set v none := rfl
  rw [h2, e1]
  rfl
/-- a for by an invariant: J by the items left -/
theorem loop_inv {v : Nat} {b : St} (I : List D → List Slot → Prop) (hI : ∀ ds S, I ds S → v < S.length) (h : ∀ d ds S, I (d :: ds) S → ∃ S', b (S.set v (some (.fz, d))) = .ok .nx S' ∧ I ds S') :
    ∀ ds S, I ds S → ∃ S', loop (.nm v) b ds S = .ok .nx S' ∧ I [] S'
  | [], S, i => ⟨S, rfl, i⟩
  | d :: ds, S, i => by
    obtain ⟨S1, e1, i1⟩ := h d ds S i
    obtain ⟨S2, e2, i2⟩ := loop_inv I hI h ds S1 i1
    refine ⟨S2, ?_, i2⟩
    unfold loop
    have h1 : Tg.put (.nm v) d S = some (S.set v (some (.fz, d))) := by
      unfold Tg.put
      rw [if_pos (hI _ S i)]
    rw [h1]
    show R.bind (b (S.set v (some (.fz, d)))) _ = _
    rw [e1]
    exact e2
/-- the same as promises -/
theorem lc_wp {it : It} {e : E} {v : Nat} {S : List Slot} {Q : KD → List Slot → Prop} (I : List Slot → Prop) (P : D → Prop) (hI : ∀ S, I S → v < S.length)
    (h : okP (it S) fun ds S1 => fzAt S1 v = true ∧ ds.length ≤ sizeMax ∧ I (S1.set v none) ∧ (∀ S d, I S → d ∈ ds → okP (e (S.set v (some (.fz, d)))) fun a S' => I (S'.set v none) ∧ P a.2) ∧
      ∀ ys S', ys.length = ds.length → (∀ y ∈ ys, P y) → I S' → Q (.li .fz, .lst ys) (S'.set v (S1.getD v none))) : okP (eLc it (.nm v) [v] tTrue e S) Q := by
  obtain ⟨ds, S1, e1, hz, hl, i, he, hq⟩ := h.ex
  obtain ⟨ys, S', e2, i2, l2, q2⟩ := lc_inv (e := e) I P e1 hz hl hI i fun S d i hd => by
    obtain ⟨⟨k, y⟩, S', e3, i3, q3⟩ := (he S d i hd).ex
    exact ⟨k, y, S', e3, i3, q3⟩
  exact okP.of e2 (hq ys S' l2 q2 i2)
theorem lcp_wp {it : It} {c : T} {e : E} {v : Nat} {S : List Slot} {Q : KD → List Slot → Prop} (p : D → Bool) (f : D → D)
    (h : okP (it S) fun ds S1 => fzAt S1 v = true ∧ v < S1.length ∧ ds.length ≤ sizeMax ∧ (∀ d ∈ ds, c (S1.set v (some (.fz, d))) = .ok (p d) (S1.set v (some (.fz, d)))) ∧ (∀ d ∈ ds, p d = true → ∃ k, e (S1.set v (some (.fz, d))) = .ok (k, f d) (S1.set v (some (.fz, d)))) ∧
      Q (.li .fz, .lst ((ds.filter p).map f)) S1) : okP (eLc it (.nm v) [v] c e S) Q := by
  obtain ⟨ds, S1, e1, hz, hv, hl, hc, he, hq⟩ := h.ex
  exact okP.of (lc_pure p f e1 hv hz hc he hl) hq
theorem loop_wp {v : Nat} {b : St} {S : List Slot} {ds : List D} {Q : Fl → List Slot → Prop} (I : List D → List Slot → Prop) (hI : ∀ ds S, I ds S → v < S.length) (i : I ds S)
    (h : ∀ d ds S, I (d :: ds) S → okP (b (S.set v (some (.fz, d)))) fun f S' => f = .nx ∧ I ds S') (hq : ∀ S, I [] S → Q .nx S) : okP (loop (.nm v) b ds S) Q := by
  obtain ⟨S', e, i2⟩ := loop_inv (b := b) I hI (fun d ds S i => by
    obtain ⟨f, S', e1, rfl, i1⟩ := (h d ds S i).ex
    exact ⟨S', e1, i1⟩) ds S i
  exact okP.of e (hq S' i2)
end TB
namespace TB
def bDraws : St := (sSeq (sSet 2 (eFr (eOp fMul (eCon (.int 15485863)) (eVar 1)))) (sSeq (sIf (eBool (eOp fLt (eVar 1) (eApp fLen [(eVar 0)]))) (sSet 2 (eOp fMod (eOp fIx (eVar 0) (eVar 1)) (eOp fMul (eOp fPow (eCon (.int 10)) (eCon (.int 60))) (eOp fPow (eCon (.int 10)) (eCon (.int 60)))))) (sIf (eBool (eOp fGt (eApp fLen [(eVar 0)]) (eCon (.int 0)))) (sSet 2 (eFr (eOp fAdd (eOp fMod (eOp fIx (eVar 0) (eOp fMod (eVar 1) (eApp fLen [(eVar 0)]))) (eOp fPow (eCon (.int 10)) (eCon (.int 15)))) (eOp fMul (eCon (.int 15485863)) (eVar 1))))) sNx)) (sRet (eApp fLst [(eOp fMul (eVar 2) (eApp fIntB [(eOp fGe (eVar 2) (eOp fPow (eCon (.int 10)) (eCon (.int 18))))])), (eOp fAdd (eCon (.int 1)) (eOp fMod (eOp fAdd (eOp fMul (eVar 2) (eCon (.int 69621))) (eOp fMul (eCon (.int 86028121)) (eOp fAdd (eVar 1) (eCon (.int 1))))) (eCon (.int 2147483646))))]))))
def DrawsOk (F : Fn) : Prop := ∀ (ns : List Int) (k : Int), 0 ≤ k → k ≤ 1000 → ∃ kd, F [(.fz, .scr ns), (.fz, .int k)] = .ret kd [] ∧ DI kd
theorem normIx_nat {n : Nat} {k : Int} (h0 : 0 ≤ k) (h : k < n) : normIx n k = some k.toNat := by
  unfold normIx
  rw [if_pos h0, if_pos h]
theorem draws_tail {ns : List Int} {k c : Int} (k0 : 0 ≤ k) (k1 : k ≤ 1000) (c0 : 0 ≤ c) (c1 : c < 1000000000000000000000000000000000000000000000000000000000000000000000000000000000000000000000000000000000000000000000000) :
    ∃ kd, (sRet (eApp fLst [(eOp fMul (eVar 2) (eApp fIntB [(eOp fGe (eVar 2) (eOp fPow (eCon (.int 10)) (eCon (.int 18))))])), (eOp fAdd (eCon (.int 1)) (eOp fMod (eOp fAdd (eOp fMul (eVar 2) (eCon (.int 69621))) (eOp fMul (eCon (.int 86028121)) (eOp fAdd (eVar 1) (eCon (.int 1))))) (eCon (.int 2147483646))))])) [some (.fz, .scr ns), some (.fz, .int k), some (.fz, .int c)] =
      .ok (.rt kd) [some (.fz, .scr ns), some (.fz, .int k), some (.fz, .int c)] ∧ DI kd := by
  have s1 : small c := by show c.natAbs < _; omega
  have s2 : small (k + 1) := by show (k + 1).natAbs < _; omega
  by_cases h : 1000000000000000000 ≤ c
  · refine ⟨_, by simp [fPow, fGe, fIntB, fMul, fAdd, fMod, fLst, kz, h, s1, s2, sizeMax]; rfl, c, _, rfl, c0, c1, ?_, ?_⟩
    · have := Int.emod_nonneg (c * 69621 + 86028121 * (k + 1)) (b := 2147483646) (by decide); omega
    · have := Int.emod_lt_of_pos (c * 69621 + 86028121 * (k + 1)) (b := 2147483646) (by decide); omega
  · refine ⟨_, by simp [fPow, fGe, fIntB, fMul, fAdd, fMod, fLst, kz, h, s1, s2, sizeMax]; rfl, 0, _, rfl, by omega, by omega, ?_, ?_⟩
    · have := Int.emod_nonneg (c * 69621 + 86028121 * (k + 1)) (b := 2147483646) (by decide); omega
    · have := Int.emod_lt_of_pos (c * 69621 + 86028121 * (k + 1)) (b := 2147483646) (by decide); omega
theorem draws_ok : DrawsOk (runF 3 [] bDraws) := by
  intro ns k k0 k1
  have sk : small k := by show k.natAbs < _; omega
  have main : ∃ kd c, bDraws [some (.fz, .scr ns), some (.fz, .int k), none] = .ok (.rt kd) [some (.fz, .scr ns), some (.fz, .int k), some (.fz, .int c)] ∧ DI kd := by
    unfold bDraws
    by_cases h : k < (ns.length : Int)
    · have hn : k.toNat < ns.length := by omega
      have e1 := Int.emod_nonneg ns[k.toNat] (b := 1000000000000000000000000000000000000000000000000000000000000000000000000000000000000000000000000000000000000000000000000) (by decide)
      have e2 := Int.emod_lt_of_pos ns[k.toNat] (b := 1000000000000000000000000000000000000000000000000000000000000000000000000000000000000000000000000000000000000000000000000) (by decide)
      obtain ⟨kd, h1, h2⟩ := draws_tail (ns := ns) k0 k1 e1 e2
      refine ⟨kd, ns[k.toNat] % 1000000000000000000000000000000000000000000000000000000000000000000000000000000000000000000000000000000000000000000000000, ?_, h2⟩
      rw [← h1]
      simp [fMul, fLt, fLen, kz, sk, h, fIx, normIx_nat k0 h, hn, fPow, fMod]
    · by_cases hl : 0 < ns.length
      · have hl' : (0 : Int) < ns.length := by omega
        have m0 := Int.emod_nonneg k (b := (ns.length : Int)) (by omega)
        have m1 := Int.emod_lt_of_pos k hl'
        have hn : (k % (ns.length : Int)).toNat < ns.length := by omega
        have e1 := Int.emod_nonneg ns[(k % (ns.length : Int)).toNat] (b := 1000000000000000) (by decide)
        have e2 := Int.emod_lt_of_pos ns[(k % (ns.length : Int)).toNat] (b := 1000000000000000) (by decide)
        obtain ⟨kd, h1, h2⟩ := draws_tail (ns := ns) (c := ns[(k % (ns.length : Int)).toNat] % 1000000000000000 + 15485863 * k) k0 k1 (by omega) (by omega)
        refine ⟨kd, ns[(k % (ns.length : Int)).toNat] % 1000000000000000 + 15485863 * k, ?_, h2⟩
        rw [← h1]
        simp [fMul, fLt, fLen, fGt, kz, sk, h, hl, fIx, normIx_nat m0 m1, hn, fPow, fMod, fAdd]
      · have hl0 : ns.length = 0 := by omega
        obtain ⟨kd, h1, h2⟩ := draws_tail (ns := ns) (c := 15485863 * k) k0 k1 (by omega) (by omega)
        refine ⟨kd, 15485863 * k, ?_, h2⟩
        rw [← h1]
        simp [fMul, fLt, fLen, fGt, kz, sk, h, hl]
  obtain ⟨kd, c, e, h⟩ := main
  exact ⟨kd, runF_ret (as := [(.fz, .scr ns), (.fz, .int k)]) rfl e rfl, h⟩
end TB
namespace TB
def bNames (F : Fn) : St := (sSeq (sSet 2 (eCon (.str [97, 98, 99, 100, 101, 102, 103, 104, 105, 106, 107, 108, 109, 110, 111, 112, 113, 114, 115, 116, 117, 118, 119, 120, 121, 122]))) (sSeq (sSet 3 (eJoin (eCon (.str [])) (eLc (itRange1 (eOp fIx (eApp fLst [(eCon (.int 0)), (eCon (.int 1)), (eCon (.int 2)), (eCon (.int 7))]) (eCall F [.b 0, .v (eCon (.int 4))]))) (.nm 6) [6] tTrue (eOp fIx (eVar 2) (eCall F [.b 0, .v (eCon (.int 26))]))))) (sSeq (sSet 4 (eCall F [.b 0, .v (eCon (.int 26))])) (sSeq (sSet 5 (eOp fIx (eApp fLst [(eCon (.int 1)), (eCon (.int 3)), (eCon (.int 5)), (eCon (.int 7))]) (eCall F [.b 0, .v (eCon (.int 4))]))) (sRet (eFr (eApp fSorted [(eLc (itRange1 (eVar 1)) (.nm 6) [6] tTrue (eOp fAdd (eVar 3) (eOp fIx (eVar 2) (eOp fMod (eOp fAdd (eVar 4) (eOp fMul (eVar 5) (eVar 6))) (eCon (.int 26))))))])))))))
def abc : List Nat := [97, 98, 99, 100, 101, 102, 103, 104, 105, 106, 107, 108, 109, 110, 111, 112, 113, 114, 115, 116, 117, 118, 119, 120, 121, 122]
/-- names: texts of one to eight letters -/
def nameS (s : List Nat) : Bool := decide (1 ≤ s.length) && decide (s.length ≤ 8) && s.all (abc.contains ·)
theorem abc_ix {r : Int} (h0 : 0 ≤ r) (h1 : r < 26) : ∃ c, fIx (.str abc) (.int r) = some (.fz, .str [c]) ∧ c ∈ abc ∧ c = 97 + r.toNat := by
  have hn : r.toNat < 26 := by omega
  have hl : abc.length = 26 := rfl
  refine ⟨abc[r.toNat]'(by rw [hl]; exact hn), ?_, List.getElem_mem _, ?_⟩
  · show (if abc.length ≤ sizeMax then (normIx abc.length r).bind fun n => abc[n]?.bind fun c => kz (.str [c]) else none) = _
    rw [if_pos (by decide), normIx_nat h0 (by rw [hl]; exact h1)]
    simp [hl, hn, kz]
  · generalize r.toNat = n at hn
    have : ∀ n : Fin 26, abc[n.1]? = some (97 + n.1) := by decide
    have := this ⟨n, hn⟩
    rw [List.getElem?_eq_getElem (by rw [hl]; exact hn)] at this
    exact Option.some.inj this
def NamesQ (m : Int) (r : KD) (o : List KD) : Prop := ∃ (ss : List (List Nat)) (kd : KD), r = (.fz, .lst (ss.map D.str)) ∧ o = [kd] ∧ DI kd ∧ ss.length = m.toNat ∧ (∀ s ∈ ss, nameS s = true) ∧ ss.Pairwise (· ≤ ·) ∧ ss.Nodup
def NamesOk (F : Fn) : Prop := ∀ (kd : KD) (m : Int), DI kd → 0 ≤ m → m ≤ 26 → FnP F [kd, (.fz, .int m)] (NamesQ m)
theorem strsOf_map : ∀ ss : List (List Nat), strsOf (ss.map D.str) = some ss
  | [] => rfl
  | s :: ss => by simp [strsOf, strsOf_map ss]
theorem strs_exists : ∀ ys : List D, (∀ y ∈ ys, ∃ c, y = .str [c] ∧ c ∈ abc) → ∃ cs : List Nat, ys = cs.map (fun c => .str [c]) ∧ (∀ c ∈ cs, c ∈ abc)
  | [], _ => ⟨[], rfl, fun _ h => by simp at h⟩
  | y :: ys, h => by
    obtain ⟨c, e, m⟩ := h y List.mem_cons_self
    obtain ⟨cs, e2, m2⟩ := strs_exists ys fun z hz => h z (List.mem_cons_of_mem _ hz)
    exact ⟨c :: cs, by rw [e, e2]; rfl, fun x hx => by rcases List.mem_cons.mp hx with q | q; (rw [q]; exact m); exact m2 x q⟩
theorem join_ones : ∀ cs : List Nat, joinD [] (cs.map fun c => [c]) = cs
  | [] => rfl
  | [c] => rfl
  | c :: d :: cs => by
    show [c] ++ ([] ++ joinD [] ((d :: cs).map fun c => [c])) = _
    rw [join_ones (d :: cs)]; rfl
theorem sortT_perm (xs : List (List Nat)) : (sortT xs).Perm xs := List.mergeSort_perm _ _
theorem sortT_pair (xs : List (List Nat)) : (sortT xs).Pairwise (· ≤ ·) := by
  unfold sortT
  have e : (fun a b : List Nat => !decide (b < a)) = fun a b => decide (a ≤ b) := by
    funext a b
    rw [← decide_not]
    exact decide_eq_decide.mpr List.not_lt
  rw [e]
  have := List.pairwise_mergeSort (le := fun a b : List Nat => decide (a ≤ b)) (fun a b c h1 h2 => by simp at *; exact List.le_trans h1 h2) (fun a b => by simp; exact List.le_total a b) xs
  exact this.imp fun h => by simpa using h
theorem fIx_lst {xs : List D} {r : Int} (h0 : 0 ≤ r) (h1 : r < xs.length) : ∃ x ∈ xs, fIx (.lst xs) (.int r) = some (.fz, x) := by
  have hn : r.toNat < xs.length := by omega
  refine ⟨xs[r.toNat], List.getElem_mem _, ?_⟩
  show ((normIx xs.length r).bind fun n => xs[n]?.bind kz) = _
  rw [normIx_nat h0 h1]
  simp [hn, kz]
theorem pick_int {xs : List D} {r lo hi : Int} (h0 : 0 ≤ r) (h1 : r < xs.length) (h : ∀ x ∈ xs, ∃ j, x = .int j ∧ lo ≤ j ∧ j ≤ hi) : ∃ j, fIx (.lst xs) (.int r) = some (.fz, .int j) ∧ lo ≤ j ∧ j ≤ hi := by
  obtain ⟨x, hx, e⟩ := fIx_lst h0 h1
  obtain ⟨j, rfl, h2⟩ := h x hx
  exact ⟨j, e, h2⟩
theorem small_i {i : Int} (h0 : 0 ≤ i) (h1 : i < 1000000000000000000000000000000000000000000000000000000000000) : small i := by show i.natAbs < _; omega
theorem ones_sum : ∀ cs : List Nat, ((cs.map fun c => [c]).map (·.length)).sum = cs.length
  | [] => rfl
  | c :: cs => by
    show 1 + ((cs.map fun c => [c]).map (·.length)).sum = cs.length + 1
    rw [ones_sum cs]; omega
theorem abc_eq : abc = [97, 98, 99, 100, 101, 102, 103, 104, 105, 106, 107, 108, 109, 110, 111, 112, 113, 114, 115, 116, 117, 118, 119, 120, 121, 122] := rfl
def stepOk (s : Int) : Prop := s = 1 ∨ s = 3 ∨ s = 5 ∨ s = 7
def nth (stem : List Nat) (a s : Int) (d : D) : D := match d with
  | .int k => .str (stem ++ [97 + ((a + s * k) % 26).toNat])
  | _ => .non
def nthS (stem : List Nat) (a s : Int) (k : Nat) : List Nat := stem ++ [97 + ((a + s * (k : Int)) % 26).toNat]
theorem nth_map (stem : List Nat) (a s : Int) (n : Nat) : (rangeL 0 n).map (nth stem a s) = ((List.range n).map (nthS stem a s)).map D.str := by
  unfold rangeL
  rw [List.map_map, List.map_map]
  refine List.map_congr_left fun k _ => ?_
  show nth stem a s (.int (0 + (k : Int))) = D.str (nthS stem a s k)
  rw [Int.zero_add]; rfl
theorem nth_inj {stem : List Nat} {a s : Int} (hs : stepOk s) {i j : Nat} (hi : i < 26) (hj : j < 26) (h : nthS stem a s i = nthS stem a s j) : i = j := by
  unfold nthS at h
  have h := List.append_cancel_left h
  have h : 97 + ((a + s * (i : Int)) % 26).toNat = 97 + ((a + s * (j : Int)) % 26).toNat := by simpa using h
  have m1 := Int.emod_nonneg (a + s * (i : Int)) (b := 26) (by decide)
  have m2 := Int.emod_nonneg (a + s * (j : Int)) (b := 26) (by decide)
  rcases hs with rfl | rfl | rfl | rfl <;> omega
theorem nth_name {stem : List Nat} {a s : Int} (h1 : stem.length ≤ 7) (h2 : ∀ c ∈ stem, c ∈ abc) (k : Nat) : nameS (nthS stem a s k) = true := by
  unfold nameS nthS
  have m1 := Int.emod_nonneg (a + s * (k : Int)) (b := 26) (by decide)
  have m2 := Int.emod_lt_of_pos (a + s * (k : Int)) (b := 26) (by decide)
  generalize hc : ((a + s * (k : Int)) % 26).toNat = c
  have hc2 : c < 26 := by omega
  have h3 : ∀ n : Fin 26, abc.contains (97 + n.1) = true := by decide
  have h3 := h3 ⟨c, hc2⟩
  have h4 : stem.all (abc.contains ·) = true := List.all_eq_true.mpr fun c hc => by simpa using h2 c hc
  simp only [List.length_append, List.length_singleton, List.all_append, h4, List.all_cons, List.all_nil, h3]
  simp
  omega
theorem map_nodup {α β : Type} {f : α → β} : ∀ {l : List α}, l.Nodup → (∀ a ∈ l, ∀ b ∈ l, f a = f b → a = b) → (l.map f).Nodup
  | [], _, _ => .nil
  | x :: l, h, i => by
    rw [List.nodup_cons] at h
    rw [List.map_cons, List.nodup_cons]
    refine ⟨fun m => ?_, map_nodup h.2 fun a ha b hb => i a (List.mem_cons_of_mem _ ha) b (List.mem_cons_of_mem _ hb)⟩
    obtain ⟨y, hy, e⟩ := List.mem_map.mp m
    have := i y (List.mem_cons_of_mem _ hy) x List.mem_cons_self e
    exact h.1 (this ▸ hy)
theorem intsOf_str {s : List Nat} {ds : List D} : intsOf (.str s :: ds) = none := rfl
theorem sorted_strs {ss : List (List Nat)} (h : ss.length < 64) : fSorted [.lst (ss.map D.str)] = some (.li .fz, .lst ((sortT ss).map D.str)) := by
  cases ss with
  | nil => simp [fSorted, intsOf, sortI, sortT]
  | cons s ss =>
    show (match intsOf (.str s :: ss.map D.str) with | some is => some ((.li .fz, .lst ((sortI is).map D.int)) : KD) | none => match strsOf ((s :: ss).map D.str) with | some ss => if ss.length < 64 then some ((.li .fz, .lst ((sortT ss).map D.str)) : KD) else none | none => none) = _
    rw [intsOf_str, strsOf_map]
    exact if_pos h
theorem names_ok {F : Fn} (hF : DrawOk F) : NamesOk (runF 7 [0] (bNames F)) := by
  intro kd m hd m0 m1
  refine runF_wp (by obtain ⟨a, b, rfl, _⟩ := hd; rfl) ?_
  simp [bNames, ← abc_eq, -Prod.exists, -Prod.forall]
  refine lc_wp (fun S => ∃ kd, DI kd ∧ S = [some kd, some (.fz, .int m), some (.fz, .str abc), none, none, none, none]) (fun d => ∃ c, d = .str [c] ∧ c ∈ abc) ?_ ?_
  · rintro S ⟨_, _, rfl⟩; simp
  simp [-Prod.exists, -Prod.forall]
  refine draw_wp hF rfl ?_
  simp [hd, -Prod.exists, -Prod.forall]
  intro r kd2 hd2 r0 r1
  obtain ⟨j, e, j0, j1⟩ := pick_int (xs := [.int 0, .int 1, .int 2, .int 7]) (lo := 0) (hi := 7) r0 (by simpa using r1) (by simp)
  have hj : j.natAbs < limN := by unfold limN; omega
  simp [e, hj, -Prod.exists, -Prod.forall]
  refine ⟨by simp [fzAt], by simp [rangeL, sizeMax]; omega, hd2, ?_, ?_⟩
  · rintro S d kd3 hd3 rfl hm
    simp [-Prod.exists, -Prod.forall]
    refine draw_wp hF rfl ?_
    simp [hd3, -Prod.exists, -Prod.forall]
    intro r kd4 hd4 r2 r3
    obtain ⟨c, e2, hc, _⟩ := abc_ix r2 r3
    simp [e2, hc, -Prod.exists, -Prod.forall]
    exact hd4
  · rintro ys S' hl hy kd3 hd3 rfl
    obtain ⟨cs, rfl, hcs⟩ := strs_exists ys hy
    have hl2 : cs.length ≤ 7 := by
      rw [List.length_map] at hl
      rw [hl]; simp [rangeL]; omega
    have ej : fJoin [] (.lst (cs.map fun c => D.str [c])) = some (.fz, .str cs) := by
      have e1 : (cs.map fun c => D.str [c]) = (cs.map fun c => [c]).map D.str := by rw [List.map_map]; rfl
      show (strsOf _).bind _ = _
      rw [e1, strsOf_map]
      show (if ((cs.map fun c => [c]).map (·.length)).sum + (cs.map fun c => [c]).length * 0 ≤ sizeMax then kz (.str (joinD [] (cs.map fun c => [c]))) else none) = _
      rw [ones_sum, join_ones, if_pos (by simp [sizeMax]; omega)]
      rfl
    simp [ej, -Prod.exists, -Prod.forall]
    refine draw_wp hF rfl ?_
    simp [hd3, -Prod.exists, -Prod.forall]
    intro a kd4 hd4 a0 a1
    refine draw_wp hF rfl ?_
    simp [hd4, -Prod.exists, -Prod.forall]
    intro r kd5 hd5 r4 r5
    obtain ⟨x, hx, e3⟩ := fIx_lst (xs := [.int 1, .int 3, .int 5, .int 7]) r4 (by simpa using r5)
    have hs : ∃ s, x = .int s ∧ stepOk s := by
      unfold stepOk
      simp at hx
      rcases hx with rfl | rfl | rfl | rfl <;> simp
    obtain ⟨s, rfl, hs⟩ := hs
    have s0 : 0 ≤ s := by unfold stepOk at hs; omega
    have s1 : s ≤ 7 := by unfold stepOk at hs; omega
    simp [e3, -Prod.exists, -Prod.forall]
    refine lcp_wp (fun _ => true) (nth cs a s) ?_
    have hm : m.natAbs < limN := by unfold limN; omega
    simp [hm, -Prod.exists, -Prod.forall]
    refine ⟨by simp [fzAt], by simp [rangeL, sizeMax]; omega, ?_, ?_⟩
    · intro d hd
      unfold rangeL at hd
      obtain ⟨k, hk, rfl⟩ := List.mem_map.mp hd
      have hk := List.mem_range.mp hk
      have q1 := Int.emod_nonneg (a + s * (0 + (k : Int))) (b := 26) (by decide)
      have q2 := Int.emod_lt_of_pos (a + s * (0 + (k : Int))) (b := 26) (by decide)
      obtain ⟨c, e4, _, e5⟩ := abc_ix q1 q2
      have z1 : small s := small_i s0 (by omega)
      have z2 : small (0 + (k : Int)) := small_i (by omega) (by omega)
      have z3 : cs.length + 1 ≤ sizeMax := by simp [sizeMax]; omega
      simp only [Int.zero_add] at e4 e5 z2 ⊢
      exact ⟨.fz, by simp [fMul, fAdd, fMod, kz, z1, z2, e4, z3, nth, e5]; omega⟩
    · rw [show ∀ l : List D, l.filter (fun _ => true) = l from fun l => List.filter_eq_self.mpr fun _ _ => rfl, nth_map, sorted_strs (by simp; omega)]
      obtain ⟨ka, kb, rfl, _⟩ := hd
      obtain ⟨kc, kd', rfl, hh⟩ := hd5
      simp [outsOf, dr, Kd.isF, -Prod.exists]
      refine ⟨_, _, rfl, rfl, ⟨kc, kd', rfl, hh⟩, ?_, ?_, sortT_pair _, ?_⟩
      · rw [(sortT_perm _).length_eq]; simp
      · intro x hx
        obtain ⟨k, _, rfl⟩ := List.mem_map.mp ((sortT_perm _).mem_iff.mp hx)
        exact nth_name hl2 hcs k
      · refine (sortT_perm _).nodup_iff.mpr (map_nodup List.nodup_range fun i hi j hj e => ?_)
        have hi := List.mem_range.mp hi
        have hj := List.mem_range.mp hj
        exact nth_inj hs (by omega) (by omega) e
end TB
namespace TB
def bSome (F : Fn) : St := (sSeq (sSet 3 eDnew) (sSeq (sFor (itRange1 (eCall F [.b 0, .v (eOp fAdd (eVar 2) (eCon (.int 1)))])) (.nm 4) (sDput 3 (eOp fIx (eVar 1) (eCall F [.b 0, .v (eApp fLen [(eVar 1)])])) (eCon (.bl true)))) (sRet (eApp fTuple [(eApp fSorted [(ePeekL (eApp fList [(eVar 3)]))])]))))
section
variable {α : Type} [DecidableEq α]
theorem putD_map {K : α → D} (he : ∀ a b, D.eqv (K a) (K b) = decide (a = b)) (as : List α) (a : α) : putD (as.map fun a => (K a, D.bl true)) (K a) (.bl true) = (if a ∈ as then as else as ++ [a]).map fun a => (K a, D.bl true) := by
  unfold putD
  have h1 : ((as.map fun a => (K a, D.bl true)).any fun p => D.eqv p.1 (K a)) = decide (a ∈ as) := by
    rw [List.any_map, Bool.eq_iff_iff, List.any_eq_true, decide_eq_true_iff]
    constructor
    · rintro ⟨b, hb, e⟩
      have e : D.eqv (K b) (K a) = true := e
      rw [he, decide_eq_true_iff] at e
      exact e ▸ hb
    · intro h
      exact ⟨a, h, by show D.eqv (K a) (K a) = true; rw [he]; simp⟩
  rw [h1]
  by_cases h : a ∈ as
  · rw [if_pos (by simpa using h), if_pos h, List.map_map]
    refine List.map_congr_left fun b _ => ?_
    show (if D.eqv (K b) (K a) = true then (K b, D.bl true) else (K b, D.bl true)) = _
    split <;> rfl
  · rw [if_neg (by simpa using h), if_neg h, List.map_append]
    rfl
theorem all_flat {K : α → D} (hf : ∀ a, (K a).flat = true) (as : List α) : (as.map K).all D.flat = true := by
  rw [List.all_map, List.all_eq_true]
  exact fun a _ => hf a
def SomeQ (K : α → D) (srt : List α → List α) (src : List α) (m : Int) (r : KD) (o : List KD) : Prop := ∃ (as : List α) (kd : KD), r = (.fz, .tup ((srt as).map K)) ∧ o = [kd] ∧ DI kd ∧ as.Nodup ∧ as.length ≤ m.toNat ∧ ∀ a ∈ as, a ∈ src
theorem some_gen {F : Fn} (hF : DrawOk F) {K : α → D} (hk : ∀ a, isKey (K a) = true) (hf : ∀ a, (K a).flat = true) (he : ∀ a b, D.eqv (K a) (K b) = decide (a = b)) {srt : List α → List α} (hs : ∀ as : List α, as.length < 64 → fSorted [.lst (as.map K)] = some (.li .fz, .lst ((srt as).map K)))
    {kd : KD} {src : List α} {m : Int} (hd : DI kd) (l0 : 1 ≤ src.length) (l1 : src.length ≤ 1000) (m0 : 0 ≤ m) (m1 : m ≤ 60) : FnP (runF 5 [0] (bSome F)) [kd, (.fz, .lst (src.map K)), (.fz, .int m)] (SomeQ K srt src m) := by
  refine runF_wp (by obtain ⟨a, b, rfl, _⟩ := hd; rfl) ?_
  simp [bSome, -Prod.exists, -Prod.forall]
  refine draw_wp hF rfl ?_
  simp [fAdd, kz, hd, -Prod.exists, -Prod.forall]
  refine ⟨by omega, by omega, fun r kd2 hd2 r0 r1 => ?_⟩
  have hr : r.natAbs < limN := by unfold limN; omega
  simp [hr, -Prod.exists, -Prod.forall]
  refine loop_wp (fun ds S => ∃ (kd : KD) (as : List α) (x : Slot), DI kd ∧ as.Nodup ∧ as.length + ds.length ≤ m.toNat ∧ (∀ a ∈ as, a ∈ src) ∧ S = [some kd, some (.fz, .lst (src.map K)), some (.fz, .int m), some (.dK .fz, .dic (as.map fun a => (K a, D.bl true))), x]) ?_ ?_ ?_ ?_
  · rintro ds S ⟨kd, as, x, _, _, _, _, rfl⟩; simp
  · exact ⟨kd2, [], none, hd2, .nil, by simp [rangeL]; omega, by simp, rfl⟩
  · rintro d ds S ⟨kd3, as, x, hd3, nd, hl, hsub, rfl⟩
    simp [ownK, -Prod.exists, -Prod.forall]
    refine draw_wp hF rfl ?_
    simp [fLen, kz, hd3, -Prod.exists, -Prod.forall]
    refine ⟨by omega, by omega, fun r kd4 hd4 r2 r3 => ?_⟩
    obtain ⟨y, hy, e⟩ := fIx_lst (xs := src.map K) r2 (by simpa using r3)
    obtain ⟨a, ha, rfl⟩ := List.mem_map.mp hy
    have hz : as.length < sizeMax := by simp [sizeMax]; simp at hl; omega
    simp [e, hk, hz, putD_map he, -Prod.exists, -Prod.forall]
    refine ⟨kd4, hd4, if a ∈ as then as else as ++ [a], ?_, ?_, ?_, rfl, rfl⟩
    · split
      · exact nd
      · rename_i h
        rw [List.nodup_append]
        exact ⟨nd, by simp, fun b hb c hc => by simp at hc; subst hc; intro z; subst z; exact h hb⟩
    · simp at hl
      split
      · omega
      · simp; omega
    · intro b hb
      split at hb
      · exact hsub b hb
      · rcases List.mem_append.mp hb with h | h
        · exact hsub b h
        · simp at h; subst h; exact ha
  · rintro S ⟨kd3, as, x, hd3, nd, hl, hsub, rfl⟩
    simp at hl
    have e1 : (as.map fun a => (K a, D.bl true)).map (·.1) = as.map K := by rw [List.map_map]; rfl
    simp [frz, fList, e1, all_flat hf, -Prod.exists, -Prod.forall]
    have e2 := hs as (by omega)
    simp [e1, e2, fTuple, kz, -Prod.exists, -Prod.forall]
    obtain ⟨ka, kb, rfl, _⟩ := hd
    obtain ⟨kc, ke, rfl, hh⟩ := hd3
    simp [outsOf, dr, Kd.isF, -Prod.exists]
    exact ⟨as, _, rfl, rfl, ⟨kc, ke, rfl, hh⟩, nd, by omega, hsub⟩
end
theorem some_str {F : Fn} (hF : DrawOk F) {kd : KD} {src : List (List Nat)} {m : Int} (hd : DI kd) (l0 : 1 ≤ src.length) (l1 : src.length ≤ 1000) (m0 : 0 ≤ m) (m1 : m ≤ 60) : FnP (runF 5 [0] (bSome F)) [kd, (.fz, .lst (src.map D.str)), (.fz, .int m)] (SomeQ D.str sortT src m) :=
  some_gen hF (fun _ => rfl) (fun _ => rfl) (fun a b => by show (a == b) = _; rw [Bool.eq_iff_iff]; simp) (fun as h => sorted_strs h) hd l0 l1 m0 m1
theorem intsOf_map : ∀ is : List Int, intsOf (is.map D.int) = some is
  | [] => rfl
  | i :: is => by simp [intsOf, intsOf_map is]
theorem some_int {F : Fn} (hF : DrawOk F) {kd : KD} {src : List Int} {m : Int} (hd : DI kd) (l0 : 1 ≤ src.length) (l1 : src.length ≤ 1000) (m0 : 0 ≤ m) (m1 : m ≤ 60) : FnP (runF 5 [0] (bSome F)) [kd, (.fz, .lst (src.map D.int)), (.fz, .int m)] (SomeQ D.int sortI src m) :=
  some_gen hF (fun _ => rfl) (fun _ => rfl) (fun a b => by show (a == b) = _; rw [Bool.eq_iff_iff]; simp) (fun as _ => by show (match intsOf (as.map D.int) with | some is => some ((.li .fz, .lst ((sortI is).map D.int)) : KD) | none => _) = _; rw [intsOf_map]) hd l0 l1 m0 m1
end TB
namespace TB
theorem boolsOf_map {α : Type} (g : α → Bool) : ∀ l : List α, boolsOf (l.map fun x => D.bl (g x)) = some (l.map g)
  | [] => rfl
  | x :: l => by simp [boolsOf, boolsOf_map g l]
theorem filter_true (l : List D) : l.filter (fun _ => true) = l := List.filter_eq_self.mpr fun _ _ => rfl
section
variable {it : It} {c : T} {e : E} {v : Nat} {S : List Slot} {ds : List D}
theorem lays_of : ∀ {xs : List D}, (∀ d ∈ xs, d.lay n = true) → D.lays n xs = true
  | [], _ => by unfold D.lays; rfl
  | x :: xs, h => by
    unfold D.lays
    rw [h x List.mem_cons_self, lays_of fun d hd => h d (List.mem_cons_of_mem _ hd)]; rfl
theorem filt_nil (g : D → Bool) (ds : List D) : D.eqv (.lst (ds.filter fun d => !g d)) (.lst []) = ds.all g := by
  show D.eqvs _ [] = _
  have : ∀ l : List D, D.eqvs l [] = l.isEmpty := fun l => by cases l <;> (unfold D.eqvs; rfl)
  rw [this]
  induction ds with
  | nil => rfl
  | cons d ds ih =>
    rw [List.filter_cons, List.all_cons]
    cases h : g d with
    | true => simpa using ih
    | false => simp
theorem nil_lc (g : D → Bool) (hit : it S = .ok ds S) (hz : fzAt S v = true) (hv : v < S.length) (hl : ds.length ≤ sizeMax) (hc : ∀ d ∈ ds, c (S.set v (some (.fz, d))) = .ok (!g d) (S.set v (some (.fz, d)))) :
    eLc it (.nm v) [v] c (eVar v) S = .ok (.li .fz, .lst (ds.filter fun d => !g d)) S := by
  have h := lc_pure (c := c) (e := eVar v) (fun d => !g d) id hit hv hz hc (fun d hd _ => ⟨.fz, by rw [eVar_ap, List.getElem?_set_self hv]; rfl⟩) hl
  rw [List.map_id] at h
  exact h
end
section
variable {it : It} {c : T} {e : E} {v : Nat} {S : List Slot} {ds : List D}
theorem all_ex (g : D → Bool) (hit : it S = .ok ds S) (hz : fzAt S v = true) (hv : v < S.length) (hl : ds.length ≤ sizeMax) (he : ∀ d ∈ ds, ∃ k, e (S.set v (some (.fz, d))) = .ok (k, .bl (g d)) (S.set v (some (.fz, d)))) :
    ∃ ys, eLc it (.nm v) [v] tTrue e S = .ok (.li .fz, .lst ys) S ∧ fAllB [.lst ys] = some (.fz, .bl (ds.all g)) := by
  have h := lc_pure (c := tTrue) (e := e) (fun _ => true) (fun d => .bl (g d)) hit hv hz (fun _ _ => rfl) (fun d hd _ => he d hd) hl
  rw [filter_true] at h
  refine ⟨_, h, ?_⟩
  show ((boolsOf _).bind fun bs => kz (.bl (bs.all id))) = _
  rw [boolsOf_map]
  show kz (.bl ((ds.map g).all id)) = _
  rw [List.all_map]; rfl
theorem none_ex (g : D → Bool) (hit : it S = .ok ds S) (hz : fzAt S v = true) (hv : v < S.length) (hl : ds.length ≤ sizeMax) (hc : ∀ d ∈ ds, c (S.set v (some (.fz, d))) = .ok (!g d) (S.set v (some (.fz, d)))) (hy : ∀ d ∈ ds, d.lay 59 = true) :
    ∃ ys, eLc it (.nm v) [v] c (eVar v) S = .ok (.li .fz, .lst ys) S ∧ fEq (.lst ys) (.lst []) = some (.fz, .bl (ds.all g)) ∧ fNe (.lst ys) (.lst []) = some (.fz, .bl (!ds.all g)) := by
  have h1 : eqOk (.lst (ds.filter fun d => !g d)) (.lst []) = true := by
    unfold eqOk
    have : D.lay 60 (.lst (ds.filter fun d => !g d)) = true := by
      unfold D.lay
      exact lays_of fun d hd => hy d (List.mem_filter.mp hd).1
    rw [this]
    simp [D.lay, D.lays]
  refine ⟨_, nil_lc g hit hz hv hl hc, ?_, ?_⟩
  · simp [fEq, h1, filt_nil, kz]
  · simp [fNe, h1, filt_nil, kz]
theorem fLst_nil : fLst [] = some (.li .fz, .lst []) := rfl
end
def good (b : Nat) : Nat → D → Prop
  | _, .non => True
  | _, .bl _ => True
  | _, .int _ => True
  | _, .str s => s.length ≤ b ∧ ∀ c ∈ s, c < 1114112
  | n + 1, .lst xs => xs.length ≤ b ∧ ∀ x ∈ xs, good b n x
  | n + 1, .tup xs => xs.length ≤ b ∧ ∀ x ∈ xs, good b n x
  | _, _ => False
theorem good_lay {b : Nat} : ∀ {n : Nat} {d : D}, good b n d → d.lay n = true := by
  intro n
  induction n with
  | zero => intro d h; cases d <;> simp only [good] at h <;> simp [D.lay] <;> first | exact h.2 | exact h.elim
  | succ n ih =>
    intro d h
    cases d <;> simp only [good] at h <;> unfold D.lay <;> first | rfl | exact lays_of fun d hd => ih (h.2 d hd) | simpa using h.2 | exact h.elim
theorem lay_mono : ∀ {n n' : Nat} {d : D}, n ≤ n' → d.lay n = true → d.lay n' = true := by
  intro n
  induction n with
  | zero => intro n' d hn h; cases d <;> cases n' <;> simp [D.lay] at h ⊢ <;> exact h
  | succ n ih =>
    intro n' d hn h
    cases n' with
    | zero => omega
    | succ n' =>
      have ys : ∀ {xs : List D}, D.lays n xs = true → D.lays n' xs = true := by
        intro xs
        induction xs with
        | nil => intro _; unfold D.lays; rfl
        | cons x xs ih2 =>
          intro h
          unfold D.lays at h ⊢
          obtain ⟨h1, h2⟩ := Bool.and_eq_true_iff.mp h
          rw [ih (by omega) h1, ih2 h2]; rfl
      cases d <;> unfold D.lay at h ⊢ <;> first | exact h | exact ys h
@[elab_as_elim] theorem good_elim {b n : Nat} {d : D} {P : D → Prop} (h : good b n d) (h1 : P .non) (h2 : ∀ x, P (.bl x)) (h3 : ∀ i, P (.int i)) (h4 : ∀ s : List Nat, s.length ≤ b → (∀ c ∈ s, c < 1114112) → P (.str s))
    (h5 : ∀ (xs : List D) (n' : Nat), n = n' + 1 → xs.length ≤ b → (∀ x ∈ xs, good b n' x) → P (.lst xs)) (h6 : ∀ (xs : List D) (n' : Nat), n = n' + 1 → xs.length ≤ b → (∀ x ∈ xs, good b n' x) → P (.tup xs)) : P d := by
  cases d with
  | non => exact h1
  | bl x => exact h2 x
  | int i => exact h3 i
  | str s =>
    have h : s.length ≤ b ∧ ∀ c ∈ s, c < 1114112 := by cases n <;> exact h
    exact h4 s h.1 h.2
  | lst xs => cases n with
    | zero => exact h.elim
    | succ n => exact h5 xs n rfl h.1 h.2
  | tup xs => cases n with
    | zero => exact h.elim
    | succ n => exact h6 xs n rfl h.1 h.2
  | _ => cases n <;> exact h.elim
theorem FnP.eq {F : Fn} {as : List KD} {r : KD} {o : List KD} (h : FnP F as fun r' o' => r' = r ∧ o' = o) : F as = .ret r o := by
  obtain ⟨r', o', e, rfl, rfl⟩ := h
  exact e
end TB
namespace TB
theorem arEv_vs : ∀ (es : List E) (S : List Slot), arEv (es.map Ar.v) S = (eAll es S).bind fun ds S1 => .ok (ds.map AV.v) S1
  | [], S => rfl
  | e :: es, S => by
    rw [List.map_cons, arEv_v, eAll_cons]
    cases eDat e S with
    | ok d S1 =>
      show (arEv (es.map Ar.v) S1).bind _ = ((eAll es S1).bind _).bind _
      rw [arEv_vs es S1]
      cases eAll es S1 <;> rfl
    | exc x S1 => rfl
    | bad => rfl
theorem arIn_vs : ∀ (ds : List D) (S : List Slot), arIn (ds.map AV.v) S = some (ds.map fun d => (.fz, d), S)
  | [], S => rfl
  | d :: ds, S => by rw [List.map_cons]; unfold arIn; rw [arIn_vs ds S]; rfl
theorem arOut_vs : ∀ (ds : List D) (S : List Slot), arOut (ds.map AV.v) [] S = some S
  | [], S => rfl
  | d :: ds, S => by rw [List.map_cons]; unfold arOut; exact arOut_vs ds S
theorem DI.own {kd : KD} (h : DI kd) : kd.1.isF = false := by obtain ⟨a, b, rfl, _⟩ := h; rfl
theorem callB_wp {F : Fn} {i : Nat} {es : List E} {S : List Slot} {kd0 : KD} {Q : KD → List Slot → Prop} (h0 : S[i]? = some (some kd0))
    (h : okP (eAll es S) fun ds S1 => match S1[i]? with
      | some (some kd) => DI kd ∧ FnP F (kd :: ds.map fun d => (.fz, d)) fun r o => ∃ kd', o = [kd'] ∧ DI kd' ∧ Q r (S1.set i (some kd'))
      | _ => False) : okP (eCall F (.b i :: es.map Ar.v) S) Q := by
  refine call_wp ?_
  rw [arEv_b, h0]
  simp only [okP_bind]
  rw [arEv_vs, okP_bind]
  refine h.mono fun ds S1 h => ?_
  cases e1 : S1[i]? with
  | none => rw [e1] at h; exact h.elim
  | some s =>
    cases s with
    | none => rw [e1] at h; exact h.elim
    | some kd =>
      rw [e1] at h
      obtain ⟨hd, r, o, e2, kd', rfl, d2, q⟩ := h
      show (match arIn (.b i :: ds.map AV.v) S1 with | some (ks, S2) => _ | none => False)
      have e3 : arIn (.b i :: ds.map AV.v) S1 = some (kd :: ds.map fun d => (.fz, d), S1.set i none) := by
        unfold arIn
        rw [e1]
        simp only [hd.own, Bool.false_eq_true, if_false]
        rw [arIn_vs]; rfl
      rw [e3]
      refine ⟨r, [kd'], e2, ?_⟩
      have e4 : arOut (.b i :: ds.map AV.v) [kd'] (S1.set i none) = some (S1.set i (some kd')) := by
        unfold arOut
        rw [List.set_set, arOut_vs]
      simp only [e4]
      exact q
theorem call1_wp {F : Fn} {i : Nat} {a : E} {S : List Slot} {kd0 : KD} {Q : KD → List Slot → Prop} (h0 : S[i]? = some (some kd0))
    (h : okP (eAll [a] S) fun ds S1 => match S1[i]? with
      | some (some kd) => DI kd ∧ FnP F (kd :: ds.map fun d => (.fz, d)) fun r o => ∃ kd', o = [kd'] ∧ DI kd' ∧ Q r (S1.set i (some kd'))
      | _ => False) : okP (eCall F [.b i, .v a] S) Q := callB_wp (es := [a]) h0 h
theorem call2_wp {F : Fn} {i : Nat} {a b : E} {S : List Slot} {kd0 : KD} {Q : KD → List Slot → Prop} (h0 : S[i]? = some (some kd0))
    (h : okP (eAll [a, b] S) fun ds S1 => match S1[i]? with
      | some (some kd) => DI kd ∧ FnP F (kd :: ds.map fun d => (.fz, d)) fun r o => ∃ kd', o = [kd'] ∧ DI kd' ∧ Q r (S1.set i (some kd'))
      | _ => False) : okP (eCall F [.b i, .v a, .v b] S) Q := callB_wp (es := [a, b]) h0 h
theorem call3_wp {F : Fn} {i : Nat} {a b c : E} {S : List Slot} {kd0 : KD} {Q : KD → List Slot → Prop} (h0 : S[i]? = some (some kd0))
    (h : okP (eAll [a, b, c] S) fun ds S1 => match S1[i]? with
      | some (some kd) => DI kd ∧ FnP F (kd :: ds.map fun d => (.fz, d)) fun r o => ∃ kd', o = [kd'] ∧ DI kd' ∧ Q r (S1.set i (some kd'))
      | _ => False) : okP (eCall F [.b i, .v a, .v b, .v c] S) Q := callB_wp (es := [a, b, c]) h0 h
theorem FnP.mono {F : Fn} {as : List KD} {Q Q' : KD → List KD → Prop} (h : FnP F as Q) (i : ∀ r o, Q r o → Q' r o) : FnP F as Q' := by
  obtain ⟨r, o, e, q⟩ := h
  exact ⟨r, o, e, i r o q⟩
end TB
namespace LW
open TB
def nameB (d : D) : Bool := match d with
  | .str s => nameS s
  | _ => false
def withinB (d : D) (lo hi : Int) : Bool := match d with
  | .int i => decide (lo ≤ i) && decide (i ≤ hi)
  | _ => false
def ltB : D → D → Bool
  | .int i, .int j => decide (i < j)
  | .str a, .str b => decide (a < b)
  | _, _ => false
def riseAt (xs : List D) (d : D) : Bool := match d with
  | .int k => ltB (xs.getD (k - 1).toNat .non) (xs.getD k.toNat .non)
  | _ => false
def riseB (xs : List D) : Bool := (rangeL 1 (xs.length - 1)).all (riseAt xs)
/-- all ints or all texts -/
def like (xs : List D) : Prop := (∀ x ∈ xs, ∃ i, x = .int i) ∨ (∀ x ∈ xs, ∃ s, x = .str s)
def namesB (d : D) (few many : Int) : Bool := match d with
  | .tup xs => decide (few ≤ xs.length) && decide ((xs.length : Int) ≤ many) && xs.all nameB && riseB xs
  | _ => false
section
variable {Γ : Nat → Fn} {b n : Nat} {d : D}
theorem within_0 {lo hi : Int} (h : good b n d) : runF 3 [] (mb_0 Γ) [(.fz, d), (.fz, .int lo), (.fz, .int hi)] = .ret (.fz, .bl (withinB d lo hi)) [] := by
  refine FnP.eq (runF_wp (by rfl) ?_)
  refine good_elim h ?_ ?_ ?_ ?_ ?_ ?_ <;> intros <;> simp [mb_0, fIsi, D.isTy, kz, fLe, chain2_ap, outsOf, Kd.isF, withinB]
  rename_i i
  by_cases h1 : lo ≤ i <;> simp [h1, outsOf, Kd.isF]
theorem inA (c : Nat) : fInA (.str [c]) (.str abc) = some (.fz, .bl (decide (c ∈ abc))) := rfl
theorem notInA (c : Nat) : fNotInA (.str [c]) (.str abc) = some (.fz, .bl (!decide (c ∈ abc))) := rfl
def signB (d : D) : Bool := match d with
  | .str [c] => decide (c ∈ abc)
  | _ => false
theorem signs (s : List Nat) : (s.map fun c => D.str [c]).all signB = s.all (abc.contains ·) := by
  rw [List.all_map]
  congr 1
  funext c
  show decide (c ∈ abc) = abc.contains c
  rw [Bool.eq_iff_iff]; simp
theorem fIx_tup {xs : List D} {k : Int} (h0 : 0 ≤ k) (h1 : k < xs.length) : fIx (.tup xs) (.int k) = some (.fz, xs.getD k.toNat .non) := by
  have hn : k.toNat < xs.length := by omega
  show ((normIx xs.length k).bind fun n => xs[n]?.bind kz) = _
  rw [normIx_nat h0 h1]
  simp [hn, kz, List.getD_eq_getElem?_getD]
theorem like_lt {xs : List D} (h : like xs) {i j : Nat} (hi : i < xs.length) (hj : j < xs.length) : fLt (xs.getD i .non) (xs.getD j .non) = some (.fz, .bl (ltB (xs.getD i .non) (xs.getD j .non))) ∧ fGe (xs.getD i .non) (xs.getD j .non) = some (.fz, .bl (!ltB (xs.getD i .non) (xs.getD j .non))) := by
  have gi : xs.getD i .non = xs[i] := by simp [List.getD_eq_getElem?_getD, hi]
  have gj : xs.getD j .non = xs[j] := by simp [List.getD_eq_getElem?_getD, hj]
  rw [gi, gj]
  rcases h with h | h
  · obtain ⟨a, ea⟩ := h _ (List.getElem_mem hi)
    obtain ⟨c, ec⟩ := h _ (List.getElem_mem hj)
    rw [ea, ec]
    refine ⟨rfl, ?_⟩
    show kz (.bl (decide (c ≤ a))) = some (.fz, .bl (!decide (a < c)))
    rw [← decide_not, decide_eq_decide.mpr Int.not_lt]; rfl
  · obtain ⟨a, ea⟩ := h _ (List.getElem_mem hi)
    obtain ⟨c, ec⟩ := h _ (List.getElem_mem hj)
    rw [ea, ec]
    exact ⟨rfl, rfl⟩
theorem lim1 : 1 < limN := by decide
theorem mem_rangeL {lo : Int} {n : Nat} {d : D} (h : d ∈ rangeL lo n) : ∃ i : Nat, i < n ∧ d = .int (lo + i) := by
  unfold rangeL at h
  obtain ⟨i, hi, rfl⟩ := List.mem_map.mp h
  exact ⟨i, List.mem_range.mp hi, rfl⟩
theorem rangeL_length (lo : Int) (n : Nat) : (rangeL lo n).length = n := by simp [rangeL]
theorem like_names {xs : List D} (h : xs.all nameB = true) : like xs := .inr fun x hx => by
  have := List.all_eq_true.mp h x hx
  cases x <;> simp [nameB] at this
  exact ⟨_, rfl⟩
end
end LW
namespace LW
open TB
def tLet : List Nat := [108, 101, 116]
def tBar : List Nat := [98, 97, 114]
def wordB (d : D) : Bool := match d with
  | .str w => decide (w = tLet) || decide (w = tBar)
  | _ => false
def daysB (d : D) : Bool := match d with
  | .tup ds => ds.all (fun d => withinB d 0 6) && riseB ds
  | _ => false
def hiB (g f : D) : Bool := match f with
  | .int l => withinB g l 1000000
  | _ => false
def rule6 (a c e f g h : D) : Bool := wordB a && (namesB c 0 2 && (namesB e 0 2 && (daysB f && (withinB g 1 1000000 && hiB h g))))
def ruleB (d : D) : Bool := match d with
  | .tup [a, c, e, f, g, h] => rule6 a c e f g h
  | _ => false
def bookB (d : D) : Bool := match d with
  | .tup xs => decide (xs.length ≤ 6) && xs.all ruleB
  | _ => false
theorem fNe_int (i j : Int) : fNe (.int i) (.int j) = some (.fz, .bl (!decide (i = j))) := by
  have : D.eqv (.int i) (.int j) = decide (i = j) := by show (i == j) = _; rw [Bool.eq_iff_iff]; simp
  unfold fNe
  rw [if_pos (by rfl), this]; rfl
theorem fEq_int (i j : Int) : fEq (.int i) (.int j) = some (.fz, .bl (decide (i = j))) := by
  have : D.eqv (.int i) (.int j) = decide (i = j) := by show (i == j) = _; rw [Bool.eq_iff_iff]; simp
  unfold fEq
  rw [if_pos (by rfl), this]; rfl
theorem str_or {b n : Nat} {d : D} (h : good b n d) : (∃ s, d = .str s) ∨ (fIsi .str d = some (.fz, .bl false) ∧ wordB d = false) := by
  refine good_elim h ?_ ?_ ?_ ?_ ?_ ?_ <;> intros <;> first | exact .inr ⟨rfl, rfl⟩ | exact .inl ⟨_, rfl⟩
theorem tup_or {b n : Nat} {d : D} (h : good b n d) : (∃ xs n', d = .tup xs ∧ n = n' + 1 ∧ xs.length ≤ b ∧ ∀ x ∈ xs, good b n' x) ∨ (fIsi .tuple d = some (.fz, .bl false) ∧ daysB d = false ∧ ruleB d = false ∧ bookB d = false ∧ ∀ few many, namesB d few many = false) := by
  refine good_elim h ?_ ?_ ?_ ?_ ?_ ?_ <;> intros <;> first | exact .inr ⟨rfl, rfl, rfl, rfl, fun _ _ => rfl⟩ | skip
  exact .inl ⟨_, _, rfl, by assumption, by assumption, by assumption⟩
theorem word_notin (w : List Nat) : fNotInA (.str w) (.tup [.str tLet, .str tBar]) = some (.fz, .bl (!wordB (.str w))) := by
  have h1 : D.eqv (.str tLet) (.str w) = decide (w = tLet) := by show (tLet == w) = _; rw [Bool.eq_iff_iff, beq_iff_eq, decide_eq_true_iff]; exact eq_comm
  have h2 : D.eqv (.str tBar) (.str w) = decide (w = tBar) := by show (tBar == w) = _; rw [Bool.eq_iff_iff, beq_iff_eq, decide_eq_true_iff]; exact eq_comm
  have : fNotIn (.str w) (.tup [.str tLet, .str tBar]) = some (.fz, .bl (!wordB (.str w))) := by
    show (if ((D.str w).flat && [D.str tLet, D.str tBar].all D.flat) = true then kz (.bl (![D.str tLet, D.str tBar].any fun y => D.eqv y (.str w))) else none) = _
    rw [if_pos (by rfl)]
    show kz (.bl (!(D.eqv (.str tLet) (.str w) || (D.eqv (.str tBar) (.str w) || false)))) = _
    rw [h1, h2, Bool.or_false]; rfl
  unfold fNotInA fOr
  rw [this]
theorem within_int {d : D} {lo hi : Int} (h : withinB d lo hi = true) : ∃ i, d = .int i := by
  cases d <;> simp [withinB] at h
  exact ⟨_, rfl⟩
theorem like_days {ds : List D} (h : ds.all (fun d => withinB d 0 6) = true) : like ds := .inl fun x hx => within_int (List.all_eq_true.mp h x hx)
section
variable {Γ : Nat → Fn} {b n : Nat} {d : D}
theorem six {xs : List D} (h : xs.length = 6) : ∃ a c e f g k, xs = [a, c, e, f, g, k] := by
  match xs, h with
  | [a, c, e, f, g, k], _ => exact ⟨a, c, e, f, g, k, rfl⟩
theorem not_six {xs : List D} (h : xs.length ≠ 6) : ruleB (.tup xs) = false := by
  unfold ruleB
  split
  · rename_i e; cases e; simp at h
  · rfl
end
end LW
namespace LW
open TB
theorem rise_len {ds : List D} (h1 : ds.all (fun d => withinB d 0 6) = true) (h2 : riseB ds = true) : ds.length ≤ 7 := by
  have key : ∀ i (hi : i < ds.length), ∃ z : Int, ds[i] = .int z ∧ (i : Int) ≤ z := by
    intro i
    induction i with
    | zero =>
      intro hi
      have w := List.all_eq_true.mp h1 _ (List.getElem_mem hi)
      obtain ⟨z, e⟩ := within_int w
      rw [e] at w
      simp [withinB] at w
      exact ⟨z, e, by omega⟩
    | succ i ih =>
      intro hi
      obtain ⟨z, e, hz⟩ := ih (by omega)
      have w := List.all_eq_true.mp h1 _ (List.getElem_mem hi)
      obtain ⟨y, e2⟩ := within_int w
      refine ⟨y, e2, ?_⟩
      have r := List.all_eq_true.mp h2 (.int (1 + (i : Int))) (by
        unfold rangeL
        exact List.mem_map.mpr ⟨i, List.mem_range.mpr (by omega), rfl⟩)
      have r : ltB (ds.getD (1 + (i : Int) - 1).toNat .non) (ds.getD (1 + (i : Int)).toNat .non) = true := r
      rw [show (1 + (i : Int) - 1).toNat = i by omega, show (1 + (i : Int)).toNat = i + 1 by omega] at r
      have g1 : ds.getD i .non = .int z := by simp [List.getD_eq_getElem?_getD, show i < ds.length by omega, e]
      have g2 : ds.getD (i + 1) .non = .int y := by simp [List.getD_eq_getElem?_getD, hi, e2]
      rw [g1, g2] at r
      have r : z < y := by simpa [ltB] using r
      omega
  by_cases h : ds.length ≤ 7
  · exact h
  · obtain ⟨z, e, hz⟩ := key 7 (by omega)
    have w := List.all_eq_true.mp h1 _ (List.getElem_mem (show 7 < ds.length by omega))
    rw [e] at w
    simp [withinB] at w
    omega
section
end
end LW
namespace LW
open TB
theorem pow_6 : fPow (.int 10) (.int 6) = some (.fz, .int 1000000) := rfl
theorem isF_fz : Kd.isF .fz = true := rfl
end LW
namespace LW
open TB
theorem rise_of {xs : List D} (h : xs.Pairwise fun x y => ltB x y = true) : riseB xs = true := by
  unfold riseB
  rw [List.all_eq_true]
  intro d hd
  obtain ⟨i, hi, rfl⟩ := mem_rangeL hd
  show ltB (xs.getD (1 + (i : Int) - 1).toNat .non) (xs.getD (1 + (i : Int)).toNat .non) = true
  rw [show (1 + (i : Int) - 1).toNat = i by omega, show (1 + (i : Int)).toNat = i + 1 by omega]
  have g1 : xs.getD i .non = xs[i]'(by omega) := by simp [List.getD_eq_getElem?_getD, show i < xs.length by omega]
  have g2 : xs.getD (i + 1) .non = xs[i + 1]'(by omega) := by simp [List.getD_eq_getElem?_getD, show i + 1 < xs.length by omega]
  rw [g1, g2]
  exact List.pairwise_iff_getElem.mp h i (i + 1) _ _ (by omega)
theorem rise_str {as : List (List Nat)} (nd : as.Nodup) : riseB ((sortT as).map D.str) = true := by
  refine rise_of (List.pairwise_map.mpr ?_)
  have n2 : (sortT as).Nodup := (sortT_perm as).nodup_iff.mpr nd
  refine (List.Pairwise.and (sortT_pair as) n2).imp fun {a b} h => ?_
  show decide (a < b) = true
  rw [decide_eq_true_iff]
  rcases List.le_total b a with h2 | h2
  · exact absurd (List.le_antisymm h.1 h2) h.2
  · exact Decidable.byContradiction fun q => h.2 (List.le_antisymm h.1 (List.not_lt.mp q))
theorem sortI_perm (as : List Int) : (sortI as).Perm as := List.mergeSort_perm _ _
theorem sortI_pair (as : List Int) : (sortI as).Pairwise (· ≤ ·) := by
  unfold sortI
  have := List.pairwise_mergeSort (le := fun a b : Int => decide (a ≤ b)) (fun a b c h1 h2 => by simp at *; omega) (fun a b => by simp; omega) as
  exact this.imp fun h => by simpa using h
theorem rise_int {as : List Int} (nd : as.Nodup) : riseB ((sortI as).map D.int) = true := by
  refine rise_of (List.pairwise_map.mpr ?_)
  have n2 : (sortI as).Nodup := (sortI_perm as).nodup_iff.mpr nd
  refine (List.Pairwise.and (sortI_pair as) n2).imp fun {a b} h => ?_
  show decide (a < b) = true
  rw [decide_eq_true_iff]
  have h1 := h.1
  have h2 := h.2
  omega
theorem name_good {s : List Nat} (h : nameS s = true) (n : Nat) : good 9 n (.str s) := by
  unfold nameS at h
  have h1 : s.length ≤ 8 := by simp at h; exact h.1.2
  have h2 : ∀ c ∈ s, c ∈ abc := by simp at h; exact h.2
  have h3 : ∀ c ∈ abc, c < 1114112 := by decide
  have : s.length ≤ 9 ∧ ∀ c ∈ s, c < 1114112 := ⟨by omega, fun c hc => h3 c (h2 c hc)⟩
  cases n <;> exact this
theorem some_names {src as : List (List Nat)} (hs : ∀ s ∈ src, nameS s = true) (nd : as.Nodup) (hl : as.length ≤ 2) (sub : ∀ a ∈ as, a ∈ src) (n : Nat) : namesB (.tup ((sortT as).map D.str)) 0 2 = true ∧ good 9 (n + 1) (.tup ((sortT as).map D.str)) := by
  have len : ((sortT as).map D.str).length ≤ 2 := by rw [List.length_map, (sortT_perm as).length_eq]; exact hl
  have mem : ∀ x ∈ sortT as, nameS x = true := fun x hx => hs x (sub x ((sortT_perm as).mem_iff.mp hx))
  constructor
  · unfold namesB
    have l2 : (((sortT as).map D.str).length : Int) ≤ 2 := by omega
    have al : ((sortT as).map D.str).all nameB = true := by
      rw [List.all_map, List.all_eq_true]
      exact mem
    show (decide ((0 : Int) ≤ (((sortT as).map D.str).length : Int)) && decide ((((sortT as).map D.str).length : Int) ≤ 2) && ((sortT as).map D.str).all nameB && riseB ((sortT as).map D.str)) = true
    rw [rise_str nd, al, decide_eq_true l2, decide_eq_true (Int.natCast_nonneg _)]
    rfl
  · exact ⟨by omega, fun x hx => by
      obtain ⟨s, hs, rfl⟩ := List.mem_map.mp hx
      exact name_good (mem s hs) n⟩
theorem some_days {as : List Int} (nd : as.Nodup) (hl : as.length ≤ 7) (sub : ∀ a ∈ as, a ∈ ([0, 1, 2, 3, 4, 5, 6] : List Int)) (n : Nat) : daysB (.tup ((sortI as).map D.int)) = true ∧ good 9 (n + 1) (.tup ((sortI as).map D.int)) := by
  have mem : ∀ x ∈ sortI as, 0 ≤ x ∧ x ≤ 6 := fun x hx => by
    have := sub x ((sortI_perm as).mem_iff.mp hx)
    simp at this; omega
  constructor
  · unfold daysB
    show (((sortI as).map D.int).all (fun d => withinB d 0 6) && riseB ((sortI as).map D.int)) = true
    rw [rise_int nd, Bool.and_true, List.all_map, List.all_eq_true]
    intro x hx
    have := mem x hx
    show (decide (0 ≤ x) && decide (x ≤ 6)) = true
    simp; exact this
  · refine ⟨by rw [List.length_map, (sortI_perm as).length_eq]; omega, fun x hx => ?_⟩
    obtain ⟨s, hs, rfl⟩ := List.mem_map.mp hx
    cases n <;> exact trivial
/-- a rule that is one -/
def RuleQ (r : KD) (o : List KD) : Prop := ∃ d kd', r = (.fz, d) ∧ o = [kd'] ∧ DI kd' ∧ good 9 2 d ∧ ruleB d = true
def BookQ (r : KD) (o : List KD) : Prop := ∃ xs kd', r = (.fz, .tup xs) ∧ o = [kd'] ∧ DI kd' ∧ good 9 3 (.tup xs) ∧ bookB (.tup xs) = true
section
variable {Γ : Nat → Fn}
theorem days_src : rangeL 0 7 = ([0, 1, 2, 3, 4, 5, 6] : List Int).map D.int := rfl
theorem rule_9 {kd : KD} {s1 s2 : List (List Nat)} {far : Int} (hF : DrawOk (Γ 7)) (hS : ∀ kd (src : List (List Nat)) m, DI kd → 1 ≤ src.length → src.length ≤ 1000 → 0 ≤ m → m ≤ 60 → FnP (Γ 8) [kd, (.fz, .lst (src.map D.str)), (.fz, .int m)] (SomeQ D.str sortT src m))
    (hI : ∀ kd (src : List Int) m, DI kd → 1 ≤ src.length → src.length ≤ 1000 → 0 ≤ m → m ≤ 60 → FnP (Γ 8) [kd, (.fz, .lst (src.map D.int)), (.fz, .int m)] (SomeQ D.int sortI src m))
    (hd : DI kd) (l1 : 1 ≤ s1.length) (l1' : s1.length ≤ 1000) (l2 : 1 ≤ s2.length) (l2' : s2.length ≤ 1000) (n1 : ∀ s ∈ s1, nameS s = true) (n2 : ∀ s ∈ s2, nameS s = true) (f0 : 1 ≤ far) (f1 : far ≤ 1000000) :
    FnP (runF 8 [0] (mb_9 Γ)) [kd, (.fz, .lst (s1.map D.str)), (.fz, .lst (s2.map D.str)), (.fz, .int far)] RuleQ := by
  refine runF_wp (by obtain ⟨a, b, rfl, _⟩ := hd; rfl) ?_
  simp [mb_9, -Prod.exists, -Prod.forall]
  refine draw_wp hF rfl ?_
  simp [hd, -Prod.exists, -Prod.forall]
  intro x1 k1 h1 x1a x1b
  refine draw_wp hF rfl ?_
  simp [h1, -Prod.exists, -Prod.forall]
  refine ⟨f0, by omega, fun x2 k2 h2 x2a x2b => ?_⟩
  have e0 : fLst [.int 0, .int x1, .int x2] = some (.li .fz, .lst [.int 0, .int x1, .int x2]) := rfl
  simp [e0, -Prod.exists, -Prod.forall]
  refine draw_wp hF rfl ?_
  simp [h2, -Prod.exists, -Prod.forall]
  intro x3 k3 h3 x3a x3b
  obtain ⟨lo, e1, lo0, lo1⟩ := pick_int (xs := [.int 0, .int x1, .int x2]) (lo := 0) (hi := 999999) x3a (by simpa using x3b) (by simp; omega)
  simp [e1, fAdd, kz, pow_6, -Prod.exists, -Prod.forall]
  refine draw_wp hF rfl ?_
  simp [h3, -Prod.exists, -Prod.forall]
  intro x4 k4 h4 x4a x4b
  refine draw_wp hF rfl ?_
  simp [h4, -Prod.exists, -Prod.forall]
  refine ⟨f0, by omega, fun x5 k5 h5 x5a x5b => ?_⟩
  have e2 : fLst [.int 0, .int x4, .int x5, .int 1000000] = some (.li .fz, .lst [.int 0, .int x4, .int x5, .int 1000000]) := rfl
  simp [pow_6, e2, -Prod.exists, -Prod.forall]
  refine draw_wp hF rfl ?_
  simp [h5, -Prod.exists, -Prod.forall]
  intro x6 k6 h6 x6a x6b
  obtain ⟨ad, e3, ad0, ad1⟩ := pick_int (xs := [.int 0, .int x4, .int x5, .int 1000000]) (lo := 0) (hi := 1000000) x6a (by simpa using x6b) (by simp; omega)
  simp [e3, fAdd, kz, fMin2, -Prod.exists, -Prod.forall]
  generalize hh : (if 1 + lo + ad < 1000000 then 1 + lo + ad else 1000000) = hi
  have hi0 : 1 + lo ≤ hi := by rw [← hh]; split <;> omega
  have hi1 : hi ≤ 1000000 := by rw [← hh]; split <;> omega
  refine call2_wp rfl ?_
  simp [sizeMax, -Prod.exists, -Prod.forall]
  refine draw_wp hF rfl ?_
  simp [h6, -Prod.exists, -Prod.forall]
  intro x7 k7 h7 x7a x7b
  obtain ⟨most, e4, mo0, mo1⟩ := pick_int (xs := [.int 0, .int 3, .int 7]) (lo := 0) (hi := 7) x7a (by simpa using x7b) (by simp)
  have e5 : fLst [.int 0, .int 3, .int 7] = some (.li .fz, .lst [.int 0, .int 3, .int 7]) := rfl
  simp [e4, e5, h7, days_src, -Prod.exists, -Prod.forall]
  refine (hI k7 [0, 1, 2, 3, 4, 5, 6] most h7 (by simp) (by simp) mo0 (by omega)).mono ?_
  rintro _ _ ⟨as, k8, rfl, rfl, h8, nd, al, sub⟩
  refine ⟨k8, rfl, h8, ?_⟩
  obtain ⟨dy1, dy2⟩ := some_days nd (by omega) sub 0
  generalize hdy : D.tup ((sortI as).map D.int) = dy at dy1 dy2
  have e7 : fLst [.str [98, 97, 114], .str [108, 101, 116]] = some (.li .fz, .lst [.str tBar, .str tLet]) := rfl
  simp [e7, -Prod.exists, -Prod.forall]
  refine draw_wp hF rfl ?_
  simp [h8, -Prod.exists, -Prod.forall]
  intro x9 k9 h9 x9a x9b
  have q0 : 0 ≤ x9 / 3 := by omega
  have q1 : x9 / 3 < 2 := by omega
  obtain ⟨wd, hw, e6⟩ := fIx_lst (xs := [.str tBar, .str tLet]) q0 (by simpa using q1)
  have hw2 : wordB wd = true ∧ good 9 1 wd := by
    simp at hw
    rcases hw with rfl | rfl
    · exact ⟨rfl, by simp [good, tBar]⟩
    · exact ⟨rfl, by simp [good, tLet]⟩
  have e8 : fDiv (.int x9) (.int 3) = some (.fz, .int (x9 / 3)) := rfl
  simp [e6, e7, e8, -Prod.exists, -Prod.forall]
  refine call2_wp rfl ?_
  simp [h9, -Prod.exists, -Prod.forall]
  refine (hS k9 s1 2 h9 l1 l1' (by omega) (by omega)).mono ?_
  rintro _ _ ⟨as1, k10, rfl, rfl, h10, nd1, al1, sub1⟩
  refine ⟨k10, rfl, h10, ?_⟩
  obtain ⟨na1, na2⟩ := some_names n1 nd1 al1 sub1 0
  generalize hna : D.tup ((sortT as1).map D.str) = na at na1 na2
  simp [-Prod.exists, -Prod.forall]
  refine call2_wp rfl ?_
  simp [h10, -Prod.exists, -Prod.forall]
  refine (hS k10 s2 2 h10 l2 l2' (by omega) (by omega)).mono ?_
  rintro _ _ ⟨as2, k11, rfl, rfl, h11, nd2, al2, sub2⟩
  refine ⟨k11, rfl, h11, ?_⟩
  obtain ⟨nb1, nb2⟩ := some_names n2 nd2 al2 sub2 0
  generalize hnb : D.tup ((sortT as2).map D.str) = nb at nb1 nb2
  have e9 : fTup [wd, na, nb, dy, .int (1 + lo), .int hi] = some (.fz, .tup [wd, na, nb, dy, .int (1 + lo), .int hi]) := rfl
  simp [e9, outsOf, hd.own, h11.own, isF_fz, -Prod.exists, -Prod.forall]
  refine ⟨_, k11, rfl, rfl, h11, ?_, ?_⟩
  · refine ⟨by simp, ?_⟩
    simp only [List.mem_cons, List.not_mem_nil, or_false, forall_eq_or_imp, forall_eq]
    exact ⟨hw2.2, na2, nb2, dy2, trivial, trivial⟩
  · show rule6 wd na nb dy (.int (1 + lo)) (.int hi) = true
    have w1 : withinB (.int (1 + lo)) 1 1000000 = true := by simp [withinB]; omega
    have w2 : hiB (.int hi) (.int (1 + lo)) = true := by simp [hiB, withinB]; omega
    unfold rule6
    rw [hw2.1, na1, nb1, dy1, w1, w2]; rfl
theorem book_10 {kd : KD} {s1 s2 : List (List Nat)} (hF : DrawOk (Γ 7)) (hR : ∀ kd far, DI kd → 1 ≤ far → far ≤ 1000000 → FnP (Γ 9) [kd, (.fz, .lst (s1.map D.str)), (.fz, .lst (s2.map D.str)), (.fz, .int far)] RuleQ) (hd : DI kd) :
    FnP (runF 5 [0] (mb_10 Γ)) [kd, (.fz, .lst (s1.map D.str)), (.fz, .lst (s2.map D.str))] BookQ := by
  refine runF_wp (by obtain ⟨a, b, rfl, _⟩ := hd; rfl) ?_
  have e0 : fLst [.int 30, .int 1000000] = some (.li .fz, .lst [.int 30, .int 1000000]) := rfl
  simp [mb_10, pow_6, e0, -Prod.exists, -Prod.forall]
  refine draw_wp hF rfl ?_
  simp [hd, -Prod.exists, -Prod.forall]
  intro x1 k1 h1 x1a x1b
  have e8 : fDiv (.int x1) (.int 3) = some (.fz, .int (x1 / 3)) := rfl
  obtain ⟨far, e1, f0, f1⟩ := pick_int (xs := [.int 30, .int 1000000]) (r := x1 / 3) (lo := 1) (hi := 1000000) (by omega) (by show x1 / 3 < 2; omega) (by simp)
  simp [e8, e1, -Prod.exists, -Prod.forall]
  refine lc_wp (fun S => ∃ kd, DI kd ∧ S = [some kd, some (.fz, .lst (s1.map D.str)), some (.fz, .lst (s2.map D.str)), some (.fz, .int far), none]) (fun d => good 9 2 d ∧ ruleB d = true) ?_ ?_
  · rintro S ⟨_, _, rfl⟩; simp
  simp [-Prod.exists, -Prod.forall]
  refine draw_wp hF rfl ?_
  simp [h1, -Prod.exists, -Prod.forall]
  intro r k2 h2 r0 r1
  have hr : r.natAbs < limN := by unfold limN; omega
  simp [hr, -Prod.exists, -Prod.forall]
  refine ⟨by simp [fzAt], by rw [rangeL_length]; show _ ≤ 16777216; omega, h2, ?_, ?_⟩
  · rintro S d k3 h3 rfl hm
    refine call3_wp rfl ?_
    simp [h3, -Prod.exists, -Prod.forall]
    refine (hR k3 far h3 f0 f1).mono ?_
    rintro _ _ ⟨x, k4, rfl, rfl, h4, g4, b4⟩
    exact ⟨k4, rfl, h4, g4, b4⟩
  · rintro ys S' hl hy k3 h3 rfl
    rw [rangeL_length] at hl
    simp [fTuple, kz, outsOf, hd.own, h3.own, isF_fz, -Prod.exists, -Prod.forall]
    refine ⟨ys, k3, rfl, rfl, h3, ⟨by omega, fun x hx => (hy x hx).1⟩, ?_⟩
    show (decide (ys.length ≤ 6) && ys.all ruleB) = true
    rw [decide_eq_true (by omega), List.all_eq_true.mpr fun x hx => (hy x hx).2]; rfl
end
end LW
namespace LW
open TB
section
variable {Γ : Nat → Fn} {b n : Nat} {d : D}
theorem book_5 (h4 : ∀ d n, good b n d → Γ 4 [(.fz, d)] = .ret (.fz, .bl (ruleB d)) []) (hb : b ≤ 1000) (h : good b n d) : runF 2 [] (mb_5 Γ) [(.fz, d)] = .ret (.fz, .bl (bookB d)) [] := by
  refine FnP.eq (runF_wp (by rfl) ?_)
  rcases tup_or h with ⟨xs, n', rfl, _, hl, hx⟩ | ⟨s1, _, _, s2, _⟩
  case inr => simp [mb_5, s1, s2, outsOf, Kd.isF]
  have isx : fIsi .tuple (.tup xs) = some (.fz, .bl true) := rfl
  obtain ⟨ys, y1, y2⟩ := all_ex (it := itSeq (eVar 0)) (e := eCall (Γ 4) [.v (eVar 1)]) (v := 1) (S := [some (.fz, .tup xs), none]) (ds := xs) ruleB rfl rfl (by simp) (by show _ ≤ 16777216; omega) (fun d hd => ⟨.fz, by simp [eCall_ap, arEv_v, arEv_nil, arIn, arOut, h4 d n' (hx d hd)]⟩)
  by_cases h6 : xs.length ≤ 6
  · have h6' : (xs.length : Int) ≤ 6 := by omega
    simp [mb_5, isx, fLen, kz, fLe, h6', y1, y2, outsOf, Kd.isF, bookB, h6]
  · have h6' : ¬ (xs.length : Int) ≤ 6 := by omega
    simp [mb_5, isx, fLen, kz, fLe, h6', outsOf, Kd.isF, bookB, h6]
end
end LW
namespace LW
open TB
@[simp] theorem eAndV_ap (a b : E) (S : List Slot) : eAndV a b S = (eDat a S).bind fun x S1 => (match truD x with | some true => b | some false => (M.pure (.fz, x) : E) | none => eBad) S1 := rfl
@[simp] theorem truD_bl (b : Bool) : truD (.bl b) = some b := rfl
open TB
section
variable {Γ : Nat → Fn} {b n : Nat} {d : D}
theorem within_17 {lo hi : Int} (h : good b n d) : runF 3 [] (mb_17 Γ) [(.fz, d), (.fz, .int lo), (.fz, .int hi)] = .ret (.fz, .bl (withinB d lo hi)) [] := by
  refine FnP.eq (runF_wp (by rfl) ?_)
  refine good_elim h ?_ ?_ ?_ ?_ ?_ ?_ <;> intros <;> simp [mb_17, fIsi, D.isTy, kz, fLe, outsOf, Kd.isF, withinB]
  rename_i i
  by_cases h1 : lo ≤ i <;> simp [h1, outsOf, Kd.isF]
end
end LW
namespace LW
open TB
section
end
end LW
namespace LW
open TB
section
variable {Γ : Nat → Fn} {b n : Nat} {d : D}
theorem name_1W (hb : b ≤ 100000) (h : good b n d) : runF 2 [] (mb_1 Γ) [(.fz, d)] = .ret (.fz, .bl (nameB d)) [] := by
  refine FnP.eq (runF_wp (by rfl) ?_)
  refine good_elim h ?_ ?_ ?_ ?_ ?_ ?_ <;> intros <;> simp [mb_1, ← abc_eq, fIsi, D.isTy, kz, fLe, outsOf, Kd.isF, nameB]
  rename_i s hl _
  have hs : s.length ≤ sizeMax := by simp [sizeMax]; omega
  obtain ⟨ys, e1, e2⟩ := all_ex (it := itStr (eVar 0)) (e := eOp fInA (eVar 1) (eCon (.str abc))) (v := 1) (S := [some (.fz, .str s), none]) (ds := s.map fun c => .str [c]) signB rfl rfl (by simp) (by simpa using hs) (fun d hd => by
    obtain ⟨c, _, rfl⟩ := List.mem_map.mp hd
    exact ⟨.fz, by simp [inA, signB]⟩)
  rw [signs] at e2
  by_cases h1 : 1 ≤ s.length
  · by_cases h2 : s.length ≤ 8
    · have h1' : (1 : Int) ≤ s.length := by omega
      have h2' : (s.length : Int) ≤ 8 := by omega
      simp [fLen, hs, kz, fLe, chain2_ap, h1', h2', e1, e2, outsOf, Kd.isF, nameS, h1, h2]
    · have h1' : (1 : Int) ≤ s.length := by omega
      have h2' : ¬ (s.length : Int) ≤ 8 := by omega
      simp [fLen, hs, kz, fLe, chain2_ap, h1', h2', outsOf, Kd.isF, nameS, h1, h2]
  · have h1' : ¬ (1 : Int) ≤ s.length := by omega
    simp [fLen, hs, kz, chain2_ap, h1', outsOf, Kd.isF, nameS, h1]
theorem rise_2W {xs : List D} (h : like xs) (hl : xs.length ≤ 100000) : runF 2 [] (mb_2 Γ) [(.fz, .tup xs)] = .ret (.fz, .bl (riseB xs)) [] := by
  refine FnP.eq (runF_wp (by rfl) ?_)
  have hm : xs.length < limN := by unfold limN; omega
  have hn : ((xs.length : Int) - 1).toNat = xs.length - 1 := by omega
  obtain ⟨ys, e1, e2⟩ := all_ex (it := itRange2 (eCon (.int 1)) (eApp fLen [(eVar 0)])) (e := eOp fLt (eOp fIx (eVar 0) (eOp fSub (eVar 1) (eCon (.int 1)))) (eOp fIx (eVar 0) (eVar 1))) (v := 1) (S := [some (.fz, .tup xs), none]) (ds := rangeL 1 (xs.length - 1)) (riseAt xs)
    (by simp [fLen, kz, hm, hn, lim1]) rfl (by simp) (by rw [rangeL_length]; show _ ≤ 16777216; omega) (fun d hd => by
    obtain ⟨i, hi, rfl⟩ := mem_rangeL hd
    have a1 := fIx_tup (xs := xs) (k := 1 + (i : Int) - 1) (by omega) (by omega)
    have a2 := fIx_tup (xs := xs) (k := 1 + (i : Int)) (by omega) (by omega)
    have a3 := (like_lt h (i := (1 + (i : Int) - 1).toNat) (j := (1 + (i : Int)).toNat) (by omega) (by omega)).1
    refine ⟨.fz, ?_⟩
    rw [show riseAt xs (.int (1 + (i : Int))) = ltB (xs.getD (1 + (i : Int) - 1).toNat .non) (xs.getD (1 + (i : Int)).toNat .non) from rfl]
    generalize xs.getD (1 + (i : Int) - 1).toNat .non = x at a1 a3
    generalize xs.getD (1 + (i : Int)).toNat .non = y at a2 a3
    simp [fSub, kz, a1, a2, a3])
  simp [mb_2, e1, e2, outsOf, Kd.isF, riseB]
theorem names_3W {few many : Int} (h1 : ∀ d n, good b n d → Γ 1 [(.fz, d)] = .ret (.fz, .bl (nameB d)) []) (h2 : ∀ xs : List D, like xs → xs.length ≤ 100000 → Γ 2 [(.fz, .tup xs)] = .ret (.fz, .bl (riseB xs)) []) (hb : b ≤ 100000) (h : good b n d) :
    runF 4 [] (mb_3 Γ) [(.fz, d), (.fz, .int few), (.fz, .int many)] = .ret (.fz, .bl (namesB d few many)) [] := by
  refine FnP.eq (runF_wp (by rfl) ?_)
  refine good_elim h ?_ ?_ ?_ ?_ ?_ ?_ <;> intros <;> simp [mb_3, fIsi, D.isTy, kz, outsOf, Kd.isF, namesB]
  rename_i xs n' _ hl hx
  obtain ⟨ys, e1, e2⟩ := all_ex (it := itSeq (eVar 0)) (e := eCall (Γ 1) [.v (eVar 3)]) (v := 3) (S := [some (.fz, .tup xs), some (.fz, .int few), some (.fz, .int many), none]) (ds := xs) nameB rfl rfl (by simp) (by simp [sizeMax]; omega) (fun d hd => ⟨.fz, by simp [eCall_ap, arEv_v, arEv_nil, arIn, arOut, h1 d n' (hx d hd)]⟩)
  by_cases q1 : few ≤ xs.length
  · by_cases q2 : (xs.length : Int) ≤ many
    · cases q3 : xs.all nameB with
      | false => 
        rw [q3] at e2
        simp [fLen, kz, fLe, chain2_ap, q1, q2, e1, e2, outsOf, Kd.isF]
      | true =>
        rw [q3] at e2
        simp [fLen, kz, fLe, chain2_ap, q1, q2, e1, e2, outsOf, Kd.isF, eCall_ap, arEv_v, arEv_nil, arIn, arOut, h2 xs (like_names q3) (by omega)]
    · simp [fLen, kz, fLe, chain2_ap, q1, q2, outsOf, Kd.isF]
  · simp [fLen, kz, fLe, chain2_ap, q1, outsOf, Kd.isF]
theorem rule_4W (h0 : ∀ d n lo hi, good b n d → Γ 0 [(.fz, d), (.fz, .int lo), (.fz, .int hi)] = .ret (.fz, .bl (withinB d lo hi)) []) (h2 : ∀ xs : List D, like xs → xs.length ≤ 100000 → Γ 2 [(.fz, .tup xs)] = .ret (.fz, .bl (riseB xs)) [])
    (h3 : ∀ d n few many, good b n d → Γ 3 [(.fz, d), (.fz, .int few), (.fz, .int many)] = .ret (.fz, .bl (namesB d few many)) []) (hb : b ≤ 100000) (h : good b n d) : runF 8 [] (mb_4 Γ) [(.fz, d)] = .ret (.fz, .bl (ruleB d)) [] := by
  refine FnP.eq (runF_wp (by rfl) ?_)
  rcases tup_or h with ⟨xs, n', rfl, _, hl, hx⟩ | ⟨s1, _, s2, _⟩
  case inr => simp [mb_4, s1, s2, outsOf, Kd.isF]
  have isx : fIsi .tuple (.tup xs) = some (.fz, .bl true) := rfl
  by_cases h6 : xs.length = 6
  case neg =>
    have := not_six h6
    have h6' : ¬ (xs.length : Int) = 6 := by omega
    simp [mb_4, isx, fLen, kz, fNe_int, h6', outsOf, Kd.isF, this]
  obtain ⟨a, c, e, f, g, k, rfl⟩ := six h6
  have ga := hx a (by simp)
  have gc := hx c (by simp)
  have ge := hx e (by simp)
  have gf := hx f (by simp)
  have gg := hx g (by simp)
  have gk := hx k (by simp)
  have rb : ruleB (.tup [a, c, e, f, g, k]) = rule6 a c e f g k := rfl
  have ix0 : fIx (.tup [a, c, e, f, g, k]) (.int 0) = some (.fz, a) := rfl
  rcases str_or ga with ⟨w, rfl⟩ | ⟨s1, s2⟩
  case inr => simp [mb_4, isx, rb, fLen, kz, fNe_int, ix0, s1, outsOf, Kd.isF, rule6, s2]
  have isw : fIsi .str (.str w) = some (.fz, .bl true) := rfl
  have hT : fTup [.str [108, 101, 116], .str [98, 97, 114]] = some (.fz, .tup [.str tLet, .str tBar]) := rfl
  have c0 := h0
  have gw := word_notin w
  cases q1 : wordB (.str w) with
  | false =>
    rw [q1] at gw
    simp [mb_4, isx, rb, fLen, kz, fNe_int, ix0, isw, outsOf, Kd.isF, rule6, q1, Tg.put, Tg.puts, hT, gw]
  | true =>
  rw [q1] at gw
  have e3 := h3 c n' 0 2 gc
  cases q2 : namesB c 0 2 with
  | false =>
    rw [q2] at e3
    simp [mb_4, isx, rb, fLen, kz, fNe_int, ix0, isw, outsOf, Kd.isF, rule6, q1, q2, Tg.put, Tg.puts, hT, gw, eCall_ap, arEv_v, arEv_nil, arIn, arOut, e3]
  | true =>
  rw [q2] at e3
  have e4 := h3 e n' 0 2 ge
  cases q3 : namesB e 0 2 with
  | false =>
    rw [q3] at e4
    simp [mb_4, isx, rb, fLen, kz, fNe_int, ix0, isw, outsOf, Kd.isF, rule6, q1, q2, q3, Tg.put, Tg.puts, hT, gw, eCall_ap, arEv_v, arEv_nil, arIn, arOut, e3, e4]
  | true =>
  rw [q3] at e4
  rcases tup_or gf with ⟨ds, m, rfl, hm, hdl, hdg⟩ | ⟨s1, s2, _⟩
  case inr => simp [mb_4, isx, rb, fLen, kz, fNe_int, ix0, isw, outsOf, Kd.isF, rule6, q1, q2, q3, Tg.put, Tg.puts, hT, gw, eCall_ap, arEv_v, arEv_nil, arIn, arOut, e3, e4, s1, s2]
  have ist : fIsi .tuple (.tup ds) = some (.fz, .bl true) := rfl
  obtain ⟨ys, y1, y2⟩ := all_ex (it := itSeq (eVar 4)) (e := eCall (Γ 0) [.v (eVar 7), .v (eCon (.int 0)), .v (eCon (.int 6))]) (v := 7) (S := [some (.fz, .tup [.str w, c, e, .tup ds, g, k]), some (.fz, .str w), some (.fz, c), some (.fz, e), some (.fz, .tup ds), some (.fz, g), some (.fz, k), none]) (ds := ds) (fun d => withinB d 0 6) rfl rfl (by simp) (by show _ ≤ 16777216; omega) (fun d hd => ⟨.fz, by simp [eCall_ap, arEv_v, arEv_nil, arIn, arOut, h0 d m 0 6 (hdg d hd)]⟩)
  cases q4 : ds.all (fun d => withinB d 0 6) with
  | false =>
    rw [q4] at y2
    simp [mb_4, isx, rb, fLen, kz, fNe_int, ix0, isw, ist, outsOf, Kd.isF, rule6, q1, q2, q3, Tg.put, Tg.puts, hT, gw, eCall_ap, arEv_v, arEv_nil, arIn, arOut, e3, e4, y1, y2, daysB, q4]
  | true =>
  rw [q4] at y2
  have e5 := h2 ds (like_days q4) (by omega)
  cases q5 : riseB ds with
  | false =>
    rw [q5] at e5
    simp [mb_4, isx, rb, fLen, kz, fNe_int, ix0, isw, ist, outsOf, Kd.isF, rule6, q1, q2, q3, Tg.put, Tg.puts, hT, gw, eCall_ap, arEv_v, arEv_nil, arIn, arOut, e3, e4, y1, y2, daysB, q4, e5, q5]
  | true =>
  rw [q5] at e5
  have e6 := h0 g n' 1 1000000 gg
  cases q6 : withinB g 1 1000000 with
  | false =>
    rw [q6] at e6
    simp [mb_4, isx, rb, fLen, kz, fNe_int, ix0, isw, ist, outsOf, Kd.isF, rule6, q1, q2, q3, Tg.put, Tg.puts, hT, gw, eCall_ap, arEv_v, arEv_nil, arIn, arOut, e3, e4, y1, y2, daysB, q4, e5, q5, e6, q6]
  | true =>
  rw [q6] at e6
  obtain ⟨lo, rfl⟩ := within_int q6
  have e7 := h0 k n' lo 1000000 gk
  simp [mb_4, isx, rb, fLen, kz, fNe_int, ix0, isw, ist, outsOf, Kd.isF, rule6, q1, q2, q3, Tg.put, Tg.puts, hT, gw, eCall_ap, arEv_v, arEv_nil, arIn, arOut, e3, e4, y1, y2, daysB, q4, e5, q5, e6, q6, e7, hiB]
theorem name_14W (hb : b ≤ 100000) (h : good b n d) : runF 2 [] (mb_14 Γ) [(.fz, d)] = .ret (.fz, .bl (nameB d)) [] := by
  refine FnP.eq (runF_wp (by rfl) ?_)
  refine good_elim h ?_ ?_ ?_ ?_ ?_ ?_ <;> intros <;> simp [mb_14, ← abc_eq, fIsi, D.isTy, kz, outsOf, Kd.isF, nameB]
  rename_i s hl hc
  have hs : s.length ≤ sizeMax := by simp [sizeMax]; omega
  obtain ⟨ys, e1, e2, _⟩ := none_ex (it := itStr (eVar 0)) (c := eBool (eOp fNotInA (eVar 1) (eCon (.str abc)))) (v := 1) (S := [some (.fz, .str s), none]) (ds := s.map fun c => .str [c]) signB rfl rfl (by simp) (by simpa using hs) (fun d hd => by
    obtain ⟨c, _, rfl⟩ := List.mem_map.mp hd
    simp [notInA, signB]) (fun d hd => by
    obtain ⟨c, hm, rfl⟩ := List.mem_map.mp hd
    simp [D.lay, hc c hm])
  rw [signs] at e2
  by_cases h1 : 1 ≤ s.length
  · by_cases h2 : s.length ≤ 8
    · have h1' : ¬ (s.length : Int) < 1 := by omega
      have h2' : ¬ (8 : Int) < s.length := by omega
      simp [fLen, hs, kz, fLt, fGt, h1', h2', e1, e2, fLst_nil, outsOf, Kd.isF, nameS, h1, h2]
    · have h1' : ¬ (s.length : Int) < 1 := by omega
      have h2' : (8 : Int) < s.length := by omega
      simp [fLen, hs, kz, fLt, fGt, h1', h2', outsOf, Kd.isF, nameS, h1, h2]
  · have h1' : (s.length : Int) < 1 := by omega
    simp [fLen, hs, kz, fLt, h1', outsOf, Kd.isF, nameS, h1]
theorem rise_15W {xs : List D} {few many : Int} (h : few ≤ xs.length → (xs.length : Int) ≤ many → like xs) (hl : xs.length ≤ 100000) : runF 4 [] (mb_15 Γ) [(.fz, .tup xs), (.fz, .int few), (.fz, .int many)] = .ret (.fz, .bl (decide (few ≤ xs.length) && decide ((xs.length : Int) ≤ many) && riseB xs)) [] := by
  refine FnP.eq (runF_wp (by rfl) ?_)
  by_cases h1 : few ≤ xs.length
  · have h1' : ¬ (xs.length : Int) < few := by omega
    by_cases h2 : (xs.length : Int) ≤ many
    · have h2' : ¬ many < (xs.length : Int) := by omega
      have h := h h1 h2
      have hm : xs.length < limN := by unfold limN; omega
      have hn : ((xs.length : Int) - 1).toNat = xs.length - 1 := by omega
      obtain ⟨ys, e1, e2, _⟩ := none_ex (it := itRange2 (eCon (.int 1)) (eApp fLen [(eVar 0)])) (c := eBool (eOp fGe (eOp fIx (eVar 0) (eOp fSub (eVar 3) (eCon (.int 1)))) (eOp fIx (eVar 0) (eVar 3)))) (v := 3) (S := [some (.fz, .tup xs), some (.fz, .int few), some (.fz, .int many), none]) (ds := rangeL 1 (xs.length - 1)) (riseAt xs)
        (by simp [fLen, kz, hm, hn, lim1]) rfl (by simp) (by rw [rangeL_length]; show _ ≤ 16777216; omega) (fun d hd => by
        obtain ⟨i, hi, rfl⟩ := mem_rangeL hd
        have a1 := fIx_tup (xs := xs) (k := 1 + (i : Int) - 1) (by omega) (by omega)
        have a2 := fIx_tup (xs := xs) (k := 1 + (i : Int)) (by omega) (by omega)
        have a3 := (like_lt h (i := (1 + (i : Int) - 1).toNat) (j := (1 + (i : Int)).toNat) (by omega) (by omega)).2
        rw [show riseAt xs (.int (1 + (i : Int))) = ltB (xs.getD (1 + (i : Int) - 1).toNat .non) (xs.getD (1 + (i : Int)).toNat .non) from rfl]
        generalize xs.getD (1 + (i : Int) - 1).toNat .non = x at a1 a3
        generalize xs.getD (1 + (i : Int)).toNat .non = y at a2 a3
        simp [fSub, kz, a1, a2, a3]) (fun d hd => by
        obtain ⟨i, hi, rfl⟩ := mem_rangeL hd
        rfl)
      simp [mb_15, fIsi, D.isTy, fLen, kz, fLt, fGt, h1, h2, h1', h2', e1, e2, fLst_nil, outsOf, Kd.isF, riseB]
    · have h2' : many < (xs.length : Int) := by omega
      simp [mb_15, fIsi, D.isTy, fLen, kz, fLt, fGt, h1, h2, h1', h2', outsOf, Kd.isF]
  · have h1' : (xs.length : Int) < few := by omega
    simp [mb_15, fIsi, D.isTy, fLen, kz, fLt, fGt, h1, h1', outsOf, Kd.isF]
theorem names_16W {few many : Int} (h14 : ∀ d n, good b n d → Γ 14 [(.fz, d)] = .ret (.fz, .bl (nameB d)) [])
    (h15 : ∀ (xs : List D) (few many : Int), (few ≤ xs.length → (xs.length : Int) ≤ many → like xs) → xs.length ≤ 100000 → Γ 15 [(.fz, .tup xs), (.fz, .int few), (.fz, .int many)] = .ret (.fz, .bl (decide (few ≤ xs.length) && decide ((xs.length : Int) ≤ many) && riseB xs)) [])
    (hb : b ≤ 100000) (hn : n ≤ 50) (h : good b n d) : runF 4 [] (mb_16 Γ) [(.fz, d), (.fz, .int few), (.fz, .int many)] = .ret (.fz, .bl (namesB d few many)) [] := by
  refine FnP.eq (runF_wp (by rfl) ?_)
  rcases tup_or h with ⟨xs, n', rfl, _, hl, hx⟩ | ⟨s1, _, _, _, s2⟩
  case inr => simp [mb_16, s1, s2, outsOf, Kd.isF]
  have isx : fIsi .tuple (.tup xs) = some (.fz, .bl true) := rfl
  obtain ⟨ys, e1, _, e2⟩ := none_ex (it := itSeq (eVar 0)) (c := tNot (eBool (eCall (Γ 14) [.v (eVar 3)]))) (v := 3) (S := [some (.fz, .tup xs), some (.fz, .int few), some (.fz, .int many), none]) (ds := xs) nameB rfl rfl (by simp) (by show _ ≤ 16777216; omega)
    (fun d hd => by simp [eCall_ap, arEv_v, arEv_nil, arIn, arOut, h14 d n' (hx d hd)]) (fun d hd => lay_mono (by omega) (good_lay (hx d hd)))
  cases q3 : xs.all nameB with
  | false =>
    rw [q3] at e2
    simp [mb_16, isx, e1, e2, fLst_nil, outsOf, Kd.isF, namesB, q3]
  | true =>
    rw [q3] at e2
    simp [mb_16, isx, e1, e2, fLst_nil, outsOf, Kd.isF, namesB, q3, eCall_ap, arEv_v, arEv_nil, arIn, arOut, h15 xs few many (fun _ _ => like_names q3) (by omega)]
theorem rule_18W (h17 : ∀ d n lo hi, good b n d → Γ 17 [(.fz, d), (.fz, .int lo), (.fz, .int hi)] = .ret (.fz, .bl (withinB d lo hi)) [])
    (h15 : ∀ (xs : List D) (few many : Int), (few ≤ xs.length → (xs.length : Int) ≤ many → like xs) → xs.length ≤ 100000 → Γ 15 [(.fz, .tup xs), (.fz, .int few), (.fz, .int many)] = .ret (.fz, .bl (decide (few ≤ xs.length) && decide ((xs.length : Int) ≤ many) && riseB xs)) [])
    (h16 : ∀ d n few many, n ≤ 50 → good b n d → Γ 16 [(.fz, d), (.fz, .int few), (.fz, .int many)] = .ret (.fz, .bl (namesB d few many)) []) (hb : b ≤ 100000) (hn : n ≤ 50) (h : good b n d) : runF 2 [] (mb_18 Γ) [(.fz, d)] = .ret (.fz, .bl (ruleB d)) [] := by
  refine FnP.eq (runF_wp (by rfl) ?_)
  rcases tup_or h with ⟨xs, n', rfl, _, hl, hx⟩ | ⟨s1, _, s2, _⟩
  case inr => simp [mb_18, s1, s2, outsOf, Kd.isF]
  have isx : fIsi .tuple (.tup xs) = some (.fz, .bl true) := rfl
  by_cases h6 : xs.length = 6
  case neg =>
    have := not_six h6
    have h6' : ¬ (xs.length : Int) = 6 := by omega
    simp [mb_18, isx, fLen, kz, fNe_int, h6', outsOf, Kd.isF, this]
  obtain ⟨a, c, e, f, g, k, rfl⟩ := six h6
  have ga := hx a (by simp)
  have gc := hx c (by simp)
  have ge := hx e (by simp)
  have gf := hx f (by simp)
  have gg := hx g (by simp)
  have gk := hx k (by simp)
  have rb : ruleB (.tup [a, c, e, f, g, k]) = rule6 a c e f g k := rfl
  have ix0 : fIx (.tup [a, c, e, f, g, k]) (.int 0) = some (.fz, a) := rfl
  have ix1 : fIx (.tup [a, c, e, f, g, k]) (.int 1) = some (.fz, c) := rfl
  have ix2 : fIx (.tup [a, c, e, f, g, k]) (.int 2) = some (.fz, e) := rfl
  have ix3 : fIx (.tup [a, c, e, f, g, k]) (.int 3) = some (.fz, f) := rfl
  have ix4 : fIx (.tup [a, c, e, f, g, k]) (.int 4) = some (.fz, g) := rfl
  have ix5 : fIx (.tup [a, c, e, f, g, k]) (.int 5) = some (.fz, k) := rfl
  have hT : fTup [.str [108, 101, 116], .str [98, 97, 114]] = some (.fz, .tup [.str tLet, .str tBar]) := rfl
  have hP : fPow (.int 10) (.int 6) = some (.fz, .int 1000000) := rfl
  rcases str_or ga with ⟨w, rfl⟩ | ⟨s1, s2⟩
  case inr => simp [mb_18, isx, rb, fLen, kz, fNe_int, ix0, s1, outsOf, Kd.isF, rule6, s2]
  have isw : fIsi .str (.str w) = some (.fz, .bl true) := rfl
  have gw := word_notin w
  cases q1 : wordB (.str w) with
  | false =>
    rw [q1] at gw
    simp [mb_18, isx, rb, fLen, kz, fNe_int, ix0, isw, outsOf, Kd.isF, rule6, q1, hT, gw]
  | true =>
  rw [q1] at gw
  have e3 := h16 c n' 0 2 (by omega) gc
  cases q2 : namesB c 0 2 with
  | false =>
    rw [q2] at e3
    simp [mb_18, isx, rb, fLen, kz, fNe_int, ix0, ix1, isw, outsOf, Kd.isF, rule6, q1, q2, hT, gw, eCall_ap, arEv_v, arEv_nil, arIn, arOut, e3]
  | true =>
  rw [q2] at e3
  have e4 := h16 e n' 0 2 (by omega) ge
  cases q3 : namesB e 0 2 with
  | false =>
    rw [q3] at e4
    simp [mb_18, isx, rb, fLen, kz, fNe_int, ix0, ix1, ix2, isw, outsOf, Kd.isF, rule6, q1, q2, q3, hT, gw, eCall_ap, arEv_v, arEv_nil, arIn, arOut, e3, e4]
  | true =>
  rw [q3] at e4
  rcases tup_or gf with ⟨ds, m, rfl, hm, hdl, hdg⟩ | ⟨s1, s2, _⟩
  case inr => simp [mb_18, isx, rb, fLen, kz, fNe_int, ix0, ix1, ix2, ix3, isw, outsOf, Kd.isF, rule6, q1, q2, q3, hT, gw, eCall_ap, arEv_v, arEv_nil, arIn, arOut, e3, e4, s1, s2]
  have ist : fIsi .tuple (.tup ds) = some (.fz, .bl true) := rfl
  obtain ⟨ys, y1, _, y2⟩ := none_ex (it := itSeq (eOp fIx (eVar 0) (eCon (.int 3)))) (c := tNot (eBool (eCall (Γ 17) [.v (eVar 1), .v (eCon (.int 0)), .v (eCon (.int 6))]))) (v := 1) (S := [some (.fz, .tup [.str w, c, e, .tup ds, g, k]), none]) (ds := ds) (fun d => withinB d 0 6) (by simp [ix3, itemsOf]) rfl (by simp) (by show _ ≤ 16777216; omega) (fun d hd => by simp [eCall_ap, arEv_v, arEv_nil, arIn, arOut, h17 d m 0 6 (hdg d hd)]) (fun d hd => lay_mono (by omega) (good_lay (hdg d hd)))
  cases q4 : ds.all (fun d => withinB d 0 6) with
  | false =>
    rw [q4] at y2
    simp [mb_18, isx, rb, fLen, kz, fNe_int, ix0, ix1, ix2, ix3, isw, ist, outsOf, Kd.isF, rule6, q1, q2, q3, hT, gw, eCall_ap, arEv_v, arEv_nil, arIn, arOut, e3, e4, y1, y2, fLst_nil, daysB, q4]
  | true =>
  rw [q4] at y2
  have e5 := h15 ds 0 7 (fun _ _ => like_days q4) (by omega)
  cases q5 : riseB ds with
  | false =>
    rw [q5] at e5
    simp [mb_18, isx, rb, fLen, kz, fNe_int, ix0, ix1, ix2, ix3, isw, ist, outsOf, Kd.isF, rule6, q1, q2, q3, hT, gw, eCall_ap, arEv_v, arEv_nil, arIn, arOut, e3, e4, y1, y2, fLst_nil, daysB, q4, e5, q5]
  | true =>
  have l7 := rise_len q4 q5
  have l7' : (ds.length : Int) ≤ 7 := by omega
  rw [q5] at e5
  simp [l7'] at e5
  have e6 := h17 g n' 1 1000000 gg
  cases q6 : withinB g 1 1000000 with
  | false =>
    rw [q6] at e6
    simp [mb_18, isx, rb, fLen, kz, fNe_int, ix0, ix1, ix2, ix3, ix4, isw, ist, outsOf, Kd.isF, rule6, q1, q2, q3, hT, hP, gw, eCall_ap, arEv_v, arEv_nil, arIn, arOut, e3, e4, y1, y2, fLst_nil, daysB, q4, e5, q5, e6, q6]
  | true =>
  rw [q6] at e6
  obtain ⟨lo, rfl⟩ := within_int q6
  have e7 := h17 k n' lo 1000000 gk
  simp [mb_18, isx, rb, fLen, kz, fNe_int, ix0, ix1, ix2, ix3, ix4, ix5, isw, ist, outsOf, Kd.isF, rule6, q1, q2, q3, hT, hP, gw, eCall_ap, arEv_v, arEv_nil, arIn, arOut, e3, e4, y1, y2, fLst_nil, daysB, q4, e5, q5, e6, q6, e7, hiB]
theorem book_19W (h18 : ∀ d n, n ≤ 50 → good b n d → Γ 18 [(.fz, d)] = .ret (.fz, .bl (ruleB d)) []) (hb : b ≤ 100000) (hn : n ≤ 50) (h : good b n d) : runF 2 [] (mb_19 Γ) [(.fz, d)] = .ret (.fz, .bl (bookB d)) [] := by
  refine FnP.eq (runF_wp (by rfl) ?_)
  rcases tup_or h with ⟨xs, n', rfl, _, hl, hx⟩ | ⟨s1, _, _, s2, _⟩
  case inr => simp [mb_19, s1, s2, outsOf, Kd.isF]
  have isx : fIsi .tuple (.tup xs) = some (.fz, .bl true) := rfl
  obtain ⟨ys, y1, y2, _⟩ := none_ex (it := itSeq (eVar 0)) (c := tNot (eBool (eCall (Γ 18) [.v (eVar 1)]))) (v := 1) (S := [some (.fz, .tup xs), none]) (ds := xs) ruleB rfl rfl (by simp) (by show _ ≤ 16777216; omega) (fun d hd => by simp [eCall_ap, arEv_v, arEv_nil, arIn, arOut, h18 d n' (by omega) (hx d hd)]) (fun d hd => lay_mono (by omega) (good_lay (hx d hd)))
  by_cases h6 : xs.length ≤ 6
  · have h6' : ¬ (6 : Int) < xs.length := by omega
    simp [mb_19, isx, fLen, kz, fGt, h6', y1, y2, fLst_nil, outsOf, Kd.isF, bookB, h6]
  · have h6' : (6 : Int) < xs.length := by omega
    simp [mb_19, isx, fLen, kz, fGt, h6', outsOf, Kd.isF, bookB, h6]
end
end LW
namespace LW
open TB
abbrev figs : List Nat := [48, 49, 50, 51, 52, 53, 54, 55, 56, 57]
def figB (d : D) : Bool := match d with
  | .str [c] => decide (c ∈ figs)
  | _ => false
def numB (w : List Nat) : Bool := decide (1 ≤ w.length) && (decide (w.length ≤ 20) && (w.all (fun c => decide (c ∈ figs)) && !(decide (w.head? = some 48) && decide (1 < w.length))))
def numD (w : List Nat) : D := if numB w = true then .int (digV w) else .non
theorem inF (c : Nat) : fInA (.str [c]) (.str figs) = some (.fz, .bl (decide (c ∈ figs))) := rfl
theorem notInF (c : Nat) : fNotInA (.str [c]) (.str figs) = some (.fz, .bl (!decide (c ∈ figs))) := rfl
theorem figs_all (s : List Nat) : (s.map fun c => D.str [c]).all figB = s.all fun c => decide (c ∈ figs) := by rw [List.all_map]; rfl
theorem fig_in {c : Nat} (h : c ∈ figs) : 48 ≤ c ∧ c ≤ 57 := by
  simp only [List.mem_cons, List.not_mem_nil, or_false] at h
  omega
theorem int_of {w : List Nat} (h : numB w = true) : fIntS [.str w] = some (.fz, .int (digV w)) := by
  unfold numB at h
  simp only [Bool.and_eq_true, decide_eq_true_eq] at h
  obtain ⟨h1, h2, h3, _⟩ := h
  have a : w.all (fun c => decide (48 ≤ c) && decide (c ≤ 57)) = true := List.all_eq_true.mpr fun c hc => by
    have := fig_in (of_decide_eq_true (List.all_eq_true.mp h3 c hc))
    simp [this.1, this.2]
  have e : w.isEmpty = false := by cases w with | nil => simp at h1 | cons => rfl
  show (if (w.all (fun c => decide (48 ≤ c) && decide (c ≤ 57)) && !w.isEmpty && decide (w.length ≤ 600)) = true then kz (.int (digV w)) else none) = _
  rw [a, e, decide_eq_true (by omega : w.length ≤ 600)]
  rfl
theorem ix_headQ {c : Nat} {r : List Nat} (h : (c :: r).length ≤ 100000) : fIx (.str (c :: r)) (.int 0) = some (.fz, .str [c]) := by
  show (if (c :: r).length ≤ sizeMax then (normIx (c :: r).length 0).bind fun n => (c :: r)[n]?.bind fun c => kz (.str [c]) else none) = _
  rw [if_pos (by unfold sizeMax; omega)]
  have e : normIx (c :: r).length 0 = some 0 := by
    unfold normIx
    rw [if_pos (by omega), if_pos (by simp only [List.length_cons]; omega)]
    rfl
  rw [e]
  rfl
theorem len_sQ {w : List Nat} (h : w.length ≤ 100000) : fLen [.str w] = some (.fz, .int w.length) := by
  show (if w.length ≤ sizeMax then kz (.int w.length) else none) = _
  rw [if_pos (by unfold sizeMax; omega)]
  rfl
theorem eq_s1Q (c : Nat) : fEq (.str [c]) (.str [48]) = some (.fz, .bl (decide (c = 48))) := by
  show kz (.bl (([c] : List Nat) == [48])) = _
  have : (([c] : List Nat) == [48]) = decide (c = 48) := by rw [Bool.eq_iff_iff]; simp
  rw [this]; rfl
theorem ne_s0Q (w : List Nat) : fNe (.str w) (.str [48]) = some (.fz, .bl (!decide (w = [48]))) := by
  show kz (.bl (!(w == [48]))) = _
  have : (w == [48]) = decide (w = [48]) := by rw [Bool.eq_iff_iff]; simp
  rw [this]; rfl
theorem le_iQ (a b : Int) : fLe (.int a) (.int b) = some (.fz, .bl (decide (a ≤ b))) := rfl
theorem gt_iQ (a b : Int) : fGt (.int a) (.int b) = some (.fz, .bl (decide (a > b))) := rfl
theorem lt_iQ (a b : Int) : fLt (.int a) (.int b) = some (.fz, .bl (decide (a < b))) := rfl
section
variable {Γ : Nat → Fn}
theorem figs_lc1 (s : List Nat) (hs : s.length ≤ 100000) : ∃ ys, eLc (itStr (eVar 0)) (.nm 1) [1] tTrue (eOp fInA (eVar 1) (eCon (.str figs))) [some (.fz, .str s), none] = .ok (.li .fz, .lst ys) [some (.fz, .str s), none] ∧ fAllB [.lst ys] = some (.fz, .bl (s.all fun c => decide (c ∈ figs))) := by
  have := all_ex (it := itStr (eVar 0)) (e := eOp fInA (eVar 1) (eCon (.str figs))) (v := 1) (S := [some (.fz, .str s), none]) (ds := s.map fun c => .str [c]) figB rfl rfl (by simp) (by rw [List.length_map]; unfold sizeMax; omega) fun d hd => by
    obtain ⟨c, _, rfl⟩ := List.mem_map.mp hd
    exact ⟨.fz, by simp [inF, figB]⟩
  rw [figs_all] at this
  exact this
theorem figs_lc2 (s : List Nat) (hs : s.length ≤ 100000) (hc : ∀ c ∈ s, c < 1114112) : ∃ ys, eLc (itStr (eVar 0)) (.nm 1) [1] (eBool (eOp fNotInA (eVar 1) (eCon (.str figs)))) (eVar 1) [some (.fz, .str s), none] = .ok (.li .fz, .lst ys) [some (.fz, .str s), none] ∧ fNe (.lst ys) (.lst []) = some (.fz, .bl (!s.all fun c => decide (c ∈ figs))) := by
  obtain ⟨ys, e1, _, e2⟩ := none_ex (it := itStr (eVar 0)) (c := eBool (eOp fNotInA (eVar 1) (eCon (.str figs)))) (v := 1) (S := [some (.fz, .str s), none]) (ds := s.map fun c => .str [c]) figB rfl rfl (by simp) (by rw [List.length_map]; unfold sizeMax; omega) (fun d hd => by
    obtain ⟨c, _, rfl⟩ := List.mem_map.mp hd
    simp [notInF, figB]) (fun d hd => by
    obtain ⟨c, hm, rfl⟩ := List.mem_map.mp hd
    simp [D.lay, hc c hm])
  rw [figs_all] at e2
  exact ⟨ys, e1, e2⟩
theorem num_280 {w : List Nat} (hw : w.length ≤ 100000) : runF 2 [] (mb_280 Γ) [(.fz, .str w)] = .ret (.fz, numD w) [] := by
  refine FnP.eq (runF_wp (by rfl) ?_)
  obtain ⟨ys, e1, e2⟩ := figs_lc1 w hw
  have ln := len_sQ hw
  by_cases h1 : 1 ≤ w.length ∧ w.length ≤ 20
  · have h1' : (1 : Int) ≤ w.length := by omega
    have h2' : (w.length : Int) ≤ 20 := by omega
    cases h3 : w.all (fun c => decide (c ∈ figs)) with
    | false =>
      rw [h3] at e2
      have nb : numD w = .non := by unfold numD numB; rw [h3]; simp
      simp [mb_280, ln, le_iQ, h1', h2', e1, e2, outsOf, Kd.isF, nb]
    | true =>
      rw [h3] at e2
      cases w with
      | nil => simp at h1
      | cons c r =>
        have ih := ix_headQ hw
        have q0 := eq_s1Q c
        generalize hn : (((c :: r).length : Nat) : Int) = n at *
        by_cases h4 : c = 48 ∧ 1 < n
        · have nb : numD (c :: r) = .non := by
            unfold numD numB
            have : 1 < (c :: r).length := by omega
            have r0 : r ≠ [] := fun e => by rw [e] at this; simp at this
            simp only [List.head?_cons, h4.1, this]
            simp [r0]
          obtain ⟨rfl, h5⟩ := h4
          simp [mb_280, ln, le_iQ, gt_iQ, h1', h2', e1, e2, ih, q0, h5, outsOf, Kd.isF, nb]
        · have nb : numB (c :: r) = true := by
            unfold numB
            rw [h3, decide_eq_true h1.1, decide_eq_true h1.2]
            have : (decide ((c :: r).head? = some 48) && decide (1 < (c :: r).length)) = false := by
              rw [Bool.and_eq_false_iff]
              by_cases q : c = 48
              · right
                have : ¬ 1 < n := fun h => h4 ⟨q, h⟩
                simp only [decide_eq_false_iff_not]
                omega
              · left; simpa using q
            rw [this]; rfl
          have nd : numD (c :: r) = .int (digV (c :: r)) := by unfold numD; rw [nb]; rfl
          have io := int_of nb
          by_cases q : c = 48
          · have : ¬ 1 < n := fun h => h4 ⟨q, h⟩
            subst q
            simp [mb_280, ln, le_iQ, gt_iQ, h1', h2', e1, e2, ih, q0, this, io, outsOf, Kd.isF, nd]
          · simp [mb_280, ln, le_iQ, gt_iQ, h1', h2', e1, e2, ih, q0, q, io, outsOf, Kd.isF, nd]
  · have nb : numD w = .non := by
      unfold numD numB
      by_cases q : 1 ≤ w.length
      · have : ¬ w.length ≤ 20 := fun h => h1 ⟨q, h⟩
        simp [this]
      · simp [q]
    by_cases q : (1 : Int) ≤ w.length
    · have : ¬ (w.length : Int) ≤ 20 := fun h => h1 ⟨by omega, by omega⟩
      simp [mb_280, ln, le_iQ, q, this, outsOf, Kd.isF, nb]
    · simp [mb_280, ln, le_iQ, q, outsOf, Kd.isF, nb]
theorem num_304 {w : List Nat} (hw : w.length ≤ 100000) (hc : ∀ c ∈ w, c < 1114112) : runF 2 [] (mb_304 Γ) [(.fz, .str w)] = .ret (.fz, numD w) [] := by
  refine FnP.eq (runF_wp (by rfl) ?_)
  obtain ⟨ys, e1, e2⟩ := figs_lc2 w hw hc
  have ln := len_sQ hw
  have l0 : fLst [] = some (.li .fz, .lst []) := rfl
  by_cases h1 : 1 ≤ w.length ∧ w.length ≤ 20
  · have h1' : ¬ (w.length : Int) < 1 := by omega
    have h2' : ¬ (20 : Int) < w.length := by omega
    cases h3 : w.all (fun c => decide (c ∈ figs)) with
    | false =>
      rw [h3] at e2
      have nb : numD w = .non := by unfold numD numB; rw [h3]; simp
      simp [mb_304, ln, lt_iQ, gt_iQ, h1', h2', e1, e2, l0, outsOf, Kd.isF, nb]
    | true =>
      rw [h3] at e2
      cases w with
      | nil => simp at h1
      | cons c r =>
        have ih := ix_headQ hw
        have q0 := eq_s1Q c
        have q1 := ne_s0Q (c :: r)
        generalize hn : (((c :: r).length : Nat) : Int) = n at *
        by_cases h4 : c = 48 ∧ r ≠ []
        · have nb : numD (c :: r) = .non := by
            unfold numD numB
            have : 1 < (c :: r).length := by
              cases r with
              | nil => exact absurd rfl h4.2
              | cons a b => simp
            simp only [List.head?_cons, h4.1, this]
            simp [h4.2]
          obtain ⟨rfl, h5⟩ := h4
          have : ¬ (48 :: r = [48]) := fun e => h5 (List.cons.inj e).2
          simp [mb_304, ln, lt_iQ, gt_iQ, h1', h2', e1, e2, l0, ih, q0, q1, h5, outsOf, Kd.isF, nb]
        · have nb : numB (c :: r) = true := by
            unfold numB
            rw [h3, decide_eq_true h1.1, decide_eq_true h1.2]
            have : (decide ((c :: r).head? = some 48) && decide (1 < (c :: r).length)) = false := by
              rw [Bool.and_eq_false_iff]
              by_cases q : c = 48
              · right
                have : r = [] := Classical.byContradiction fun h => h4 ⟨q, h⟩
                subst this
                rfl
              · left; simpa using q
            rw [this]; rfl
          have nd : numD (c :: r) = .int (digV (c :: r)) := by unfold numD; rw [nb]; rfl
          have io := int_of nb
          by_cases q : c = 48
          · have : r = [] := Classical.byContradiction fun h => h4 ⟨q, h⟩
            subst q this
            simp [mb_304, ln, lt_iQ, gt_iQ, h1', h2', e1, e2, l0, ih, q0, q1, io, outsOf, Kd.isF, nd]
          · simp [mb_304, ln, lt_iQ, gt_iQ, h1', h2', e1, e2, l0, ih, q0, q, io, outsOf, Kd.isF, nd]
  · have nb : numD w = .non := by
      unfold numD numB
      by_cases q : 1 ≤ w.length
      · have : ¬ w.length ≤ 20 := fun h => h1 ⟨q, h⟩
        simp [this]
      · simp [q]
    by_cases q : (w.length : Int) < 1
    · simp [mb_304, ln, lt_iQ, q, outsOf, Kd.isF, nb]
    · have : (20 : Int) < w.length := by
        have : ¬ w.length ≤ 20 := fun h => h1 ⟨by omega, h⟩
        omega
      simp [mb_304, ln, lt_iQ, gt_iQ, q, this, outsOf, Kd.isF, nb]
end
end LW
namespace TB
@[simp] theorem eSplit_ap (a b : E) (S : List Slot) : eSplit a b S = (eDat a S).bind fun x S1 => (match x with | .str s => M.bind (eDat b) fun y => ofO (fSplit (.str s) y) | _ => eBad) S1 := rfl
end TB
namespace LW
open TB
theorem splC_len (c : Nat) : ∀ (xs acc : List Nat), (splC c acc xs).length ≤ xs.length + 1
  | [], acc => by simp [splC]
  | x :: r, acc => by
    have h1 := splC_len c r []
    have h2 := splC_len c r (acc ++ [x])
    unfold splC
    split
    · simp only [List.length_cons] at *; omega
    · simp only [List.length_cons] at *; omega
theorem splC_mem (c : Nat) : ∀ (xs acc : List Nat) (p : List Nat), p ∈ splC c acc xs → p.length ≤ acc.length + xs.length ∧ ∀ x ∈ p, x ∈ acc ∨ x ∈ xs
  | [], acc, p, h => by
    have : p = acc := by simpa [splC] using h
    rw [this]
    exact ⟨by simp, fun x hx => .inl hx⟩
  | x :: r, acc, p, h => by
    unfold splC at h
    split at h
    · rcases List.mem_cons.mp h with rfl | h
      · exact ⟨by simp, fun x hx => .inl hx⟩
      · obtain ⟨h1, h2⟩ := splC_mem c r [] p h
        refine ⟨by simp only [List.length_nil, List.length_cons] at *; omega, fun y hy => ?_⟩
        rcases h2 y hy with h | h
        · cases h
        · exact .inr (List.mem_cons_of_mem _ h)
    · obtain ⟨h1, h2⟩ := splC_mem c r (acc ++ [x]) p h
      refine ⟨by simp only [List.length_append, List.length_cons, List.length_nil] at *; omega, fun y hy => ?_⟩
      rcases h2 y hy with h | h
      · rcases List.mem_append.mp h with h | h
        · exact .inl h
        · have : y = x := by simpa using h
          rw [this]
          exact .inr List.mem_cons_self
      · exact .inr (List.mem_cons_of_mem _ h)
/-- a text of so many signs at most -/
def Tx (N : Nat) (s : List Nat) : Prop := s.length ≤ N ∧ ∀ c ∈ s, c < 1114112
theorem Tx.parts {N : Nat} {s : List Nat} (h : Tx N s) (c : Nat) : ∀ p ∈ splC c [] s, Tx N p := fun p hp => by
  obtain ⟨h1, h2⟩ := splC_mem c s [] p hp
  refine ⟨by simp only [List.length_nil] at h1; have := h.1; omega, fun x hx => ?_⟩
  rcases h2 x hx with h3 | h3
  · cases h3
  · exact h.2 x h3
theorem split_sQ {s : List Nat} {c : Nat} (h : s.length ≤ 90000) (hc : c < 256) : fSplit (.str s) (.str [c]) = some (.li .fz, .lst ((splC c [] s).map D.str)) := by
  show (if s.length + 2 ≤ sizeMax ∧ c < 256 then some ((.li .fz, .lst ((splC c [] s).map D.str)) : KD) else none) = _
  rw [if_pos ⟨by unfold sizeMax; omega, hc⟩]
def someP (w : List Nat) : List (List Nat) := if w = [42] then [] else splC 44 [] w
def someD (w : List Nat) : D := .tup ((someP w).map D.str)
theorem eq_sxQ (w v : List Nat) : fEq (.str w) (.str v) = some (.fz, .bl (decide (w = v))) := by
  show kz (.bl (w == v)) = _
  have : (w == v) = decide (w = v) := by rw [Bool.eq_iff_iff]; simp
  rw [this]; rfl
section
variable {Γ : Nat → Fn}
theorem some_282 {w : List Nat} (hw : w.length ≤ 90000) : runF 1 [] (mb_282 Γ) [(.fz, .str w)] = .ret (.fz, someD w) [] := by
  refine FnP.eq (runF_wp (by rfl) ?_)
  have e := eq_sxQ w [42]
  have t0 : fTup [] = some (.fz, .tup []) := rfl
  have tl : ∀ xs : List D, fTuple [.lst xs] = some (.fz, .tup xs) := fun _ => rfl
  by_cases q : w = [42]
  · subst q
    have e : fEq (.str [42]) (.str [42]) = some (.fz, .bl true) := rfl
    simp [mb_282, e, t0, outsOf, Kd.isF, someD, someP]
  · have sp := split_sQ (c := 44) hw (by decide)
    simp [mb_282, e, q, sp, tl, outsOf, Kd.isF, someD, someP]
theorem some_321 {w : List Nat} (hw : w.length ≤ 90000) : runF 1 [] (mb_321 Γ) [(.fz, .str w)] = .ret (.fz, someD w) [] := by
  refine FnP.eq (runF_wp (by rfl) ?_)
  have e := eq_sxQ w [42]
  have t0 : fTup [] = some (.fz, .tup []) := rfl
  have tl : ∀ xs : List D, fTuple [.lst xs] = some (.fz, .tup xs) := fun _ => rfl
  by_cases q : w = [42]
  · subst q
    have e : fEq (.str [42]) (.str [42]) = some (.fz, .bl true) := rfl
    simp [mb_321, e, t0, outsOf, Kd.isF, someD, someP]
  · have sp := split_sQ (c := 44) hw (by decide)
    simp [mb_321, e, q, sp, tl, outsOf, Kd.isF, someD, someP]
/-- the rule that the words of a line write -/
def ruleT (w0 w1 w2 w3 w4 w5 : List Nat) : D := .tup [.str w0, someD w1, someD w2, .tup ((someP w3).map numD), numD w4, numD w5]
theorem num_good {b n : Nat} (w : List Nat) : good b n (numD w) := by
  unfold numD
  split <;> simp [good]
theorem Tx.some {N : Nat} {w : List Nat} (h : Tx N w) : (someP w).length ≤ N + 1 ∧ ∀ p ∈ someP w, Tx N p := by
  unfold someP
  split
  · exact ⟨by simp, fun p hp => by cases hp⟩
  · exact ⟨by have := splC_len 44 w []; have := h.1; omega, h.parts 44⟩
theorem some_good {N n : Nat} {w : List Nat} (h : Tx N w) : good (N + 1) (n + 1) (someD w) := by
  obtain ⟨h1, h2⟩ := h.some
  refine ⟨by rw [List.length_map]; exact h1, fun x hx => ?_⟩
  obtain ⟨p, hp, rfl⟩ := List.mem_map.mp hx
  have := h2 p hp
  cases n <;> exact ⟨by have := this.1; omega, this.2⟩
theorem rule_good {N : Nat} (hN : 5 ≤ N) {w0 w1 w2 w3 w4 w5 : List Nat} (h0 : Tx N w0) (h1 : Tx N w1) (h2 : Tx N w2) (h3 : Tx N w3) : good (N + 1) 2 (ruleT w0 w1 w2 w3 w4 w5) := by
  refine ⟨by simp; omega, fun x hx => ?_⟩
  simp only [List.mem_cons, List.not_mem_nil, or_false] at hx
  rcases hx with rfl | rfl | rfl | rfl | rfl | rfl
  · exact ⟨by have := h0.1; omega, h0.2⟩
  · exact some_good h1
  · exact some_good h2
  · obtain ⟨l1, l2⟩ := h3.some
    refine ⟨by rw [List.length_map]; exact l1, fun x hx => ?_⟩
    obtain ⟨p, hp, rfl⟩ := List.mem_map.mp hx
    exact num_good p
  · exact num_good w4
  · exact num_good w5
end
end LW
namespace LW
open TB
theorem splC_free {c : Nat} : ∀ (p acc : List Nat), c ∉ p → splC c acc p = [acc ++ p]
  | [], acc, _ => by simp [splC]
  | x :: p, acc, h => by
    have hx : ¬ x = c := fun e => h (by rw [e]; exact List.mem_cons_self)
    show (if x = c then _ else splC c (acc ++ [x]) p) = _
    rw [if_neg hx, splC_free p (acc ++ [x]) fun m => h (List.mem_cons_of_mem _ m), List.append_assoc]
    rfl
theorem splC_cut {c : Nat} (rest : List Nat) : ∀ (p acc : List Nat), c ∉ p → splC c acc (p ++ c :: rest) = (acc ++ p) :: splC c [] rest
  | [], acc, _ => by
    show (if c = c then acc :: splC c [] rest else _) = _
    rw [if_pos rfl, List.append_nil]
  | x :: p, acc, h => by
    have hx : ¬ x = c := fun e => h (by rw [e]; exact List.mem_cons_self)
    show (if x = c then _ else splC c (acc ++ [x]) (p ++ c :: rest)) = _
    rw [if_neg hx, splC_cut rest p (acc ++ [x]) fun m => h (List.mem_cons_of_mem _ m), List.append_assoc]
    rfl
theorem splC_join {c : Nat} : ∀ ps : List (List Nat), ps ≠ [] → (∀ p ∈ ps, c ∉ p) → splC c [] (joinD [c] ps) = ps
  | [], h, _ => absurd rfl h
  | [p], _, h => by
    show splC c [] p = _
    rw [splC_free p [] (h p List.mem_cons_self)]
    rfl
  | p :: q :: r, _, h => by
    show splC c [] (p ++ ([c] ++ joinD [c] (q :: r))) = _
    rw [show p ++ ([c] ++ joinD [c] (q :: r)) = p ++ c :: joinD [c] (q :: r) from rfl, splC_cut _ p [] (h p List.mem_cons_self), splC_join (q :: r) (by simp) fun x hx => h x (List.mem_cons_of_mem _ hx)]
    rfl
theorem num_head (n : Nat) : ∀ (h1 : 1 ≤ n), (TL.numL n).head? ≠ some 48 := by
  induction n using Nat.strongRecOn with
  | _ n ih =>
    intro h1
    by_cases h : n < 10
    · rw [TL.numL_lt h]
      simp
      omega
    · rw [TL.numL_step (by omega)]
      have := ih (n / 10) (by omega) (by omega)
      have ne := TL.numL_ne (n / 10)
      cases q : TL.numL (n / 10) with
      | nil => exact absurd q ne
      | cons a b =>
        rw [q] at this
        simpa using this
theorem numD_strI {n : Nat} (h : n < 10 ^ 20) : numD (strI (n : Int)) = .int n := by
  rw [TB.strI_num]
  have ln := TL.numL_len (k := 20) (by decide) h
  have ne := TL.numL_ne n
  have dg := TL.numL_digits n
  have vl : digV (TL.numL n) = n := TL.numL_val n
  have hd : (decide ((TL.numL n).head? = some 48) && decide (1 < (TL.numL n).length)) = false := by
    by_cases z : n = 0
    · subst z
      rw [TL.numL_lt (by omega)]
      rfl
    · rw [decide_eq_false (num_head n (by omega)), Bool.false_and]
  have al : (TL.numL n).all (fun c => decide (c ∈ figs)) = true := List.all_eq_true.mpr fun c hc => by
    have := dg c hc
    have : c = 48 ∨ c = 49 ∨ c = 50 ∨ c = 51 ∨ c = 52 ∨ c = 53 ∨ c = 54 ∨ c = 55 ∨ c = 56 ∨ c = 57 := by omega
    simp [this]
  have l1 : 1 ≤ (TL.numL n).length := by
    cases q : TL.numL n with
    | nil => exact absurd q ne
    | cons a b => simp
  have nb : numB (TL.numL n) = true := by
    unfold numB
    rw [al, hd, decide_eq_true l1, decide_eq_true ln]
    rfl
  unfold numD
  rw [nb, if_pos rfl, vl]
end LW
namespace TB
theorem lcG_wp {it : It} {g : Tg} {vs : List Nat} {c : T} {e : E} {S0 : List Slot} {Q : KD → List Slot → Prop}
    (h : okP (it S0) fun ds S => (vs.all (fzAt S) && noDup vs && g.sl.all vs.contains) = true ∧ ∃ I : List D → List D → List Slot → Prop, I ds [] (wipeS S vs) ∧
      (∀ d ds acc S, I (d :: ds) acc S → ∃ S1, g.put d S = some S1 ∧ okP (c S1) fun b S2 => if b = true then okP (e S2) fun kd S3 => acc.length < sizeMax ∧ I ds (acc ++ [kd.2]) (wipeS S3 vs) else I ds acc (wipeS S2 vs)) ∧
      ∀ acc S', I [] acc S' → Q (.li .fz, .lst acc) (backS S S' vs)) : okP (eLc it g vs c e S0) Q := by
  obtain ⟨ds, S, e1, hz, I, i0, st, hq⟩ := h.ex
  unfold eLc
  rw [bind_ap, e1, rbind_ok, if_pos hz]
  have key : ∀ ds acc S, I ds acc S → ∃ acc' S', cLoop g vs c e ds acc S = .ok acc' S' ∧ I [] acc' S' := by
    intro ds
    induction ds with
    | nil => intro acc S i; exact ⟨acc, S, rfl, i⟩
    | cons d ds ih =>
      intro acc S i
      obtain ⟨S1, p1, h1⟩ := st d ds acc S i
      obtain ⟨b, S2, c1, h2⟩ := h1.ex
      unfold cLoop
      rw [p1]
      show ∃ acc' S', R.bind (c S1) _ = _ ∧ _
      rw [c1, rbind_ok]
      cases b with
      | false =>
        obtain ⟨a', S', e3, i3⟩ := ih acc (wipeS S2 vs) h2
        exact ⟨a', S', e3, i3⟩
      | true =>
        have h2 : okP (e S2) fun kd S3 => acc.length < sizeMax ∧ I ds (acc ++ [kd.2]) (wipeS S3 vs) := h2
        obtain ⟨kd, S3, e2, hl, i2⟩ := h2.ex
        obtain ⟨a', S', e3, i3⟩ := ih _ _ i2
        refine ⟨a', S', ?_, i3⟩
        show R.bind (eDat e S2) _ = _
        rw [eDat_ap, e2]
        show (if acc.length < sizeMax then cLoop g vs c e ds (acc ++ [kd.2]) (wipeS S3 vs) else .bad) = _
        rw [if_pos hl]; exact e3
  obtain ⟨a', S', e2, i2⟩ := key ds [] _ i0
  rw [e2]
  exact hq a' S' i2
theorem put_nm {i : Nat} {d : D} {S : List Slot} (h : i < S.length) : Tg.put (.nm i) d S = some (S.set i (some (.fz, d))) := by unfold Tg.put; rw [if_pos h]
section
variable {κ β : Type} [DecidableEq κ]
def aget : List (κ × β) → κ → Option β
  | [], _ => none
  | p :: m, k => if p.1 = k then some p.2 else aget m k
def aset : List (κ × β) → κ → β → List (κ × β)
  | [], k, v => [(k, v)]
  | p :: m, k, v => if p.1 = k then (p.1, v) :: m else p :: aset m k v
theorem aget_cons (p : κ × β) (m : List (κ × β)) (k : κ) : aget (p :: m) k = if p.1 = k then some p.2 else aget m k := rfl
def aks (m : List (κ × β)) : List κ := m.map (·.1)
def encA (K : κ → D) (V : β → D) (m : List (κ × β)) : List (D × D) := m.map fun p => (K p.1, V p.2)
theorem aset_len (m : List (κ × β)) (k : κ) (v : β) : (aset m k v).length ≤ m.length + 1 := by
  induction m with
  | nil => simp [aset]
  | cons p m ih => unfold aset; split <;> simp <;> omega
theorem aset_keys (m : List (κ × β)) (k : κ) (v : β) : aks (aset m k v) = if k ∈ aks m then aks m else aks m ++ [k] := by
  induction m with
  | nil => simp [aset, aks]
  | cons p m ih =>
    unfold aset
    by_cases h : p.1 = k
    · rw [if_pos h]; simp [aks, h]
    · rw [if_neg h]
      have h2 : ¬ k = p.1 := fun q => h q.symm
      show p.1 :: aks (aset m k v) = if k ∈ p.1 :: aks m then p.1 :: aks m else p.1 :: aks m ++ [k]
      rw [ih]
      by_cases q : k ∈ aks m
      · rw [if_pos q, if_pos (List.mem_cons_of_mem _ q)]
      · rw [if_neg q, if_neg (by simp [h2, q])]; rfl
theorem aset_nd {m : List (κ × β)} {k : κ} {v : β} (h : (aks m).Nodup) : (aks (aset m k v)).Nodup := by
  rw [aset_keys]
  split
  · exact h
  · rename_i q
    exact List.nodup_append.mpr ⟨h, by simp, fun a ha b hb => by simp at hb; subst hb; intro e; subst e; exact q ha⟩
theorem aget_mem {m : List (κ × β)} {k : κ} {v : β} (h : aget m k = some v) : (k, v) ∈ m := by
  induction m with
  | nil => simp [aget] at h
  | cons p m ih =>
    unfold aget at h
    by_cases q : p.1 = k
    · rw [if_pos q] at h; cases h; subst q; exact List.mem_cons_self
    · rw [if_neg q] at h; exact List.mem_cons_of_mem _ (ih h)
theorem aset_mem {m : List (κ × β)} {k : κ} {v : β} {p : κ × β} (h : p ∈ aset m k v) : p = (k, v) ∨ p ∈ m := by
  induction m with
  | nil => simp [aset] at h; exact .inl h
  | cons q m ih =>
    unfold aset at h
    by_cases e : q.1 = k
    · rw [if_pos e] at h
      rcases List.mem_cons.mp h with h | h
      · subst e; exact .inl h
      · exact .inr (List.mem_cons_of_mem _ h)
    · rw [if_neg e] at h
      rcases List.mem_cons.mp h with h | h
      · exact .inr (h ▸ List.mem_cons_self)
      · rcases ih h with h | h
        · exact .inl h
        · exact .inr (List.mem_cons_of_mem _ h)
variable {K : κ → D} {V : β → D} (he : ∀ a b, D.eqv (K a) (K b) = decide (a = b))
include he
theorem val_enc (m : List (κ × β)) (k : κ) : valD (encA K V m) (K k) = (aget m k).map V := by
  induction m with
  | nil => rfl
  | cons p m ih =>
    unfold valD encA at *
    rw [aget_cons, List.map_cons, List.find?_cons, he]
    by_cases h : p.1 = k
    · simp [h]
    · simp only [h, decide_false, if_false]; exact ih
end
end TB
namespace LW
open TB
abbrev tWrong : List Nat := [119, 114, 111, 110, 103]
abbrev tPaid : List Nat := [112, 97, 105, 100]
abbrev tBack : List Nat := [98, 97, 99, 107]
abbrev tLent : List Nat := [108, 101, 110, 116]
abbrev tBought : List Nat := [98, 111, 117, 103, 104, 116]
inductive Row where
  | wrong (day no : Int) (p q : List Nat)
  | paid (day : Int) (p : List Nat) (pence : Int)
  | back (day : Int) (p q : List Nat) (pence : Int)
  | lent (day : Int) (p q : List Nat) (pence : Int)
  | bought (day no : Int) (ps : List (List Nat)) (kind : List Nat) (pence : Int)
  deriving DecidableEq
def Row.enc : Row → D
  | .wrong d n p q => .tup [.str tWrong, .int d, .int n, .str p, .str q]
  | .paid d p c => .tup [.str tPaid, .int d, .str p, .int c]
  | .back d p q c => .tup [.str tBack, .int d, .str p, .str q, .int c]
  | .lent d p q c => .tup [.str tLent, .int d, .str p, .str q, .int c]
  | .bought d n ps k c => .tup [.str tBought, .int d, .int n, .tup (ps.map D.str), .str k, .int c]
def inB (i lo hi : Int) : Prop := lo ≤ i ∧ i ≤ hi
def Row.ok : Row → Prop
  | .wrong d n p q => inB d 0 1000000 ∧ inB n 0 1000000 ∧ nameS p = true ∧ nameS q = true ∧ p ≠ q
  | .paid d p c => inB d 0 1000000 ∧ nameS p = true ∧ inB c 1 1000000
  | .back d p q c => inB d 0 1000000 ∧ nameS p = true ∧ nameS q = true ∧ p ≠ q ∧ inB c 1 1000000
  | .lent d p q c => inB d 0 1000000 ∧ nameS p = true ∧ nameS q = true ∧ p ≠ q ∧ inB c 1 1000000
  | .bought d n ps k c => inB d 0 1000000 ∧ inB n 0 1000000 ∧ (∀ p ∈ ps, nameS p = true) ∧ namesB (.tup (ps.map D.str)) 1 4 = true ∧ nameS k = true ∧ inB c ps.length 1000000
section
variable {Γ : Nat → Fn}
/-- x[i] of a tuple, a number -/
theorem ix0 {a : D} {xs : List D} : fIx (.tup (a :: xs)) (.int 0) = some (.fz, a) := by rw [fIx_tup (by omega) (by simp)]; rfl
theorem ix1 {a b : D} {xs : List D} : fIx (.tup (a :: b :: xs)) (.int 1) = some (.fz, b) := by rw [fIx_tup (by omega) (by simp; omega)]; rfl
theorem ix2 {a b c : D} {xs : List D} : fIx (.tup (a :: b :: c :: xs)) (.int 2) = some (.fz, c) := by rw [fIx_tup (by omega) (by simp; omega)]; rfl
theorem ix3 {a b c d : D} {xs : List D} : fIx (.tup (a :: b :: c :: d :: xs)) (.int 3) = some (.fz, d) := by rw [fIx_tup (by omega) (by simp; omega)]; rfl
theorem ix4 {a b c d e : D} {xs : List D} : fIx (.tup (a :: b :: c :: d :: e :: xs)) (.int 4) = some (.fz, e) := by rw [fIx_tup (by omega) (by simp; omega)]; rfl
theorem ix5 {a b c d e f : D} {xs : List D} : fIx (.tup (a :: b :: c :: d :: e :: f :: xs)) (.int 5) = some (.fz, f) := by rw [fIx_tup (by omega) (by simp; omega)]; rfl
theorem fEq_str (p q : List Nat) : fEq (.str p) (.str q) = some (.fz, .bl (decide (p = q))) := by
  have : D.eqv (.str p) (.str q) = decide (p = q) := by show (p == q) = _; rw [Bool.eq_iff_iff]; simp
  unfold fEq
  rw [if_pos (by rfl), this]; rfl
end
end LW
namespace LW
open TB
def Row.no? : Row → Option Int
  | .bought _ n _ _ _ => some n
  | _ => none
def nums (rows : List Row) : List Int := rows.filterMap Row.no?
section
end
end LW
namespace LW
open TB
def Row.w : Row → List Nat
  | .wrong .. => tWrong
  | .paid .. => tPaid
  | .back .. => tBack
  | .lent .. => tLent
  | .bought .. => tBought
def Row.ix : Row → Int
  | .wrong .. => 0
  | .paid .. => 1
  | .back .. => 2
  | .lent .. => 3
  | .bought .. => 4
def Row.flag : Row → Int
  | .wrong .. => 0
  | _ => 1
def Row.day : Row → Int
  | .wrong d .. => d
  | .paid d .. => d
  | .back d .. => d
  | .lent d .. => d
  | .bought d .. => d
def Row.key (r : Row) : D := .tup [.int r.flag, .int r.day, .int r.ix, r.enc]
theorem eqv_int (i j : Int) : D.eqv (.int i) (.int j) = decide (i = j) := by show (i == j) = _; rw [Bool.eq_iff_iff]; simp
theorem lays_all {n : Nat} {ds : List D} (h : ∀ d ∈ ds, d.lay n = true) : D.lays n ds = true := by
  induction ds with
  | nil => simp [D.lays]
  | cons d ds ih => simp only [D.lays, Bool.and_eq_true]; exact ⟨h d List.mem_cons_self, ih fun e he => h e (List.mem_cons_of_mem _ he)⟩
section
end
end LW
namespace LW
open TB
section
end
end LW
namespace LW
open TB
@[simp] theorem hasN_ap (i : Nat) (S : List Slot) : hasN i S = match ownN S i with | some _ => .ok () S | none => .bad := rfl
@[simp] theorem sNput_ap (i : Nat) (k e : E) (S : List Slot) : sNput i k e S = (eDat e S).bind fun y S1 => (hasN i S1).bind fun _ S2 => (eDat k S2).bind fun x S3 => match ownN S3 i with
  | some kvs => if isNK x = true ∧ kvs.length < sizeMax then .ok .nx (S3.set i (some (.dN, .dit (putD kvs x y)))) else .bad
  | none => .bad := rfl
@[simp] theorem eNnew_ap (S : List Slot) : eNnew S = .ok (.dN, .dit []) S := rfl
@[simp] theorem ePeekLI_ap (e : E) (S : List Slot) : ePeekLI e S = match e (S.map frz) with | .ok (.li .fz, .lst ds) _ => (if D.imms ds = true then .ok (.li .fz, .lst ds) S else .bad) | _ => .bad := rfl
@[simp] theorem eOrV_ap (a b : E) (S : List Slot) : eOrV a b S = (eDat a S).bind fun x S1 => (match truD x with | some true => (M.pure (.fz, x) : E) | some false => b | none => eBad) S1 := rfl
/-- what is kept while rows are drawn -/
structure Good (j : Nat) (rows : List Row) : Prop where
  ok : ∀ r ∈ rows, r.ok
  nd : rows.Nodup
  nn : (nums rows).Nodup
  lt : ∀ n ∈ nums rows, n < j
  le : rows.length ≤ j
theorem nums_app (rows : List Row) (r : Row) : nums (rows ++ [r]) = nums rows ++ (match r.no? with | some n => [n] | none => []) := by
  unfold nums
  rw [List.filterMap_append]
  cases h : r.no? <;> simp [h]
theorem Good.put {j : Nat} {rows : List Row} (g : Good j rows) {r : Row} (h : r.ok) (hn : ∀ n, r.no? = some n → n = j) : Good (j + 1) (if r ∈ rows then rows else rows ++ [r]) := by
  split
  · exact ⟨g.ok, g.nd, g.nn, fun n m => by have := g.lt n m; omega, by have := g.le; omega⟩
  · rename_i m
    refine ⟨fun s hs => ?_, ?_, ?_, fun n hm => ?_, by have := g.le; simp; omega⟩
    · rcases List.mem_append.mp hs with hs | hs
      · exact g.ok s hs
      · simp at hs; rw [hs]; exact h
    · exact List.nodup_append.mpr ⟨g.nd, by simp, fun a ha b hb => by simp at hb; rw [hb]; rintro rfl; exact m ha⟩
    · rw [nums_app]
      cases e : r.no? with
      | none => simpa using g.nn
      | some n =>
        refine List.nodup_append.mpr ⟨g.nn, by simp, fun a ha b hb => ?_⟩
        simp at hb
        have := g.lt a ha
        rw [hb, hn n e]; omega
    · rw [nums_app] at hm
      rcases List.mem_append.mp hm with hm | hm
      · have := g.lt n hm; omega
      · cases e : r.no? with
        | none => rw [e] at hm; cases hm
        | some n' =>
          rw [e] at hm
          simp at hm
          rw [hm, hn n' e]; omega
end LW
namespace LW
open TB
abbrev Nm := List Nat
structure Rule where
  lt : Bool
  ks : List Nm
  ps : List Nm
  ds : List Int
  lo : Int
  hi : Int
def Rule.enc (r : Rule) : D := .tup [.str (if r.lt then tLet else tBar), .tup (r.ks.map D.str), .tup (r.ps.map D.str), .tup (r.ds.map D.int), .int r.lo, .int r.hi]
structure Shop where
  book : List Rule
  lims : List (Nm × Int)
  terms : List (Int × Nm)
def bookE (b : List Rule) : D := .tup (b.map Rule.enc)
def limE (p : Nm × Int) : D := .tup [.str p.1, .int p.2]
def trmE (p : Int × Nm) : D := .tup [.int p.1, .str p.2]
def Shop.enc (sh : Shop) : D := .tup [bookE sh.book, .tup (sh.lims.map limE), .tup (sh.terms.map trmE)]
structure M where
  cnt : List (Nm × List Int)
  deb : List ((Nm × Nm) × Int)
  buy : List (Int × List Nm)
  sp : List ((Int × Nm × Nm) × Int)
  spl : List ((Int × Nm) × List (Int × Nm × Nm × Int))
  sold : List (Int × Int × Int)
  ended : Nat
  day : Int
def z7 : List Int := [0, 0, 0, 0, 0, 0, 0]
def M.acc (m : M) (p : Nm) : List Int := (aget m.cnt p).getD z7
def hasL (g : List Int) : Int := (g.take 3).sum - (g.drop 3).sum
def M.has (m : M) (p : Nm) : Int := hasL (m.acc p)
def addAt (g : List Int) (w : Nat) (x : Int) : List Int := g.set w (g.getD w 0 + x)
def M.bump (m : M) (p : Nm) (w : Nat) (x : Int) : M := { m with cnt := aset m.cnt p (addAt (m.acc p) w x) }
abbrev tDone : List Nat := [100, 111, 110, 101]
abbrev tNone : List Nat := [110, 111, 110, 101]
abbrev tLacks : List Nat := [108, 97, 99, 107, 115]
def M.owes (m : M) (p q : Nm) : Int := (aget m.deb (p, q)).getD 0
def partsF (wh rest : Int) : Nat → List Nm → List (Nm × Int)
  | _, [] => []
  | k, p :: ps => (p, wh + (if (k : Int) < rest then 1 else 0)) :: partsF wh rest (k + 1) ps
def parts (c : Int) (ps : List Nm) : List (Nm × Int) := partsF (c / ps.length) (c % ps.length) 0 ps
def M.who (m : M) (no : Int) : List Nm := (aget m.buy no).getD []
def M.wrong (m : M) (no : Int) (p q : Nm) : M × Nm := if p ∉ m.who no ∨ q ∈ m.who no then (m, tNone) else ({ m with buy := aset m.buy no (sortT ((m.who no).filter (fun x => decide (x ≠ p)) ++ [q])) }, tDone)
def M.paid (m : M) (p : Nm) (c : Int) : M × Nm := (m.bump p 0 c, tDone)
def M.back (m : M) (p q : Nm) (c : Int) : M × Nm := if m.owes p q < c then (m, tNone) else if m.has p < c then (m, tLacks) else
  ((({ m with deb := aset m.deb (p, q) (m.owes p q - c) } : M).bump p 4 c).bump q 2 c, tDone)
def k2 (p : Nm × Nm) : D := .tup [.str p.1, .str p.2]
def k3 (p : Int × Nm × Nm) : D := .tup [.int p.1, .str p.2.1, .str p.2.2]
def kd2 (p : Int × Nm) : D := .tup [.int p.1, .str p.2]
def accV (g : List Int) : D := .lst (g.map D.int)
def psV (ps : List Nm) : D := .tup (ps.map D.str)
def soldE (p : Int × Int × Int) : D := .tup [.int p.1, .int p.2.1, .int p.2.2]
def splE (p : Int × Nm × Nm × Int) : D := .tup [.int p.1, .str p.2.1, .str p.2.2.1, .int p.2.2.2]
def splV (l : List (Int × Nm × Nm × Int)) : D := .lst (l.map splE)
def cK : Kd := .ob [.fz, .fz, .fz, .dK (.li .fz), .dN, .dN, .li .fz, .fz, .dK .fz]
def cD (sh : Shop) (m : M) : D := .ob 0 [bookE sh.book, .tup (sh.lims.map limE), .tup (sh.terms.map trmE), .dic (encA D.str accV m.cnt), .dit (encA k2 D.int m.deb), .dit (encA k3 D.int m.sp), .lst (m.sold.map soldE), .int m.ended, .dic (encA D.int psV m.buy)]
theorem eqv_str (a b : Nm) : D.eqv (.str a) (.str b) = decide (a = b) := by show (a == b) = _; rw [Bool.eq_iff_iff]; simp
theorem eqv_k2 (a b : Nm × Nm) : D.eqv (k2 a) (k2 b) = decide (a = b) := by
  obtain ⟨a, a'⟩ := a; obtain ⟨b, b'⟩ := b
  show (D.eqv (.str a) (.str b) && (D.eqv (.str a') (.str b') && true)) = _
  rw [eqv_str, eqv_str, Bool.eq_iff_iff]; simp
theorem eqv_k3 (a b : Int × Nm × Nm) : D.eqv (k3 a) (k3 b) = decide (a = b) := by
  obtain ⟨a, a', a''⟩ := a; obtain ⟨b, b', b''⟩ := b
  show (D.eqv (.int a) (.int b) && (D.eqv (.str a') (.str b') && (D.eqv (.str a'') (.str b'') && true))) = _
  rw [eqv_int, eqv_str, eqv_str, Bool.eq_iff_iff]; simp
theorem eqv_kd2 (a b : Int × Nm) : D.eqv (kd2 a) (kd2 b) = decide (a = b) := by
  obtain ⟨a, a'⟩ := a; obtain ⟨b, b'⟩ := b
  show (D.eqv (.int a) (.int b) && (D.eqv (.str a') (.str b') && true)) = _
  rw [eqv_int, eqv_str, Bool.eq_iff_iff]; simp
theorem nk_k2 (a : Nm × Nm) : isNK (k2 a) = true := by simp [isNK, k2, D.isTup, D.nk, D.nks]
theorem nk_k3 (a : Int × Nm × Nm) : isNK (k3 a) = true := by simp [isNK, k3, D.isTup, D.nk, D.nks]
theorem nk_kd2 (a : Int × Nm) : isNK (kd2 a) = true := by simp [isNK, kd2, D.isTup, D.nk, D.nks]
structure Iv (B : Nat) (m : M) : Prop where
  n1 : (aks m.cnt).Nodup
  n2 : (aks m.deb).Nodup
  n3 : (aks m.buy).Nodup
  n4 : (aks m.sp).Nodup
  n5 : (aks m.spl).Nodup
  sv : ∀ p ∈ m.cnt, p.2.length = 7
  l1 : m.cnt.length ≤ B
  l2 : m.deb.length ≤ B
  l3 : m.buy.length ≤ B
  l4 : m.sp.length ≤ 2 * B
  l5 : m.spl.length ≤ B
  l6 : m.sold.length ≤ B
  l7 : ∀ p ∈ m.spl, p.2.length ≤ B
  bs : ∀ p ∈ m.buy, p.2.Nodup ∧ 1 ≤ p.2.length ∧ p.2.length ≤ 4 ∧ ∀ x ∈ p.2, nameS x = true
theorem Iv.mono {B C : Nat} {m : M} (h : Iv B m) (l : B ≤ C) : Iv C m := ⟨h.n1, h.n2, h.n3, h.n4, h.n5, h.sv, by have := h.l1; omega, by have := h.l2; omega, by have := h.l3; omega, by have := h.l4; omega, by have := h.l5; omega, by have := h.l6; omega, fun p hp => by have := h.l7 p hp; omega, h.bs⟩
theorem Iv.acc7 {B : Nat} {m : M} (h : Iv B m) (p : Nm) : (m.acc p).length = 7 := by
  unfold M.acc
  cases e : aget m.cnt p with
  | none => rfl
  | some g => exact h.sv _ (aget_mem e)
theorem addAt_len (g : List Int) (w : Nat) (x : Int) : (addAt g w x).length = g.length := by unfold addAt; simp
theorem Iv.bump {B : Nat} {m : M} (h : Iv B m) (p : Nm) (w : Nat) (x : Int) : Iv (B + 1) (m.bump p w x) := by
  have h1 := h.mono (Nat.le_succ B)
  refine { h1 with n1 := aset_nd h.n1, sv := fun q hq => ?_, l1 := ?_ }
  · rcases aset_mem hq with rfl | hq
    · show (addAt _ _ _).length = 7
      rw [addAt_len]; exact h.acc7 p
    · exact h.sv q hq
  · have := aset_len m.cnt p (addAt (m.acc p) w x)
    have := h.l1
    show (aset _ _ _).length ≤ _
    omega
theorem Iv.deb {B : Nat} {m : M} (h : Iv B m) (k : Nm × Nm) (x : Int) : Iv (B + 1) { m with deb := aset m.deb k x } := by
  have h1 := h.mono (Nat.le_succ B)
  refine { h1 with n2 := aset_nd h.n2, l2 := ?_ }
  have := aset_len m.deb k x
  have := h.l2
  show (aset _ _ _).length ≤ _
  omega
theorem Iv.back {B : Nat} {m : M} (h : Iv B m) (p q : Nm) (c : Int) : Iv (B + 3) (m.back p q c).1 := by
  unfold M.back
  split
  · exact h.mono (by omega)
  · split
    · exact h.mono (by omega)
    · exact ((h.deb _ _).bump p 4 c).bump q 2 c
theorem Iv.who4 {B : Nat} {m : M} (h : Iv B m) (no : Int) : (m.who no).length ≤ 4 ∧ (m.who no).Nodup ∧ ∀ x ∈ m.who no, nameS x = true := by
  unfold M.who
  cases e : aget m.buy no with
  | none => simp
  | some g => have := h.bs _ (aget_mem e); exact ⟨this.2.2.1, this.1, this.2.2.2⟩
theorem Iv.wrong {B : Nat} {m : M} (h : Iv B m) (no : Int) (p q : Nm) (hq : nameS q = true) : Iv (B + 1) (m.wrong no p q).1 := by
  unfold M.wrong
  split
  · exact h.mono (by omega)
  · rename_i c
    simp only [not_or, Decidable.not_not] at c
    obtain ⟨c1, c2⟩ := c
    obtain ⟨w1, w2, w3⟩ := h.who4 no
    have h1 := h.mono (Nat.le_succ B)
    refine { h1 with n3 := aset_nd h.n3, l3 := ?_, bs := fun s hs => ?_ }
    · have := aset_len m.buy no (sortT ((m.who no).filter (fun x => decide (x ≠ p)) ++ [q]))
      have := h.l3
      show (aset _ _ _).length ≤ _
      omega
    · rcases aset_mem hs with rfl | hs
      · have pm := sortT_perm ((m.who no).filter (fun x => decide (x ≠ p)) ++ [q])
        have nd : ((m.who no).filter (fun x => decide (x ≠ p)) ++ [q]).Nodup := List.nodup_append.mpr ⟨w2.filter _, by simp, fun a ha b hb => by
          simp at hb; subst hb; intro e; subst e; exact c2 (List.mem_filter.mp ha).1⟩
        have lf : ((m.who no).filter (fun x => decide (x ≠ p))).length < (m.who no).length := by
          have : ((m.who no).filter (fun x => decide (x ≠ p))).length ≤ (m.who no).length := List.length_filter_le _ _
          rcases Nat.lt_or_ge ((m.who no).filter (fun x => decide (x ≠ p))).length (m.who no).length with q | q
          · exact q
          · have e := (List.length_filter_eq_length_iff).mp (Nat.le_antisymm this q)
            have := e p c1
            simp at this
        refine ⟨pm.nodup_iff.mpr nd, ?_, ?_, fun x hx => ?_⟩
        · show 1 ≤ (sortT _).length
          rw [pm.length_eq]; simp
        · show (sortT _).length ≤ 4
          rw [pm.length_eq, List.length_append, List.length_singleton]; omega
        · rcases List.mem_append.mp (pm.mem_iff.mp hx) with hx | hx
          · exact w3 x (List.mem_filter.mp hx).1
          · rw [List.mem_singleton.mp hx]; exact hq
      · exact h.bs s hs
end LW
namespace LW
open TB
section
variable {Γ : Nat → Fn}
def S8T (F : Fn) : Prop := ∀ kd (src : List (List Nat)) m, DI kd → 1 ≤ src.length → src.length ≤ 1000 → 0 ≤ m → m ≤ 60 → FnP F [kd, (.fz, .lst (src.map D.str)), (.fz, .int m)] (SomeQ D.str sortT src m)
end
end LW
namespace LW
open TB
def DcOk (K V : D → Prop) (kvs : List (D × D)) : Prop := ∀ p ∈ kvs, K p.1 ∧ V p.2
theorem DcOk.put {K V : D → Prop} {kvs : List (D × D)} {k v : D} (h : DcOk K V kvs) (hk : K k) (hv : V v) : DcOk K V (putD kvs k v) := by
  unfold putD
  intro p hp
  split at hp
  · obtain ⟨q, hq, rfl⟩ := List.mem_map.mp hp
    have := h q hq
    split
    · exact ⟨this.1, hv⟩
    · exact this
  · rcases List.mem_append.mp hp with hp | hp
    · exact h p hp
    · rw [List.mem_singleton] at hp; subst hp; exact ⟨hk, hv⟩
theorem imms_all {ds : List D} (h : ∀ d ∈ ds, D.imm d = true) : D.imms ds = true := by
  induction ds with
  | nil => simp [D.imms]
  | cons d ds ih => simp only [D.imms, Bool.and_eq_true]; exact ⟨h d (by simp), ih fun x hx => h x (by simp [hx])⟩
section
end
end LW
namespace LW
open TB
section
end
end LW
namespace LW
open TB
section
end
end LW
namespace LW
open TB
end LW
namespace LW
open TB
section
end
theorem names_of {d : D} {few many : Int} (h : namesB d few many = true) : ∃ ps : List Nm, d = .tup (ps.map D.str) ∧ ∀ x ∈ ps, nameS x = true := by
  unfold namesB at h
  split at h
  · rename_i xs
    simp only [Bool.and_eq_true] at h
    have h2 := List.all_eq_true.mp h.1.2
    have key : ∀ xs : List D, (∀ x ∈ xs, nameB x = true) → ∃ ps : List Nm, xs = ps.map D.str ∧ ∀ x ∈ ps, nameS x = true := by
      intro xs
      induction xs with
      | nil => intro _; exact ⟨[], rfl, by simp⟩
      | cons x xs ih =>
        intro hx
        obtain ⟨ps, e, hp⟩ := ih fun y hy => hx y (List.mem_cons_of_mem _ hy)
        have := hx x List.mem_cons_self
        cases x <;> simp [nameB] at this
        rename_i s
        exact ⟨s :: ps, by rw [e]; rfl, fun y hy => by rcases List.mem_cons.mp hy with rfl | hy; exact this; exact hp y hy⟩
    obtain ⟨ps, e, hp⟩ := key xs h2
    exact ⟨ps, by rw [e], hp⟩
  · cases h
theorem days_of {d : D} (h : daysB d = true) : ∃ ds : List Int, d = .tup (ds.map D.int) := by
  unfold daysB at h
  split at h
  · rename_i xs
    simp only [Bool.and_eq_true] at h
    have h2 := List.all_eq_true.mp h.1
    have key : ∀ xs : List D, (∀ x ∈ xs, withinB x 0 6 = true) → ∃ ps : List Int, xs = ps.map D.int := by
      intro xs
      induction xs with
      | nil => intro _; exact ⟨[], rfl⟩
      | cons x xs ih =>
        intro hx
        obtain ⟨ps, e⟩ := ih fun y hy => hx y (List.mem_cons_of_mem _ hy)
        obtain ⟨i, rfl⟩ := within_int (hx x List.mem_cons_self)
        exact ⟨i :: ps, by rw [e]; rfl⟩
    obtain ⟨ps, e⟩ := key xs h2
    exact ⟨ps, by rw [e]⟩
  · cases h
theorem rule_of {d : D} (h : ruleB d = true) : ∃ r : Rule, d = r.enc ∧ (∀ x ∈ r.ks, nameS x = true) ∧ ∀ x ∈ r.ps, nameS x = true := by
  unfold ruleB at h
  split at h
  · rename_i a c e f g k
    simp only [rule6, Bool.and_eq_true] at h
    obtain ⟨h1, h2, h3, h4, h5, h6⟩ := h
    obtain ⟨ks, rfl, hk⟩ := names_of h2
    obtain ⟨ps, rfl, hp⟩ := names_of h3
    obtain ⟨ds, rfl⟩ := days_of h4
    obtain ⟨lo, rfl⟩ := within_int h5
    obtain ⟨hi, rfl⟩ := within_int (show withinB k lo 1000000 = true from h6)
    unfold wordB at h1
    split at h1
    · rename_i w
      rw [Bool.or_eq_true, decide_eq_true_eq, decide_eq_true_eq] at h1
      rcases h1 with rfl | rfl
      · exact ⟨⟨true, ks, ps, ds, lo, hi⟩, rfl, hk, hp⟩
      · exact ⟨⟨false, ks, ps, ds, lo, hi⟩, rfl, hk, hp⟩
    · cases h1
  · cases h
theorem book_of {d : D} (h : bookB d = true) : ∃ b : List Rule, d = bookE b ∧ b.length ≤ 6 ∧ ∀ r ∈ b, (∀ x ∈ r.ks, nameS x = true) ∧ ∀ x ∈ r.ps, nameS x = true := by
  unfold bookB at h
  split at h
  · rename_i xs
    simp only [Bool.and_eq_true, decide_eq_true_eq] at h
    have h2 := List.all_eq_true.mp h.2
    have key : ∀ xs : List D, (∀ x ∈ xs, ruleB x = true) → ∃ b : List Rule, xs = b.map Rule.enc ∧ ∀ r ∈ b, (∀ x ∈ r.ks, nameS x = true) ∧ ∀ x ∈ r.ps, nameS x = true := by
      intro xs
      induction xs with
      | nil => intro _; exact ⟨[], rfl, by simp⟩
      | cons x xs ih =>
        intro hx
        obtain ⟨b, e, hb⟩ := ih fun y hy => hx y (List.mem_cons_of_mem _ hy)
        obtain ⟨r, rfl, hr⟩ := rule_of (hx x List.mem_cons_self)
        exact ⟨r :: b, by rw [e]; rfl, fun y hy => by rcases List.mem_cons.mp hy with rfl | hy; exact hr; exact hb y hy⟩
    obtain ⟨b, e, hb⟩ := key xs h2
    refine ⟨b, by rw [e]; rfl, ?_, hb⟩
    have := h.1
    rw [e, List.length_map] at this; exact this
  · cases h
end LW
namespace LW
open TB
section
end
end LW
namespace LW
open TB
section
end
section
end
end LW
namespace TB
def retV : FR → List Slot → R KD
  | .ret r [], S => .ok r S
  | .exc x [], S => .exc x S
  | _, _ => .bad
def retB (i : Nat) : FR → List Slot → R KD
  | .ret r [o], S => .ok r (S.set i (some o))
  | .exc x [o], S => .exc x (S.set i (some o))
  | _, _ => .bad
@[simp] theorem retV_ret (r : KD) (S : List Slot) : retV (.ret r []) S = .ok r S := rfl
@[simp] theorem retB_ret (i : Nat) (r o : KD) (S : List Slot) : retB i (.ret r [o]) S = .ok r (S.set i (some o)) := rfl
def callsV (F : Fn) (ds : List D) (S : List Slot) : R KD := retV (F (ds.map fun d => (.fz, d))) S
def callsB (F : Fn) (i : Nat) (ds : List D) (S : List Slot) : R KD := match S[i]? with
  | some (some kd) => if kd.1.isF = true then .bad else retB i (F (kd :: ds.map fun d => (.fz, d))) S
  | _ => .bad
theorem arOut_v2 : ∀ (ds : List D) (os : List KD) (S : List Slot), arOut (ds.map AV.v) os S = if os = [] then some S else none
  | [], [], S => rfl
  | [], o :: os, S => by simp [arOut]
  | d :: ds, os, S => by rw [List.map_cons]; unfold arOut; exact arOut_v2 ds os S
theorem callAV_v (F : Fn) (ds : List D) (S : List Slot) : callAV F (ds.map AV.v) S = callsV F ds S := by
  unfold callAV callsV
  rw [arIn_vs]
  show (match F (ds.map fun d => (.fz, d)) with
    | .ret r os => (match arOut (ds.map AV.v) os S with | some S2 => R.ok r S2 | none => .bad)
    | .exc x os => (match arOut (ds.map AV.v) os S with | some S2 => R.exc x S2 | none => .bad)
    | .bad => R.bad) = _
  cases F (ds.map fun d => (.fz, d)) with
  | bad => rfl
  | ret r os => 
    show (match arOut (ds.map AV.v) os S with | some S2 => R.ok r S2 | none => .bad) = _
    rw [arOut_v2]; cases os <;> rfl
  | exc x os =>
    show (match arOut (ds.map AV.v) os S with | some S2 => R.exc x S2 | none => .bad) = _
    rw [arOut_v2]; cases os <;> rfl
theorem callAV_b (F : Fn) (i : Nat) (ds : List D) (S : List Slot) : callAV F (.b i :: ds.map AV.v) S = callsB F i ds S := by
  unfold callAV callsB arIn
  cases e1 : S[i]? with
  | none => rfl
  | some s =>
    cases s with
    | none => rfl
    | some kd =>
      by_cases h : kd.1.isF = true
      · simp [h]
      · simp only [h, Bool.false_eq_true, if_false]
        rw [arIn_vs]
        show (match F (kd :: ds.map fun d => (.fz, d)) with
          | .ret r os => (match arOut (.b i :: ds.map AV.v) os (S.set i none) with | some S2 => R.ok r S2 | none => .bad)
          | .exc x os => (match arOut (.b i :: ds.map AV.v) os (S.set i none) with | some S2 => R.exc x S2 | none => .bad)
          | .bad => R.bad) = _
        cases F (kd :: ds.map fun d => (.fz, d)) with
        | bad => rfl
        | ret r os =>
          show (match arOut (.b i :: ds.map AV.v) os (S.set i none) with | some S2 => R.ok r S2 | none => .bad) = _
          cases os with
          | nil => rfl
          | cons o os =>
            unfold arOut
            rw [arOut_v2, List.set_set]; cases os <;> rfl
        | exc x os =>
          show (match arOut (.b i :: ds.map AV.v) os (S.set i none) with | some S2 => R.exc x S2 | none => .bad) = _
          cases os with
          | nil => rfl
          | cons o os =>
            unfold arOut
            rw [arOut_v2, List.set_set]; cases os <;> rfl
theorem callV_ap (F : Fn) (es : List E) (S : List Slot) : eCall F (es.map Ar.v) S = (eAll es S).bind fun ds S1 => callsV F ds S1 := by
  show (arEv (es.map Ar.v) S).bind (fun vs S => callAV F vs S) = _
  rw [arEv_vs]
  cases eAll es S with
  | ok ds S1 => exact callAV_v F ds S1
  | exc x S1 => rfl
  | bad => rfl
theorem callB_ap (F : Fn) (i : Nat) (es : List E) (S : List Slot) : eCall F (.b i :: es.map Ar.v) S = match S[i]? with | some (some _) => (eAll es S).bind fun ds S1 => callsB F i ds S1 | _ => .bad := by
  show (arEv (.b i :: es.map Ar.v) S).bind (fun vs S => callAV F vs S) = _
  rw [arEv_b]
  cases e1 : S[i]? with
  | none => rfl
  | some s =>
    cases s with
    | none => rfl
    | some kd =>
      show ((arEv (es.map Ar.v) S).bind _).bind _ = (eAll es S).bind _
      rw [arEv_vs]
      cases eAll es S with
      | ok ds S1 => exact callAV_b F i ds S1
      | exc x S1 => rfl
      | bad => rfl
def isOb (c : Nat) : D → Bool
  | .ob c' _ => c' == c
  | _ => false
theorem methV_ap (c : Nat) (F : Fn) (r : E) (es : List E) (S : List Slot) : eMeth c F (.v r) (es.map Ar.v) [] S = (eDat r S).bind fun x S1 => if isOb c x = true then (eAll es S1).bind fun ds S2 => callsV F (x :: ds) S2 else .bad := by
  show (arEv [.v r] S).bind _ = _
  rw [arEv_v]
  cases eDat r S with
  | exc x S1 => rfl
  | bad => rfl
  | ok x S1 =>
    show (if isObj c (.v x) S1 = true then (M.bind (arEv (es.map Ar.v)) fun vs S => callAV F (.v x :: (vs ++ [])) S) S1 else .bad) = (if isOb c x = true then _ else _)
    have e1 : isObj c (.v x) S1 = isOb c x := by cases x <;> rfl
    rw [e1]
    split
    · rw [bind_ap, arEv_vs]
      cases eAll es S1 with
      | ok ds S2 =>
        show callAV F (.v x :: (ds.map AV.v ++ [])) S2 = callsV F (x :: ds) S2
        rw [List.append_nil]; exact callAV_v F (x :: ds) S2
      | exc x S2 => rfl
      | bad => rfl
    · rfl
def obK (c : Nat) : KD → Bool
  | (.ob _, .ob c' _) => c' == c
  | _ => false
theorem methB_ap (c : Nat) (F : Fn) (i : Nat) (es : List E) (S : List Slot) : eMeth c F (.b i) (es.map Ar.v) [] S = match S[i]? with
    | some (some kd) => if obK c kd = true then (eAll es S).bind fun ds S2 => callsB F i ds S2 else .bad
    | _ => .bad := by
  show (arEv [.b i] S).bind _ = _
  rw [arEv_b]
  cases e1 : S[i]? with
  | none => rfl
  | some s =>
    cases s with
    | none => rfl
    | some kd =>
      show (if isObj c (.b i) S = true then (M.bind (arEv (es.map Ar.v)) fun vs S => callAV F (.b i :: (vs ++ [])) S) S else .bad) = _
      have e2 : isObj c (.b i) S = obK c kd := by
        have : isObj c (.b i) S = (match (some (some kd) : Option Slot) with
          | some (some (.ob _, .ob c' _)) => c' == c
          | _ => false) := by rw [← e1]; rfl
        rw [this]
        obtain ⟨k, d⟩ := kd
        cases k <;> try rfl
        cases d <;> rfl
      rw [e2]
      show _ = (if obK c kd = true then _ else _)
      split
      · rw [bind_ap, arEv_vs]
        cases eAll es S with
        | ok ds S2 =>
          show callAV F (.b i :: (ds.map AV.v ++ [])) S2 = _
          rw [List.append_nil]; exact callAV_b F i ds S2
        | exc x S2 => rfl
        | bad => rfl
      · rfl
section
variable (F : Fn) (a b c d e : E) (i n : Nat) (r : E) (S : List Slot)
@[simp] theorem cv1 : eCall F [.v a] S = (eAll [a] S).bind fun ds S1 => callsV F ds S1 := callV_ap F [a] S
@[simp] theorem cv2 : eCall F [.v a, .v b] S = (eAll [a, b] S).bind fun ds S1 => callsV F ds S1 := callV_ap F [a, b] S
@[simp] theorem cv3 : eCall F [.v a, .v b, .v c] S = (eAll [a, b, c] S).bind fun ds S1 => callsV F ds S1 := callV_ap F [a, b, c] S
@[simp] theorem cv5 : eCall F [.v a, .v b, .v c, .v d, .v e] S = (eAll [a, b, c, d, e] S).bind fun ds S1 => callsV F ds S1 := callV_ap F [a, b, c, d, e] S
@[simp] theorem cb1 : eCall F [.b i, .v a] S = match S[i]? with | some (some _) => (eAll [a] S).bind fun ds S1 => callsB F i ds S1 | _ => .bad := callB_ap F i [a] S
@[simp] theorem cb2 : eCall F [.b i, .v a, .v b] S = match S[i]? with | some (some _) => (eAll [a, b] S).bind fun ds S1 => callsB F i ds S1 | _ => .bad := callB_ap F i [a, b] S
@[simp] theorem cb3 : eCall F [.b i, .v a, .v b, .v c] S = match S[i]? with | some (some _) => (eAll [a, b, c] S).bind fun ds S1 => callsB F i ds S1 | _ => .bad := callB_ap F i [a, b, c] S
@[simp] theorem mv1 : eMeth n F (.v r) [.v a] [] S = (eDat r S).bind fun x S1 => if isOb n x = true then (eAll [a] S1).bind fun ds S2 => callsV F (x :: ds) S2 else .bad := methV_ap n F r [a] S
@[simp] theorem mv2 : eMeth n F (.v r) [.v a, .v b] [] S = (eDat r S).bind fun x S1 => if isOb n x = true then (eAll [a, b] S1).bind fun ds S2 => callsV F (x :: ds) S2 else .bad := methV_ap n F r [a, b] S
@[simp] theorem mv3 : eMeth n F (.v r) [.v a, .v b, .v c] [] S = (eDat r S).bind fun x S1 => if isOb n x = true then (eAll [a, b, c] S1).bind fun ds S2 => callsV F (x :: ds) S2 else .bad := methV_ap n F r [a, b, c] S
@[simp] theorem mb1 : eMeth n F (.b i) [.v a] [] S = match S[i]? with | some (some kd) => (if obK n kd = true then (eAll [a] S).bind fun ds S2 => callsB F i ds S2 else .bad) | _ => .bad := methB_ap n F i [a] S
@[simp] theorem mb2 : eMeth n F (.b i) [.v a, .v b] [] S = match S[i]? with | some (some kd) => (if obK n kd = true then (eAll [a, b] S).bind fun ds S2 => callsB F i ds S2 else .bad) | _ => .bad := methB_ap n F i [a, b] S
@[simp] theorem mb3 : eMeth n F (.b i) [.v a, .v b, .v c] [] S = match S[i]? with | some (some kd) => (if obK n kd = true then (eAll [a, b, c] S).bind fun ds S2 => callsB F i ds S2 else .bad) | _ => .bad := methB_ap n F i [a, b, c] S
@[simp] theorem mb4 : eMeth n F (.b i) [.v a, .v b, .v c, .v d] [] S = match S[i]? with | some (some kd) => (if obK n kd = true then (eAll [a, b, c, d] S).bind fun ds S2 => callsB F i ds S2 else .bad) | _ => .bad := methB_ap n F i [a, b, c, d] S
end
theorem callsV_of {F : Fn} {ds : List D} {r : KD} (h : F (ds.map fun d => (.fz, d)) = .ret r []) (S : List Slot) : callsV F ds S = .ok r S := by unfold callsV; rw [h]; rfl
end TB
namespace TB
@[simp] theorem ePeekI_ap2 (e : E) (S : List Slot) : ePeekI e S = match e (S.map frz) with | .ok (_, d) _ => (if d.imm = true then .ok (.fz, d) S else .bad) | _ => .bad := rfl
@[simp] theorem eGet3_ap2 (a b c : E) (S : List Slot) : eGet3 a b c S = (eDat a S).bind fun x => if x.isDic = true then M.bind (eDat b) fun y => M.bind (eDat c) fun z => ofO (fGet3 x y z) else eBad := rfl
@[simp] theorem eLockLI_ap (i : Nat) (e : E) (S : List Slot) : eLockLI i e S = match S[i]? with
  | some (some (.dK .fz, .dic kvs)) => (match e ((S.map frz).set i (some (.fz, .ldc kvs))) with
    | .ok (.li .fz, .lst ds) _ => if D.imms ds = true then .ok (.li .fz, .lst ds) S else .bad
    | _ => .bad)
  | _ => .bad := rfl
@[simp] theorem itLdc_ap (i : Nat) (S : List Slot) : itLdc i S = match S[i]? with
  | some (some (.fz, .ldc kvs)) => .ok (kvs.map (·.1)) S
  | _ => .bad := rfl
end TB
namespace LW
open TB
section
end
end LW
namespace LW
open TB
/-- a text, or a small number -/
def Wd (d : D) : Prop := (∃ s, d = .str s ∧ s.length ≤ 1000) ∨ ∃ n : Nat, d = .int n ∧ n ≤ 1000000
def wd (d : D) : List Nat := match d with
  | .str s => s
  | .int i => strI i
  | _ => []
theorem wd_str {d : D} (h : Wd d) : fStrA [d] = some (.fz, .str (wd d)) := by
  rcases h with ⟨s, rfl, _⟩ | ⟨n, rfl, hn⟩
  · rfl
  · show (if (n : Int).natAbs < 10 ^ 30 then kz (.str (strI n)) else none) = _
    rw [if_pos (by omega)]
    rfl
theorem wd_len {d : D} (h : Wd d) : (wd d).length ≤ 1000 := by
  rcases h with ⟨s, rfl, hs⟩ | ⟨n, rfl, hn⟩
  · exact hs
  · have : (strI (n : Int)).length ≤ 31 := TB.strI_len (by omega)
    show (strI (n : Int)).length ≤ 1000
    omega
theorem sum_le : ∀ (ls : List (List Nat)) (M : Nat), (∀ x ∈ ls, x.length ≤ M) → (ls.map (·.length)).sum ≤ ls.length * M
  | [], M, _ => by simp
  | a :: ls, M, h => by
    have h1 := h a List.mem_cons_self
    have h2 := sum_le ls M fun x hx => h x (List.mem_cons_of_mem _ hx)
    simp only [List.map_cons, List.sum_cons, List.length_cons, Nat.add_mul, Nat.one_mul]
    omega
theorem join_s {c : Nat} {ls : List (List Nat)} (h : ∀ x ∈ ls, x.length ≤ 10000) (hl : ls.length ≤ 1000) : fJoin [c] (.lst (ls.map D.str)) = some (.fz, .str (joinD [c] ls)) := by
  have e : strsOf (ls.map D.str) = some ls := by
    clear h hl
    induction ls with
    | nil => rfl
    | cons a ls ih => simp [strsOf, ih]
  have s := sum_le ls 10000 h
  have s2 : ls.length * 10000 ≤ 1000 * 10000 := Nat.mul_le_mul_right _ hl
  show (strsOf (ls.map D.str)).bind (fun ss => if (ss.map (·.length)).sum + ss.length * ([c] : List Nat).length ≤ sizeMax then kz (.str (joinD [c] ss)) else none) = _
  rw [e]
  show (if (ls.map (·.length)).sum + ls.length * 1 ≤ sizeMax then kz (.str (joinD [c] ls)) else none) = _
  rw [if_pos (by unfold sizeMax; omega)]
  rfl
theorem orV {a b : E} {S : List Slot} {d : D} {t : Bool} (h : a S = .ok (.fz, d) S) (ht : truD d = some t) : eOrV a b S = if t = true then .ok (.fz, d) S else b S := by
  have e : eOrV a b S = (eDat a S).bind fun x => (match truD x with
    | some true => (TB.M.pure ((.fz, x) : KD) : E)
    | some false => b
    | none => eBad) := rfl
  rw [e, eDat_ap, h]
  show (match truD d with | some true => (TB.M.pure ((.fz, d) : KD) : E) | some false => b | none => eBad) S = _
  rw [ht]
  cases t <;> rfl
def someT (ls : List (List Nat)) : List Nat := if joinD [44] ls = [] then [42] else joinD [44] ls
section
variable {Γ : Nat → Fn}
theorem some_lc {ds : List D} (h : ∀ d ∈ ds, Wd d) (hl : ds.length ≤ 1000) : eJoin (eCon (.str [44])) (eLc (itSeq (eVar 0)) (.nm 1) [1] tTrue (eApp fStrA [(eVar 1)])) [some (.fz, .tup ds), none] = .ok (.fz, .str (joinD [44] (ds.map wd))) [some (.fz, .tup ds), none] := by
  have z := lc_pure (v := 1) (S0 := [some (.fz, .tup ds), none]) (S := [some (.fz, .tup ds), none]) (it := itSeq (eVar 0)) (c := tTrue) (e := eApp fStrA [(eVar 1)]) (ds := ds) (fun _ => true) (fun d => .str (wd d)) (by simp [itemsOf]) (by simp) rfl (fun _ _ => rfl)
    (fun d hd _ => ⟨.fz, by simp [wd_str (h d hd)]⟩) (by unfold sizeMax; omega)
  rw [List.filter_eq_self.mpr (fun _ _ => rfl)] at z
  have j := join_s (c := 44) (ls := ds.map wd) (fun x hx => by
    obtain ⟨d, hd, rfl⟩ := List.mem_map.mp hx
    have := wd_len (h d hd)
    omega) (by rw [List.length_map]; exact hl)
  rw [List.map_map] at j
  have z : eLc (itSeq (eVar 0)) (.nm 1) [1] tTrue (eApp fStrA [(eVar 1)]) [some (.fz, .tup ds), none] = .ok (.li .fz, .lst (ds.map (D.str ∘ wd))) [some (.fz, .tup ds), none] := z
  generalize ds.map (D.str ∘ wd) = L at *
  simp [z, j]
theorem some_33 {ds : List D} (h : ∀ d ∈ ds, Wd d) (hl : ds.length ≤ 1000) : runF 2 [] (mb_33 Γ) [(.fz, .tup ds)] = .ret (.fz, .str (someT (ds.map wd))) [] ∧ runF 2 [] (mb_320 Γ) [(.fz, .tup ds)] = .ret (.fz, .str (someT (ds.map wd))) [] := by
  have z := some_lc h hl
  have jl := joinD_len [44] (ds.map wd)
  have sl := sum_le (ds.map wd) 1000 fun x hx => by
    obtain ⟨d, hd, rfl⟩ := List.mem_map.mp hx
    exact wd_len (h d hd)
  rw [List.length_map] at sl jl
  have s2 : ds.length * 1000 ≤ 1000 * 1000 := Nat.mul_le_mul_right _ hl
  unfold someT
  have jz : (joinD [44] (ds.map wd)).length ≤ sizeMax := by simp only [List.length_cons, List.length_nil] at jl; unfold sizeMax; omega
  generalize joinD [44] (ds.map wd) = J at *
  have tr : truD (.str J) = some (!decide (J = [])) := by
    show (if J.length ≤ sizeMax then some ((J.length : Int) != 0) else none) = _
    rw [if_pos jz]
    cases J with
    | nil => rfl
    | cons a b => simp; omega
  have ov : eOrV (eJoin (eCon (.str [44])) (eLc (itSeq (eVar 0)) (.nm 1) [1] tTrue (eApp fStrA [(eVar 1)]))) (eCon (.str [42])) [some (.fz, .tup ds), none] = .ok (.fz, .str (if J = [] then [42] else J)) [some (.fz, .tup ds), none] := by
    rw [orV z tr]
    by_cases q : J = []
    · subst q; rfl
    · rw [decide_eq_false q, if_neg q]; rfl
  constructor
  · refine FnP.eq (runF_wp (by rfl) ?_)
    show okP (mb_33 Γ [some (.fz, .tup ds), none]) _
    unfold mb_33
    rw [sRet_ap, ov]
    simp [outsOf, Kd.isF]
  · refine FnP.eq (runF_wp (by rfl) ?_)
    show okP (mb_320 Γ [some (.fz, .tup ds), none]) _
    unfold mb_320
    rw [sRet_ap, ov]
    simp [outsOf, Kd.isF]
end
end LW
namespace LW
open TB
/-- what a rule is made of can be written -/
structure Rw (r : Rule) : Prop where
  ks : ∀ s ∈ r.ks, s.length ≤ 1000
  ps : ∀ s ∈ r.ps, s.length ≤ 1000
  ds : ∀ i ∈ r.ds, ∃ n : Nat, i = n ∧ n ≤ 1000000
  lo : ∃ n : Nat, r.lo = n ∧ n ≤ 1000000
  hi : ∃ n : Nat, r.hi = n ∧ n ≤ 1000000
  kl : r.ks.length ≤ 9
  pl : r.ps.length ≤ 9
  dl : r.ds.length ≤ 9
def wordT (r : Rule) : List Nat := if r.lt then tLet else tBar
def ruleW (r : Rule) : List (List Nat) := [wordT r, someT r.ks, someT r.ps, someT (r.ds.map strI), strI r.lo, strI r.hi]
def ruleTx (r : Rule) : List Nat := joinD [32] (ruleW r)
def bookTx (b : List Rule) : List Nat := joinD [10] (b.map ruleTx)
theorem someT_len {ls : List (List Nat)} (h : ∀ x ∈ ls, x.length ≤ 1000) (hl : ls.length ≤ 9) : (someT ls).length ≤ 9100 := by
  have j := joinD_len [44] ls
  have s := sum_le ls 1000 h
  have s2 : ls.length * 1000 ≤ 9 * 1000 := Nat.mul_le_mul_right _ hl
  unfold someT
  split
  · simp
  · simp only [List.length_cons, List.length_nil] at j; omega
theorem wds_str {ls : List (List Nat)} (h : ∀ s ∈ ls, s.length ≤ 1000) : ∀ d ∈ ls.map D.str, Wd d := fun d hd => by
  obtain ⟨s, hs, rfl⟩ := List.mem_map.mp hd
  exact .inl ⟨s, rfl, h s hs⟩
theorem wds_int {ls : List Int} (h : ∀ i ∈ ls, ∃ n : Nat, i = n ∧ n ≤ 1000000) : ∀ d ∈ ls.map D.int, Wd d := fun d hd => by
  obtain ⟨i, hi, rfl⟩ := List.mem_map.mp hd
  obtain ⟨n, rfl, hn⟩ := h i hi
  exact .inr ⟨n, rfl, hn⟩
theorem wd_strs (ls : List (List Nat)) : (ls.map D.str).map wd = ls := by rw [List.map_map]; exact (List.map_congr_left fun x _ => rfl).trans (List.map_id ls)
theorem wd_ints (ls : List Int) : (ls.map D.int).map wd = ls.map strI := by rw [List.map_map]; rfl
section
variable {Γ : Nat → Fn}
def S33 (F : Fn) : Prop := ∀ ds : List D, (∀ d ∈ ds, Wd d) → ds.length ≤ 1000 → F [(.fz, .tup ds)] = .ret (.fz, .str (someT (ds.map wd))) []
theorem rule_34 (h : S33 (Γ 33)) {r : Rule} (w : Rw r) : runF 3 [] (mb_34 Γ) [(.fz, r.enc)] = .ret (.fz, .str (ruleTx r)) [] := by
  refine FnP.eq (runF_wp (by rfl) ?_)
  have k1 := wds_str w.ks
  have k2 := wds_str w.ps
  have k3 := wds_int w.ds
  have c1 : ∀ S, callsV (Γ 33) [.tup (r.ks.map D.str)] S = .ok (.fz, .str (someT r.ks)) S := fun S => by
    have := callsV_of (ds := [.tup (r.ks.map D.str)]) (h _ k1 (by rw [List.length_map]; have := w.kl; omega)) S
    rwa [wd_strs] at this
  have c2 : ∀ S, callsV (Γ 33) [.tup (r.ps.map D.str)] S = .ok (.fz, .str (someT r.ps)) S := fun S => by
    have := callsV_of (ds := [.tup (r.ps.map D.str)]) (h _ k2 (by rw [List.length_map]; have := w.pl; omega)) S
    rwa [wd_strs] at this
  have c3 : ∀ S, callsV (Γ 33) [.tup (r.ds.map D.int)] S = .ok (.fz, .str (someT (r.ds.map strI))) S := fun S => by
    have := callsV_of (ds := [.tup (r.ds.map D.int)]) (h _ k3 (by rw [List.length_map]; have := w.dl; omega)) S
    rwa [wd_ints] at this
  have sl : fSl r.enc (some 1) (some 4) = some (.fz, .tup [.tup (r.ks.map D.str), .tup (r.ps.map D.str), .tup (r.ds.map D.int)]) := rfl
  have x0 : fIx r.enc (.int 0) = some (.fz, .str (wordT r)) := rfl
  have x4 : fIx r.enc (.int 4) = some (.fz, .int r.lo) := rfl
  have x5 : fIx r.enc (.int 5) = some (.fz, .int r.hi) := rfl
  have s4 : fStrA [.int r.lo] = some (.fz, .str (strI r.lo)) := by obtain ⟨n, e, hn⟩ := w.lo; rw [e]; exact wd_str (.inr ⟨n, rfl, hn⟩)
  have s5 : fStrA [.int r.hi] = some (.fz, .str (strI r.hi)) := by obtain ⟨n, e, hn⟩ := w.hi; rw [e]; exact wd_str (.inr ⟨n, rfl, hn⟩)
  have l4 : (strI r.lo).length ≤ 1000 := by obtain ⟨n, e, hn⟩ := w.lo; rw [e]; exact wd_len (d := .int n) (.inr ⟨n, rfl, hn⟩)
  have l5 : (strI r.hi).length ≤ 1000 := by obtain ⟨n, e, hn⟩ := w.hi; rw [e]; exact wd_len (d := .int n) (.inr ⟨n, rfl, hn⟩)
  have lw : (wordT r).length ≤ 1000 := by unfold wordT; split <;> decide
  have lk := someT_len w.ks w.kl
  have lp := someT_len w.ps w.pl
  have ld := someT_len (ls := r.ds.map strI) (fun x hx => by
    obtain ⟨i, hi, rfl⟩ := List.mem_map.mp hx
    obtain ⟨n, rfl, hn⟩ := w.ds i hi
    exact wd_len (d := .int n) (.inr ⟨n, rfl, hn⟩)) (by rw [List.length_map]; exact w.dl)
  have j := join_s (c := 32) (ls := ruleW r) (fun x hx => by
    unfold ruleW at hx
    simp only [List.mem_cons, List.not_mem_nil, or_false] at hx
    rcases hx with rfl | rfl | rfl | rfl | rfl | rfl <;> omega) (by unfold ruleW; simp)
  have z := lc_pure (v := 2) (S0 := [some (.fz, r.enc), none, none]) (S := [some (.fz, r.enc), none, none]) (it := itSeq (eSl (eVar 0) (some (eCon (.int 1))) (some (eCon (.int 4))))) (c := tTrue) (e := eCall (Γ 33) [.v (eVar 2)]) (ds := [.tup (r.ks.map D.str), .tup (r.ps.map D.str), .tup (r.ds.map D.int)])
    (fun _ => true) (fun d => match d with | .tup xs => .str (someT (xs.map wd)) | _ => .non) (by
      generalize r.enc = RE at *
      simp [eOpt, sl, itemsOf]) (by simp) rfl (fun _ _ => rfl)
    (fun d hd _ => by
      simp only [List.mem_cons, List.not_mem_nil, or_false] at hd
      rcases hd with rfl | rfl | rfl
      · exact ⟨.fz, by simp only []; rw [wd_strs]; simp [c1]⟩
      · exact ⟨.fz, by simp only []; rw [wd_strs]; simp [c2]⟩
      · exact ⟨.fz, by simp only []; rw [wd_ints]; simp [c3]⟩) (by show 3 ≤ sizeMax; decide)
  rw [List.filter_eq_self.mpr (fun _ _ => rfl)] at z
  simp only [List.map_cons, List.map_nil] at z
  rw [wd_strs, wd_strs, wd_ints] at z
  have f1 : fLst [.str (wordT r)] = some (.li .fz, .lst [.str (wordT r)]) := rfl
  have f2 : fLst [.str (strI r.lo), .str (strI r.hi)] = some (.li .fz, .lst [.str (strI r.lo), .str (strI r.hi)]) := rfl
  have a1 : fAdd (.lst [.str (wordT r)]) (.lst [.str (someT r.ks), .str (someT r.ps), .str (someT (r.ds.map strI))]) = some (.li .fz, .lst [.str (wordT r), .str (someT r.ks), .str (someT r.ps), .str (someT (r.ds.map strI))]) := rfl
  have a2 : fAdd (.lst [.str (wordT r), .str (someT r.ks), .str (someT r.ps), .str (someT (r.ds.map strI))]) (.lst [.str (strI r.lo), .str (strI r.hi)]) = some (.li .fz, .lst ((ruleW r).map D.str)) := rfl
  unfold ruleTx
  generalize joinD [32] (ruleW r) = J at *
  generalize (ruleW r).map D.str = L at *
  generalize r.enc = RE at *
  generalize someT r.ks = K1 at *
  generalize someT r.ps = K2 at *
  generalize someT (r.ds.map strI) = K3 at *
  simp [mb_34, x0, x4, x5, s4, s5, f1, f2, z, a1, a2, j, outsOf, Kd.isF]
end
end LW
namespace LW
open TB
def ruleOf (t : List Nat) : Option D := match splC 32 [] t with
  | [w0, w1, w2, w3, w4, w5] => if ruleB (ruleT w0 w1 w2 w3 w4 w5) = true then some (ruleT w0 w1 w2 w3 w4 w5) else none
  | _ => none
def optD : Option D → D
  | none => .non
  | some d => d
structure R62 (N : Nat) (Γ : Nat → Fn) : Prop where
  n280 : ∀ w, Tx N w → Γ 280 [(.fz, .str w)] = .ret (.fz, numD w) []
  n304 : ∀ w, Tx N w → Γ 304 [(.fz, .str w)] = .ret (.fz, numD w) []
  s282 : ∀ w, Tx N w → Γ 282 [(.fz, .str w)] = .ret (.fz, someD w) []
  s321 : ∀ w, Tx N w → Γ 321 [(.fz, .str w)] = .ret (.fz, someD w) []
  r4 : ∀ d, good (N + 1) 2 d → Γ 4 [(.fz, d)] = .ret (.fz, .bl (ruleB d)) []
  b19 : ∀ d, good (N + 1) 3 d → Γ 19 [(.fz, d)] = .ret (.fz, .bl (bookB d)) []
section
variable {Γ : Nat → Fn} {N : Nat}
theorem days_lc {F G : Fn} {w : List Nat} (h : Tx N w) (hN : N ≤ 80000) (hF : ∀ w, Tx N w → F [(.fz, .str w)] = .ret (.fz, someD w) []) (hG : ∀ w, Tx N w → G [(.fz, .str w)] = .ret (.fz, numD w) []) {v : Nat} {e : E} {S : List Slot}
    {k0 : Kd} (he : e S = .ok (k0, .str w) S) (hv : v < S.length) (hz : fzAt S v = true) :
    eLc (itSeq (eCall F [.v e])) (.nm v) [v] tTrue (eCall G [.v (eVar v)]) S = .ok (.li .fz, .lst ((someP w).map numD)) S := by
  have cF : ∀ S, callsV F [.str w] S = .ok (.fz, someD w) S := fun S => callsV_of (ds := [.str w]) (hF w h) S
  obtain ⟨l1, l2⟩ := h.some
  have z := lc_pure (v := v) (S0 := S) (S := S) (it := itSeq (eCall F [.v e])) (c := tTrue) (e := eCall G [.v (eVar v)]) (ds := (someP w).map D.str) (fun _ => true) (fun d => match d with | .str p => numD p | _ => .non)
    (by rw [itSeq_ap]; simp [he, cF, someD, itemsOf]) hv hz (fun _ _ => rfl)
    (fun d hd _ => by
      obtain ⟨p, hp, rfl⟩ := List.mem_map.mp hd
      have cG : ∀ S, callsV G [.str p] S = .ok (.fz, numD p) S := fun S => callsV_of (ds := [.str p]) (hG p (l2 p hp)) S
      exact ⟨.fz, by simp [hv, cG]⟩) (by rw [List.length_map]; unfold sizeMax; omega)
  rw [List.filter_eq_self.mpr (fun _ _ => rfl), List.map_map] at z
  exact z
theorem rule_283 (h : R62 N Γ) (hN : N ≤ 80000) (hN5 : 5 ≤ N) {t : List Nat} (ht : Tx N t) : runF 5 [] (mb_283 Γ) [(.fz, .str t)] = .ret (.fz, optD (ruleOf t)) [] := by
  refine FnP.eq (runF_wp (by rfl) ?_)
  have sp := split_sQ (s := t) (c := 32) (by have := ht.1; omega) (by decide)
  have pl := splC_len 32 t []
  have pm := ht.parts 32
  have ln : ∀ ws : List (List Nat), fLen [.lst (ws.map D.str)] = some (.fz, .int ws.length) := fun ws => by
    show kz (.int ((ws.map D.str).length)) = _
    rw [List.length_map]
    rfl
  have nei : ∀ a b : Int, fNe (.int a) (.int b) = some (.fz, .bl (!decide (a = b))) := fun a b => by
    show kz (.bl (!(a == b))) = _
    have : (a == b) = decide (a = b) := by rw [Bool.eq_iff_iff]; simp
    rw [this]; rfl
  unfold ruleOf
  generalize splC 32 [] t = ws at *
  have l6 := ln ws
  by_cases h6 : ws.length = 6
  · obtain ⟨w0, w1, w2, w3, w4, w5, rfl⟩ : ∃ w0 w1 w2 w3 w4 w5, ws = [w0, w1, w2, w3, w4, w5] := by
      match ws, h6 with
      | [a, b, c, d, e, f], _ => exact ⟨a, b, c, d, e, f, rfl⟩
    have t0 := pm w0 (by simp)
    have t1 := pm w1 (by simp)
    have t2 := pm w2 (by simp)
    have t3 := pm w3 (by simp)
    have t4 := pm w4 (by simp)
    have t5 := pm w5 (by simp)
    simp only [List.map_cons, List.map_nil] at sp l6
    have x0 : fIx (.lst [.str w0, .str w1, .str w2, .str w3, .str w4, .str w5]) (.int 0) = some (.fz, .str w0) := rfl
    have x1 : fIx (.lst [.str w0, .str w1, .str w2, .str w3, .str w4, .str w5]) (.int 1) = some (.fz, .str w1) := rfl
    have x2 : fIx (.lst [.str w0, .str w1, .str w2, .str w3, .str w4, .str w5]) (.int 2) = some (.fz, .str w2) := rfl
    have x3 : fIx (.lst [.str w0, .str w1, .str w2, .str w3, .str w4, .str w5]) (.int 3) = some (.fz, .str w3) := rfl
    have x4 : fIx (.lst [.str w0, .str w1, .str w2, .str w3, .str w4, .str w5]) (.int 4) = some (.fz, .str w4) := rfl
    have x5 : fIx (.lst [.str w0, .str w1, .str w2, .str w3, .str w4, .str w5]) (.int 5) = some (.fz, .str w5) := rfl
    have n6 := nei 6 6
    have c1 : ∀ S, callsV (Γ 282) [.str w1] S = .ok (.fz, someD w1) S := fun S => callsV_of (ds := [.str w1]) (h.s282 w1 t1) S
    have c2 : ∀ S, callsV (Γ 282) [.str w2] S = .ok (.fz, someD w2) S := fun S => callsV_of (ds := [.str w2]) (h.s282 w2 t2) S
    have c4 : ∀ S, callsV (Γ 280) [.str w4] S = .ok (.fz, numD w4) S := fun S => callsV_of (ds := [.str w4]) (h.n280 w4 t4) S
    have c5 : ∀ S, callsV (Γ 280) [.str w5] S = .ok (.fz, numD w5) S := fun S => callsV_of (ds := [.str w5]) (h.n280 w5 t5) S
    have tp : fTup [.str w0, someD w1, someD w2, .tup ((someP w3).map numD), numD w4, numD w5] = some (.fz, ruleT w0 w1 w2 w3 w4 w5) := rfl
    have cr : ∀ S, callsV (Γ 4) [ruleT w0 w1 w2 w3 w4 w5] S = .ok (.fz, .bl (ruleB (ruleT w0 w1 w2 w3 w4 w5))) S := fun S => callsV_of (ds := [ruleT w0 w1 w2 w3 w4 w5]) (h.r4 _ (rule_good hN5 t0 t1 t2 t3)) S
    have dl := days_lc (F := Γ 282) (G := Γ 280) (v := 4) (e := eOp fIx (eVar 1) (eCon (.int 3))) (S := [some (.fz, .str t), some (.fz, .lst [.str w0, .str w1, .str w2, .str w3, .str w4, .str w5]), none, none, none]) t3 hN h.s282 h.n280 (k0 := .fz) (by simp [x3]) (by simp) rfl
    have ft : ∀ xs : List D, fTuple [.lst xs] = some (.fz, .tup xs) := fun _ => rfl
    dsimp only
    generalize ruleT w0 w1 w2 w3 w4 w5 = RT at *
    generalize someD w1 = S1 at *
    generalize someD w2 = S2 at *
    generalize (someP w3).map numD = L3 at *
    generalize numD w4 = N4 at *
    generalize numD w5 = N5 at *
    generalize [D.str w0, .str w1, .str w2, .str w3, .str w4, .str w5] = WL at *
    have l6 : fLen [.lst WL] = some (.fz, .int 6) := l6
    cases hb : ruleB RT with
    | true =>
      rw [hb] at cr
      simp [mb_283, sp, l6, n6, dl, ft, x0, x1, x2, x4, x5, c1, c2, c4, c5, tp, cr, outsOf, Kd.isF, optD]
    | false =>
      rw [hb] at cr
      simp [mb_283, sp, l6, n6, dl, ft, x0, x1, x2, x4, x5, c1, c2, c4, c5, tp, cr, outsOf, Kd.isF, optD]
  · have rn : (match ws with | [w0, w1, w2, w3, w4, w5] => (if ruleB (ruleT w0 w1 w2 w3 w4 w5) = true then some (ruleT w0 w1 w2 w3 w4 w5) else none) | _ => none) = none := by
      split
      · exact absurd rfl h6
      · rfl
    rw [rn]
    have nb := nei (ws.length : Int) 6
    have h6' : ¬ ((ws.length : Int) = 6) := by omega
    simp [mb_283, sp, l6, nb, h6', outsOf, Kd.isF, optD]
end
end LW
namespace LW
open TB
section
end
end LW
namespace LW
open TB
@[simp] theorem sSetSl_ap (i : Nat) (a b e : E) (S : List Slot) : sSetSl i a b e S = (eDat e S).bind fun y S1 => (TB.hasL i S1).bind fun _ S2 => (eDat a S2).bind fun p S3 => (match p with
  | .int l => M.bind (eDat b) fun q => (match q with
    | .int h => (match y with
      | .lst ys => fun S => (match ownL S i with
        | some xs => if 0 ≤ l ∧ l ≤ h ∧ l ≤ xs.length ∧ xs.length + ys.length ≤ sizeMax then R.ok Fl.nx (S.set i (some (.li .fz, .lst (xs.take l.toNat ++ ys ++ xs.drop h.toNat)))) else .bad
        | none => .bad)
      | _ => fun _ => .bad)
    | _ => fun _ => .bad)
  | _ => fun _ => .bad) S3 := rfl
section
end
end LW
namespace LW
open TB
section
end
end LW
namespace LW
open TB
section
variable (sh : Shop) (m : M)
@[simp] theorem ff0 : fFld 0 0 (cD sh m) = some (.fz, bookE sh.book) := rfl
@[simp] theorem ff1 : fFld 0 1 (cD sh m) = some (.fz, .tup (sh.lims.map limE)) := rfl
@[simp] theorem ff2 : fFld 0 2 (cD sh m) = some (.fz, .tup (sh.terms.map trmE)) := rfl
@[simp] theorem ff3 : fFld 0 3 (cD sh m) = some (.fz, .dic (encA D.str accV m.cnt)) := rfl
@[simp] theorem ff4 : fFld 0 4 (cD sh m) = some (.fz, .dit (encA k2 D.int m.deb)) := rfl
@[simp] theorem ff5 : fFld 0 5 (cD sh m) = some (.fz, .dit (encA k3 D.int m.sp)) := rfl
@[simp] theorem ff7 : fFld 0 7 (cD sh m) = some (.fz, .int m.ended) := rfl
@[simp] theorem ff8 : fFld 0 8 (cD sh m) = some (.fz, .dic (encA D.int psV m.buy)) := rfl
@[simp] theorem isOb_c : isOb 0 (cD sh m) = true := rfl
@[simp] theorem obK_c : obK 0 (cK, cD sh m) = true := rfl
@[simp] theorem cK_isF : Kd.isF cK = false := rfl
@[simp] theorem frz_s (kd : KD) : frz (some kd) = some (.fz, kd.2) := rfl
@[simp] theorem frz_n : frz none = none := rfl
end
@[simp] theorem peekI_ap (e : E) (S : List Slot) : ePeekI e S = match e (S.map frz) with | .ok (_, d) _ => (if d.imm = true then .ok (.fz, d) S else .bad) | _ => .bad := rfl
@[simp] theorem get3_ap (a b c : E) (S : List Slot) : eGet3 a b c S = (eDat a S).bind fun x S1 => if x.isDic = true then (eDat b S1).bind fun y S2 => (eDat c S2).bind fun z S3 => ofO (fGet3 x y z) S3 else .bad := by
  unfold eGet3; simp only [bind_ap]; congr 1; funext x S1
  split <;> rfl
@[simp] theorem nget3_ap (a b c : E) (S : List Slot) : eNget3 a b c S = (eDat a S).bind fun x S1 => if x.isDit = true then (eDat b S1).bind fun y S2 => (eDat c S2).bind fun z S3 => ofO (fNget3 x y z) S3 else .bad := by
  unfold eNget3; simp only [bind_ap]; congr 1; funext x S1
  split <;> rfl
@[simp] theorem isDic_dic (k) : D.isDic (.dic k) = true := rfl
@[simp] theorem isDit_dit (k) : D.isDit (.dit k) = true := rfl
@[simp] theorem imm_int (i : Int) : D.imm (.int i) = true := by simp [D.imm]
@[simp] theorem imm_str (i : Nm) : D.imm (.str i) = true := by simp [D.imm]
@[simp] theorem imm_tup (xs : List D) : D.imm (.tup xs) = D.imms xs := by rw [D.imm]
@[simp] theorem add_i (i j : Int) : fAdd (.int i) (.int j) = some (.fz, .int (i + j)) := rfl
@[simp] theorem sub_i (i j : Int) : fSub (.int i) (.int j) = some (.fz, .int (i - j)) := rfl
@[simp] theorem lt_i (i j : Int) : fLt (.int i) (.int j) = some (.fz, .bl (decide (i < j))) := rfl
@[simp] theorem le_i (i j : Int) : fLe (.int i) (.int j) = some (.fz, .bl (decide (i ≤ j))) := rfl
@[simp] theorem gt_i (i j : Int) : fGt (.int i) (.int j) = some (.fz, .bl (decide (j < i))) := rfl
@[simp] theorem eqi (i j : Int) : fEq (.int i) (.int j) = some (.fz, .bl (decide (i = j))) := fEq_int i j
@[simp] theorem eqs (i j : Nm) : fEq (.str i) (.str j) = some (.fz, .bl (decide (i = j))) := fEq_str i j
@[simp] theorem lst1 (a : D) : fLst [a] = some (.li .fz, .lst [a]) := rfl
@[simp] theorem lst0 : fLst [] = some (.li .fz, .lst []) := rfl
@[simp] theorem zer7 : fMul (.lst [.int 0]) (.int 7) = some (.li .fz, accV z7) := rfl
@[simp] theorem get3_s (m : List (Nm × List Int)) (p : Nm) (g : List Int) : fGet3 (.dic (encA D.str accV m)) (.str p) (accV g) = some (.fz, accV ((aget m p).getD g)) := by
  show (if isKey (.str p) = true then kz ((valD (encA D.str accV m) (.str p)).getD (accV g)) else none) = _
  rw [if_pos (by rfl), val_enc eqv_str]
  cases aget m p <;> rfl
@[simp] theorem get3_b (m : List (Int × List Nm)) (p : Int) : fGet3 (.dic (encA D.int psV m)) (.int p) (.tup []) = some (.fz, psV ((aget m p).getD [])) := by
  show (if isKey (.int p) = true then kz ((valD (encA D.int psV m) (.int p)).getD (.tup [])) else none) = _
  rw [if_pos (by rfl), val_enc eqv_int]
  cases aget m p <;> rfl
theorem fNget3_gen {κ β : Type} [DecidableEq κ] {K : κ → D} {V : β → D} (he : ∀ a b, D.eqv (K a) (K b) = decide (a = b)) (hn : ∀ a, isNK (K a) = true) (m : List (κ × β)) (k : κ) (z : β) : fNget3 (.dit (encA K V m)) (K k) (V z) = some (.fz, V ((aget m k).getD z)) := by
  show (if isNK (K k) = true then kz ((valD (encA K V m) (K k)).getD (V z)) else none) = _
  rw [if_pos (hn k), val_enc he]
  cases aget m k <;> rfl
@[simp] theorem nget_deb (m : List ((Nm × Nm) × Int)) (p q : Nm) (z : Int) : fNget3 (.dit (encA k2 D.int m)) (.tup [.str p, .str q]) (.int z) = some (.fz, .int ((aget m (p, q)).getD z)) := fNget3_gen (K := k2) (V := D.int) eqv_k2 nk_k2 m (p, q) z
@[simp] theorem nget_sp (m : List ((Int × Nm × Nm) × Int)) (d : Int) (p q : Nm) (z : Int) : fNget3 (.dit (encA k3 D.int m)) (.tup [.int d, .str p, .str q]) (.int z) = some (.fz, .int ((aget m (d, p, q)).getD z)) := fNget3_gen (K := k3) (V := D.int) eqv_k3 nk_k3 m (d, p, q) z
@[simp] theorem nget_spl (m : List ((Int × Nm) × List (Int × Nm × Nm × Int))) (d : Int) (p : Nm) : fNget3 (.dit (encA kd2 splV m)) (.tup [.int d, .str p]) (.lst []) = some (.fz, splV ((aget m (d, p)).getD [])) := fNget3_gen (K := kd2) (V := splV) eqv_kd2 nk_kd2 m (d, p) []
@[simp] theorem tup_2 (a b : D) : fTup [a, b] = some (.fz, .tup [a, b]) := rfl
@[simp] theorem tup_3 (a b c : D) : fTup [a, b, c] = some (.fz, .tup [a, b, c]) := rfl
@[simp] theorem tup_4 (a b c d : D) : fTup [a, b, c, d] = some (.fz, .tup [a, b, c, d]) := rfl
@[simp] theorem tup_00 : fTup [] = some (.fz, .tup []) := rfl
@[simp] theorem not_ind (m : List (Nm × List Int)) (p : Nm) : fNotInD (.str p) (.dic (encA D.str accV m)) = some (.fz, .bl (!(aget m p).isSome)) := by
  show (if isKey (.str p) = true then kz (.bl (!(valD (encA D.str accV m) (.str p)).isSome)) else none) = _
  rw [if_pos (by rfl), val_enc eqv_str]
  cases aget m p <;> rfl
@[simp] theorem isF_z : Kd.isF .fz = true := rfl
@[simp] theorem isF_l (k : Kd) : Kd.isF (.li k) = false := rfl
@[simp] theorem tuple_l (g : List Int) : fTuple [accV g] = some (.fz, .tup (g.map D.int)) := rfl
@[simp] theorem sl_3 (g : List Int) : fSl (.tup (g.map D.int)) none (some 3) = some (.fz, .tup ((g.take 3).map D.int)) := by
  have e : cutL (g.map D.int) none (some 3) = (g.take 3).map D.int := by
    unfold cutL ixS
    simp [List.map_take]
  show kz (.tup (cutL (g.map D.int) none (some 3))) = _
  rw [e]; rfl
@[simp] theorem sl_3' (g : List Int) : fSl (.tup (g.map D.int)) (some 3) none = some (.fz, .tup ((g.drop 3).map D.int)) := by
  have e : cutL (g.map D.int) (some 3) none = (g.drop 3).map D.int := by
    unfold cutL ixS
    simp [List.map_drop]
    rcases Nat.le_total 3 g.length with q | q
    · rw [Nat.min_eq_left q, List.take_of_length_le (by simp)]
    · rw [Nat.min_eq_right q, List.drop_of_length_le (by simp), List.drop_of_length_le (by simpa using q)]; simp
  show kz (.tup (cutL (g.map D.int) (some 3) none)) = _
  rw [e]; rfl
@[simp] theorem sum_t (g : List Int) : fSum [.tup (g.map D.int)] = some (.fz, .int g.sum) := by
  show (intsOf (g.map D.int)).bind _ = _
  rw [intsOf_map]; rfl
@[simp] theorem sum_l (g : List Int) : fSum [.lst (g.map D.int)] = some (.fz, .int g.sum) := by
  show (intsOf (g.map D.int)).bind _ = _
  rw [intsOf_map]; rfl
section
end
end LW
namespace TB
end TB
namespace LW
open TB
theorem imms_str : ∀ ps : List Nm, D.imms (ps.map D.str) = true
  | [] => by simp [D.imms]
  | p :: ps => by rw [List.map_cons]; simp [D.imms, imms_str ps]
theorem enc_keys {β : Type} (V : β → D) (m : List (Nm × β)) : (encA D.str V m).map (·.1) = (aks m).map D.str := by unfold encA aks; rw [List.map_map, List.map_map]; rfl
@[simp] theorem imm_ps (ps : List Nm) : D.imm (psV ps) = true := by unfold psV; rw [imm_tup]; exact imms_str ps
@[simp] theorem items_ps (ps : List Nm) : itemsOf (psV ps) = some (ps.map D.str) := rfl
section
variable {Γ : Nat → Fn} {B : Nat} {sh : Shop} {m : M}
@[simp] theorem trm_0 (t : Int × Nm) : fIx (trmE t) (.int 0) = some (.fz, .int t.1) := ix0
@[simp] theorem trm_1 (t : Int × Nm) : fIx (trmE t) (.int 1) = some (.fz, .str t.2) := ix1
@[simp] theorem len_t (xs : List D) : fLen [.tup xs] = some (.fz, .int xs.length) := rfl
@[simp] theorem list_cnt (m : M) : fList [.dic (encA D.str accV m.cnt)] = some (.li .fz, .lst ((aks m.cnt).map D.str)) := by
  show some ((Kd.li .fz, D.lst ((encA D.str accV m.cnt).map (·.1))) : KD) = _
  rw [enc_keys]
end
end LW
namespace LW
open TB
def partE (p : Nm × Int) : D := .tup [.str p.1, .int p.2]
@[simp] theorem enum_ap (e : E) (S : List Slot) : itEnum e S = (eDat e S).bind fun d S1 => (match itemsOf d with | some xs => (TB.M.pure (enumL 0 xs) : It) | none => fun _ => .bad) S1 := rfl
def Rule.ok (r : Rule) : Prop := (∀ x ∈ r.ks, nameS x = true) ∧ ∀ x ∈ r.ps, nameS x = true
section
variable {Γ : Nat → Fn} {B : Nat} {sh : Shop} {m : M}
@[simp] theorem int_b (b : Bool) : fIntB [.bl b] = some (.fz, .int (if b = true then 1 else 0)) := by cases b <;> rfl
end
end LW
namespace LW
open TB
section
variable {Γ : Nat → Fn} {B : Nat} {sh : Shop} {m : M}
def ptD (pt : List (Nm × Int)) : D := .lst (pt.map partE)
@[simp] theorem items_pt (pt : List (Nm × Int)) : itemsOf (ptD pt) = some (pt.map partE) := rfl
end
end LW
namespace LW
open TB
theorem nei (i j : Int) : fNe (.int i) (.int j) = some (.fz, .bl (!decide (i = j))) := fNe_int i j
section
end
end LW
namespace LW
open TB
section
end
end LW
namespace LW
open TB
section
end
end LW
namespace LW
open TB
theorem excw {n : Nat} {pk : List Nat} {body : St} {as : List KD} {x : Xc} {S : List Slot} {os : List KD} (hp : pinned pk 0 as = true) (h : body (as.map some ++ List.replicate (n - as.length) none) = .exc x S) (ho : outsOf as S = some os) : runF n pk body as = .exc x os := by
  rw [runF_eq, if_pos hp, h]
  show (match outsOf as S with | some os => FR.exc x os | none => .bad) = _
  rw [ho]
theorem callsV_x {F : Fn} {ds : List D} {x : Xc} (h : F (ds.map fun d => (.fz, d)) = .exc x []) (S : List Slot) : callsV F ds S = .exc x S := by unfold callsV; rw [h]; rfl
@[simp] theorem cv4' {F : Fn} {a b c d : E} {S : List Slot} : eCall F [.v a, .v b, .v c, .v d] S = (eAll [a, b, c, d] S).bind fun ds S1 => callsV F ds S1 := callV_ap F [a, b, c, d] S
section
end
end LW
namespace LW
open TB
def linesOf (t : List Nat) : List (List Nat) := if t = [] then [] else splC 10 [] t
/-- the rules, or the line that is wrong -/
inductive Rdg where
  | ok (rs : List D) | bad (i : Nat)
def readL : Nat → List (List Nat) → Rdg
  | _, [] => .ok []
  | i, l :: ls => match ruleOf l with
    | none => .bad i
    | some r => if i = 6 then .bad i else match readL (i + 1) ls with
      | .ok rs => .ok (r :: rs)
      | .bad j => .bad j
section
variable {Γ : Nat → Fn} {N : Nat}
theorem lines_281 {t : List Nat} (ht : t.length ≤ 90000) : runF 1 [] (mb_281 Γ) [(.fz, .str t)] = .ret (.fz, .lst ((linesOf t).map D.str)) [] := by
  refine FnP.eq (runF_wp (by rfl) ?_)
  have i : fIsi .str (.str t) = some (.fz, .bl true) := rfl
  have e := eq_sxQ t []
  have l0 : fLst [] = some (.li .fz, .lst []) := rfl
  by_cases q : t = []
  · subst q
    have e : fEq (.str []) (.str []) = some (.fz, .bl true) := rfl
    simp [mb_281, i, e, l0, outsOf, Kd.isF, linesOf]
  · have sp := split_sQ (c := 10) ht (by decide)
    simp [mb_281, i, e, q, sp, outsOf, Kd.isF, linesOf]
theorem lines_x {d : D} (h : fIsi .str d = some (.fz, .bl false)) : runF 1 [] (mb_281 Γ) [(.fz, d)] = .exc ⟨22, .int 0⟩ [] := by
  refine excw rfl (S := [some (.fz, d)]) ?_ rfl
  simp [mb_281, h]
  rfl
theorem lines_tx {N : Nat} {t : List Nat} (h : Tx N t) : (linesOf t).length ≤ N + 1 ∧ ∀ l ∈ linesOf t, Tx N l := by
  unfold linesOf
  split
  · exact ⟨by simp, fun p hp => by cases hp⟩
  · exact ⟨by have := splC_len 10 t []; have := h.1; omega, h.parts 10⟩
end
end LW
namespace LW
open TB
def rdB (Γ : Nat → Fn) : St := (sSeq (sSet 4 (eCall (Γ 283) [.v (eVar 3)])) (sSeq (sIf (tOr (eBool (eOp fIsA (eVar 4) (eCon .non))) (eBool (eOp fEq (eVar 2) (eCon (.int 6))))) (sRaiseI 22 (eVar 2)) sNx) (sDrop (eMth fAppend 1 [(eVar 4)]))))
theorem ruleOf_tup {t : List Nat} {r : D} (h : ruleOf t = some r) : ∃ xs, r = .tup xs ∧ D.imm r = true := by
  unfold ruleOf at h
  split at h
  · split at h
    · cases h
      have so : ∀ w, D.imm (someD w) = true := fun w => by
        show D.imms ((someP w).map D.str) = true
        exact imms_all fun x hx => by obtain ⟨p, _, rfl⟩ := List.mem_map.mp hx; rfl
      have nu : ∀ w, D.imm (numD w) = true := fun w => by unfold numD; split <;> rfl
      refine ⟨_, rfl, ?_⟩
      show D.imms _ = true
      refine imms_all fun x hx => ?_
      simp only [List.mem_cons, List.not_mem_nil, or_false] at hx
      rcases hx with rfl | rfl | rfl | rfl | rfl | rfl
      · rfl
      · exact so _
      · exact so _
      · show D.imms _ = true
        exact imms_all fun x hx => by obtain ⟨p, _, rfl⟩ := List.mem_map.mp hx; exact nu p
      · exact nu _
      · exact nu _
    · cases h
  · cases h
section
variable {Γ : Nat → Fn} {N : Nat} {s0 : Slot}
theorem rd_body_bad {i : Nat} {l : List Nat} {F : Fn} (hF : F = Γ 283) {acc : List D} {x4 : Slot} (c283 : ∀ S, callsV (Γ 283) [.str l] S = .ok (.fz, optD (ruleOf l)) S) (hb : ruleOf l = none ∨ i = 6) :
    ∃ y4, rdB Γ [s0, some (.li .fz, .lst acc), some (.fz, .int i), some (.fz, .str l), x4] = .exc ⟨22, .int i⟩ [s0, some (.li .fz, .lst acc), some (.fz, .int i), some (.fz, .str l), y4] := by
  have raise : ∀ S, raiI 22 (.int i) S = .exc ⟨22, .int i⟩ S := fun S => rfl
  cases e : ruleOf l with
  | none =>
    rw [e] at c283
    have c283 : ∀ S, callsV (Γ 283) [.str l] S = .ok (.fz, .non) S := c283
    have isn : fIsA .non .non = some (.fz, .bl true) := rfl
    exact ⟨some (.fz, .non), by simp [rdB, c283, isn, sRaiseI, raise]⟩
  | some r =>
    have h6 : i = 6 := by rcases hb with h | h; rw [e] at h; cases h; exact h
    subst h6
    rw [e] at c283
    obtain ⟨xs, rfl, _⟩ := ruleOf_tup e
    have c283 : ∀ S, callsV (Γ 283) [.str l] S = .ok (.fz, .tup xs) S := c283
    have isn : fIsA (.tup xs) .non = some (.fz, .bl false) := rfl
    have e6 : fEq (.int 6) (.int 6) = some (.fz, .bl true) := rfl
    have raise : ∀ S, raiI 22 (.int 6) S = .exc ⟨22, .int 6⟩ S := fun S => rfl
    exact ⟨some (.fz, .tup xs), by simp [rdB, c283, isn, e6, sRaiseI, raise]⟩
theorem rd_body_ok {i : Nat} {l : List Nat} {acc : List D} {x4 : Slot} {r : D} (c283 : ∀ S, callsV (Γ 283) [.str l] S = .ok (.fz, optD (ruleOf l)) S) (e : ruleOf l = some r) (hi : i ≠ 6) (ha : acc.length ≤ 1000000) :
    rdB Γ [s0, some (.li .fz, .lst acc), some (.fz, .int i), some (.fz, .str l), x4] = .ok .nx [s0, some (.li .fz, .lst (acc ++ [r])), some (.fz, .int i), some (.fz, .str l), some (.fz, r)] := by
  rw [e] at c283
  obtain ⟨xs, rfl, _⟩ := ruleOf_tup e
  have c283 : ∀ S, callsV (Γ 283) [.str l] S = .ok (.fz, .tup xs) S := c283
  have isn : fIsA (.tup xs) .non = some (.fz, .bl false) := rfl
  have e6 := fEq_int (i : Int) 6
  have hi' : ¬ (i : Int) = 6 := by omega
  have ap : fAppend acc [.tup xs] = some (.non, acc ++ [.tup xs]) := if_pos (by unfold sizeMax; omega)
  simp [rdB, c283, isn, e6, hi', ap, ownL]
theorem rd_loop (c283 : ∀ l, Tx N l → ∀ S, callsV (Γ 283) [.str l] S = .ok (.fz, optD (ruleOf l)) S) : ∀ (ls : List (List Nat)) (i : Nat) (acc : List D) (x2 x3 x4 : Slot), (∀ l ∈ ls, Tx N l) → acc.length + ls.length ≤ 1000000 →
    (∀ rs, readL i ls = .ok rs → ∃ y2 y3 y4, loop (.tp [.nm 2, .nm 3]) (rdB Γ) (enumL i (ls.map D.str)) [s0, some (.li .fz, .lst acc), x2, x3, x4] = .ok .nx [s0, some (.li .fz, .lst (acc ++ rs)), y2, y3, y4]) ∧
    (∀ j, readL i ls = .bad j → ∃ ac y2 y3 y4, loop (.tp [.nm 2, .nm 3]) (rdB Γ) (enumL i (ls.map D.str)) [s0, some (.li .fz, .lst acc), x2, x3, x4] = .exc ⟨22, .int j⟩ [s0, some (.li .fz, .lst ac), y2, y3, y4])
  | [], i, acc, x2, x3, x4, _, _ => by
    refine ⟨fun rs h => ?_, fun j h => by cases h⟩
    cases h
    exact ⟨x2, x3, x4, by rw [List.append_nil]; rfl⟩
  | l :: ls, i, acc, x2, x3, x4, ht, hl => by
    have cl := c283 l (ht l List.mem_cons_self)
    have put : Tg.put (.tp [.nm 2, .nm 3]) (.tup [.int i, .str l]) [s0, some (.li .fz, .lst acc), x2, x3, x4] = some [s0, some (.li .fz, .lst acc), some (.fz, .int i), some (.fz, .str l), x4] := by simp [Tg.put, Tg.puts]
    have en : enumL i ((l :: ls).map D.str) = .tup [.int i, .str l] :: enumL (i + 1) (ls.map D.str) := rfl
    simp only [List.length_cons] at hl
    cases e : ruleOf l with
    | none =>
      have rd : readL i (l :: ls) = .bad i := by show (match ruleOf l with | none => _ | some r => _) = _; rw [e]
      rw [rd, en]
      refine ⟨fun rs h => (by cases h), fun j h => ?_⟩
      cases h
      obtain ⟨y4, eb⟩ := rd_body_bad (s0 := s0) (acc := acc) (x4 := x4) (i := i) (l := l) rfl cl (.inl e)
      refine ⟨acc, some (.fz, .int i), some (.fz, .str l), y4, ?_⟩
      unfold loop
      rw [put]
      show R.bind (rdB Γ _) _ = _
      rw [eb]
      rfl
    | some r =>
      by_cases h6 : i = 6
      · have rd : readL i (l :: ls) = .bad i := by show (match ruleOf l with | none => _ | some r => _) = _; rw [e]; show (if i = 6 then Rdg.bad i else _) = _; first | (rw [if_pos h6]; done) | (rw [if_pos h6]; rfl)
        rw [rd, en]
        refine ⟨fun rs h => (by cases h), fun j h => ?_⟩
        cases h
        obtain ⟨y4, eb⟩ := rd_body_bad (s0 := s0) (acc := acc) (x4 := x4) (i := i) (l := l) rfl cl (.inr h6)
        refine ⟨acc, some (.fz, .int i), some (.fz, .str l), y4, ?_⟩
        unfold loop
        rw [put]
        show R.bind (rdB Γ _) _ = _
        rw [eb]
        rfl
      · have rd : readL i (l :: ls) = (match readL (i + 1) ls with | .ok rs => .ok (r :: rs) | .bad j => .bad j) := by show (match ruleOf l with | none => _ | some r => _) = _; rw [e]; show (if i = 6 then Rdg.bad i else _) = _; first | (rw [if_neg h6]; done) | (rw [if_neg h6]; rfl)
        have eb := rd_body_ok (s0 := s0) (acc := acc) (x4 := x4) (i := i) cl e h6 (by omega)
        have ih := rd_loop c283 ls (i + 1) (acc ++ [r]) (some (.fz, .int i)) (some (.fz, .str l)) (some (.fz, r)) (fun p hp => ht p (List.mem_cons_of_mem _ hp)) (by simp; omega)
        have st : loop (.tp [.nm 2, .nm 3]) (rdB Γ) (enumL i ((l :: ls).map D.str)) [s0, some (.li .fz, .lst acc), x2, x3, x4] = loop (.tp [.nm 2, .nm 3]) (rdB Γ) (enumL (i + 1) (ls.map D.str)) [s0, some (.li .fz, .lst (acc ++ [r])), some (.fz, .int i), some (.fz, .str l), some (.fz, r)] := by
          rw [en]
          conv => lhs; unfold loop
          rw [put]
          show R.bind (rdB Γ _) _ = _
          rw [eb]
          rfl
        rw [rd, st]
        cases q : readL (i + 1) ls with
        | ok rs =>
          refine ⟨fun rs' h => ?_, fun j h => by cases h⟩
          cases h
          obtain ⟨y2, y3, y4, z⟩ := ih.1 rs q
          exact ⟨y2, y3, y4, by rw [z, List.append_assoc]; rfl⟩
        | bad j =>
          refine ⟨fun rs' h => (by cases h), fun j' h => ?_⟩
          cases h
          exact ih.2 j q
end
end LW
namespace LW
open TB
/-- "NoForm NoText +" -/
def noTextK : List Nat := [78, 111, 70, 111, 114, 109, 32, 78, 111, 84, 101, 120, 116, 32, 43]
theorem kind_22 : kindT 22 = noTextK := by decide
def dueD (t : List Nat) : D := match readL 0 (linesOf t) with
  | .ok rs => .tup [.tup rs, .str []]
  | .bad j => .tup [.non, .str (noTextK ++ [32] ++ strI j)]
section
variable {Γ : Nat → Fn} {N : Nat}
theorem readL_imm : ∀ (ls : List (List Nat)) (i : Nat) (rs : List D), readL i ls = .ok rs → D.imms rs = true
  | [], _, rs, h => by cases h; rfl
  | l :: ls, i, rs, h => by
    have h : (match ruleOf l with
      | none => Rdg.bad i
      | some r => if i = 6 then .bad i else match readL (i + 1) ls with
        | .ok rs => .ok (r :: rs)
        | .bad j => .bad j) = .ok rs := h
    cases e : ruleOf l with
    | none => rw [e] at h; cases h
    | some r =>
      rw [e] at h
      simp only [] at h
      by_cases h6 : i = 6
      · rw [if_pos h6] at h; cases h
      · rw [if_neg h6] at h
        cases q : readL (i + 1) ls with
        | ok rs' =>
          rw [q] at h
          cases h
          obtain ⟨_, _, im⟩ := ruleOf_tup e
          show (D.imm r && D.imms rs') = true
          rw [im, readL_imm ls (i + 1) rs' q]
          rfl
        | bad j => rw [q] at h; cases h
theorem read_284 (h281 : ∀ t, Tx N t → Γ 281 [(.fz, .str t)] = .ret (.fz, .lst ((linesOf t).map D.str)) []) (h283 : ∀ t, Tx N t → Γ 283 [(.fz, .str t)] = .ret (.fz, optD (ruleOf t)) []) (hN : N ≤ 80000) {t : List Nat} (ht : Tx N t) :
    runF 5 [] (mb_284 Γ) [(.fz, .str t)] = match readL 0 (linesOf t) with | .ok rs => .ret (.fz, .tup rs) [] | .bad j => .exc ⟨22, .int j⟩ [] := by
  have c281 : ∀ S, callsV (Γ 281) [.str t] S = .ok (.fz, .lst ((linesOf t).map D.str)) S := fun S => callsV_of (ds := [.str t]) (h281 t ht) S
  have c283 : ∀ l, Tx N l → ∀ S, callsV (Γ 283) [.str l] S = .ok (.fz, optD (ruleOf l)) S := fun l hl S => callsV_of (ds := [.str l]) (h283 l hl) S
  have l0 : fLst [] = some (.li .fz, .lst []) := rfl
  obtain ⟨ll, lt⟩ := lines_tx ht
  have lo := rd_loop (Γ := Γ) (s0 := some (.fz, .str t)) c283 (linesOf t) 0 [] none none none lt (by simp; omega)
  have ft : ∀ xs : List D, fTuple [.lst xs] = some (.fz, .tup xs) := fun _ => rfl
  have im := readL_imm (linesOf t) 0
  unfold rdB at lo
  generalize (linesOf t).map D.str = LS at *
  cases q : readL 0 (linesOf t) with
  | ok rs =>
    obtain ⟨y2, y3, y4, z⟩ := lo.1 rs q
    have im := im rs q
    refine FnP.eq (runF_wp (by rfl) ?_)
    simp only [List.nil_append] at z
    have imt : D.imm (.tup rs) = true := im
    simp [mb_284, l0, c281, itemsOf, z, frz, ft, imt, outsOf, Kd.isF, -Prod.exists, -Prod.forall]
  | bad j =>
    obtain ⟨ac, y2, y3, y4, z⟩ := lo.2 j q
    refine excw rfl (S := [some (.fz, .str t), some (.li .fz, .lst ac), y2, y3, y4]) ?_ rfl
    simp [mb_284, l0, c281, itemsOf, z]
theorem read_x (h281 : ∀ d, fIsi .str d = some (.fz, .bl false) → Γ 281 [(.fz, d)] = .exc ⟨22, .int 0⟩ []) {d : D} (h : fIsi .str d = some (.fz, .bl false)) : runF 5 [] (mb_284 Γ) [(.fz, d)] = .exc ⟨22, .int 0⟩ [] := by
  have c281 : ∀ S, callsV (Γ 281) [d] S = .exc ⟨22, .int 0⟩ S := fun S => callsV_x (ds := [d]) (h281 d h) S
  have l0 : fLst [] = some (.li .fz, .lst []) := rfl
  refine excw rfl (S := [some (.fz, d), some (.li .fz, .lst []), none, none, none]) ?_ rfl
  simp [mb_284, l0, c281]
end
end LW
namespace LW
open TB
/-- signs of words: letters, figures -/
def Sg (c : Nat) : Prop := (97 ≤ c ∧ c ≤ 122) ∨ (48 ≤ c ∧ c ≤ 57)
def Ws (s : List Nat) : Prop := s ≠ [] ∧ ∀ c ∈ s, Sg c
theorem joinD_mem {c : Nat} : ∀ (ls : List (List Nat)) (x : Nat), x ∈ joinD [c] ls → x = c ∨ ∃ l ∈ ls, x ∈ l
  | [], x, h => by cases h
  | [p], x, h => .inr ⟨p, List.mem_cons_self, h⟩
  | p :: q :: r, x, h => by
    have h : x ∈ p ++ ([c] ++ joinD [c] (q :: r)) := h
    rcases List.mem_append.mp h with h | h
    · exact .inr ⟨p, List.mem_cons_self, h⟩
    · rcases List.mem_append.mp h with h | h
      · exact .inl (by simpa using h)
      · rcases joinD_mem (q :: r) x h with h | ⟨l, hl, hx⟩
        · exact .inl h
        · exact .inr ⟨l, List.mem_cons_of_mem _ hl, hx⟩
theorem joinD_ne {c : Nat} {ls : List (List Nat)} (h : ls ≠ []) (hw : ∀ l ∈ ls, l ≠ []) : joinD [c] ls ≠ [] := by
  match ls, h with
  | [p], _ => exact hw p List.mem_cons_self
  | p :: q :: r, _ =>
    show p ++ ([c] ++ joinD [c] (q :: r)) ≠ []
    intro e
    exact hw p List.mem_cons_self (List.append_eq_nil_iff.mp e).1
theorem some_back {ls : List (List Nat)} (h : ∀ l ∈ ls, Ws l) : someP (someT ls) = ls := by
  cases ls with
  | nil => rfl
  | cons a b =>
    have ne := joinD_ne (c := 44) (ls := a :: b) (by simp) fun l hl => (h l hl).1
    have st : someT (a :: b) = joinD [44] (a :: b) := by unfold someT; rw [if_neg ne]
    have n42 : joinD [44] (a :: b) ≠ [42] := fun e => by
      have : (42 : Nat) ∈ joinD [44] (a :: b) := by rw [e]; simp
      rcases joinD_mem _ _ this with h1 | ⟨l, hl, hx⟩
      · cases h1
      · have := (h l hl).2 42 hx
        unfold Sg at this
        omega
    unfold someP
    rw [st, if_neg n42]
    exact splC_join _ (by simp) fun l hl hm => by
      have := (h l hl).2 44 hm
      unfold Sg at this
      omega
theorem someT_signs {ls : List (List Nat)} (h : ∀ l ∈ ls, Ws l) : ∀ c ∈ someT ls, c = 42 ∨ c = 44 ∨ Sg c := fun c hc => by
  unfold someT at hc
  split at hc
  · left; simpa using hc
  · rcases joinD_mem _ _ hc with h1 | ⟨l, hl, hx⟩
    · exact .inr (.inl h1)
    · exact .inr (.inr ((h l hl).2 c hx))
theorem strI_ws (n : Nat) : Ws (strI (n : Int)) := by
  rw [TB.strI_num]
  exact ⟨TL.numL_ne n, fun c hc => .inr (TL.numL_digits n c hc)⟩
structure Rg (r : Rule) : Prop extends Rw r where
  kw : ∀ s ∈ r.ks, Ws s
  pw : ∀ s ∈ r.ps, Ws s
  rb : ruleB r.enc = true
theorem word_signs (r : Rule) : ∀ c ∈ wordT r, Sg c := by
  unfold wordT Sg
  split
  · decide
  · decide
theorem ruleW_signs {r : Rule} (g : Rg r) : ∀ w ∈ ruleW r, ∀ c ∈ w, c = 42 ∨ c = 44 ∨ Sg c := fun w hw c hc => by
  unfold ruleW at hw
  simp only [List.mem_cons, List.not_mem_nil, or_false] at hw
  have dw : ∀ l ∈ r.ds.map strI, Ws l := fun l hl => by
    obtain ⟨i, hi, rfl⟩ := List.mem_map.mp hl
    obtain ⟨n, rfl, _⟩ := g.ds i hi
    exact strI_ws n
  rcases hw with rfl | rfl | rfl | rfl | rfl | rfl
  · exact .inr (.inr (word_signs r c hc))
  · exact someT_signs g.kw c hc
  · exact someT_signs g.pw c hc
  · exact someT_signs dw c hc
  · obtain ⟨n, e, _⟩ := g.lo
    rw [e] at hc
    exact .inr (.inr ((strI_ws n).2 c hc))
  · obtain ⟨n, e, _⟩ := g.hi
    rw [e] at hc
    exact .inr (.inr ((strI_ws n).2 c hc))
theorem numD_of {i : Int} (h : ∃ n : Nat, i = n ∧ n ≤ 1000000) : numD (strI i) = .int i := by
  obtain ⟨n, rfl, hn⟩ := h
  exact numD_strI (by omega)
theorem rule_back {r : Rule} (g : Rg r) : ruleOf (ruleTx r) = some r.enc := by
  have sp : splC 32 [] (ruleTx r) = ruleW r := splC_join _ (by unfold ruleW; simp) fun w hw hm => by
    have := ruleW_signs g w hw 32 hm
    unfold Sg at this
    omega
  have dw : ∀ l ∈ r.ds.map strI, Ws l := fun l hl => by
    obtain ⟨i, hi, rfl⟩ := List.mem_map.mp hl
    obtain ⟨n, rfl, _⟩ := g.ds i hi
    exact strI_ws n
  have rt : ruleT (wordT r) (someT r.ks) (someT r.ps) (someT (r.ds.map strI)) (strI r.lo) (strI r.hi) = r.enc := by
    unfold ruleT someD
    rw [some_back g.kw, some_back g.pw, some_back dw, numD_of g.lo, numD_of g.hi, List.map_map]
    have e : r.ds.map (numD ∘ strI) = r.ds.map D.int := List.map_congr_left fun i hi => numD_of (g.ds i hi)
    rw [e]
    rfl
  unfold ruleOf
  rw [sp]
  show (if ruleB (ruleT (wordT r) (someT r.ks) (someT r.ps) (someT (r.ds.map strI)) (strI r.lo) (strI r.hi)) = true then some (ruleT (wordT r) (someT r.ks) (someT r.ps) (someT (r.ds.map strI)) (strI r.lo) (strI r.hi)) else none) = _
  rw [rt, g.rb]
  rfl
theorem book_back {b : List Rule} (g : ∀ r ∈ b, Rg r) (hl : b.length ≤ 6) : dueD (bookTx b) = .tup [bookE b, .str []] := by
  have rne : ∀ r : Rule, ruleTx r ≠ [] := fun r => by
    have e : ruleTx r = wordT r ++ ([32] ++ joinD [32] [someT r.ks, someT r.ps, someT (r.ds.map strI), strI r.lo, strI r.hi]) := rfl
    rw [e]
    intro z
    have := (List.append_eq_nil_iff.mp z).1
    unfold wordT at this
    split at this <;> cases this
  have ln : linesOf (bookTx b) = b.map ruleTx := by
    unfold linesOf bookTx
    cases b with
    | nil => rfl
    | cons r b =>
      rw [if_neg (joinD_ne (by simp) fun l hl => by obtain ⟨s, _, rfl⟩ := List.mem_map.mp hl; exact rne s)]
      exact splC_join _ (by simp) fun l hl hm => by
        obtain ⟨s, hs, rfl⟩ := List.mem_map.mp hl
        rcases joinD_mem _ _ hm with h1 | ⟨w, hw, hx⟩
        · cases h1
        · have := ruleW_signs (g s hs) w hw 10 hx
          unfold Sg at this
          omega
  have rd : ∀ (b : List Rule) (i : Nat), (∀ r ∈ b, Rg r) → i + b.length ≤ 6 → readL i (b.map ruleTx) = .ok (b.map Rule.enc) := fun b => by
    induction b with
    | nil => intro i _ _; rfl
    | cons r b ih =>
      intro i hg hi
      simp only [List.length_cons] at hi
      have h6 : ¬ i = 6 := by omega
      show (match ruleOf (ruleTx r) with
        | none => Rdg.bad i
        | some x => if i = 6 then .bad i else match readL (i + 1) (b.map ruleTx) with
          | .ok rs => .ok (x :: rs)
          | .bad j => .bad j) = _
      rw [rule_back (hg r List.mem_cons_self)]
      simp only []
      rw [if_neg h6, ih (i + 1) (fun s hs => hg s (List.mem_cons_of_mem _ hs)) (by omega)]
      rfl
  unfold dueD
  rw [ln, rd b 0 g (by omega)]
  rfl
end LW
namespace LW
open TB
theorem splC_sum (c : Nat) : ∀ (xs acc : List Nat), ((splC c acc xs).map (·.length)).sum + (splC c acc xs).length = acc.length + xs.length + 1
  | [], acc => by simp [splC]
  | x :: r, acc => by
    have h1 := splC_sum c r []
    have h2 := splC_sum c r (acc ++ [x])
    unfold splC
    split
    · simp only [List.map_cons, List.sum_cons, List.length_cons, List.length_nil] at *; omega
    · simp only [List.length_append, List.length_cons, List.length_nil] at *; omega
theorem take_drop_sub {α : Type} (ws : List α) (k : Nat) : (ws.take k ++ ws.drop (k + 1)).Sublist ws := by
  have h : (ws.take k ++ ws.drop (k + 1)).Sublist (ws.take k ++ ws.drop k) := by
    refine List.Sublist.append (List.Sublist.refl _) ?_
    rw [show k + 1 = 1 + k by omega, ← List.drop_drop]
    first | exact List.drop_sublist _ _ | (rw [List.drop_drop]; exact List.drop_sublist_drop_left _ (by omega))
  rwa [List.take_append_drop] at h
theorem spoil_len {c : Nat} {s : List Nat} {mid : List (List Nat)} (k : Nat) (hm : ∀ m ∈ mid, m ∈ splC c [] s) (hl : mid.length ≤ 2) : (joinD [c] ((splC c [] s).take k ++ mid ++ (splC c [] s).drop (k + 1))).length ≤ 3 * s.length + 3 := by
  have j := joinD_len [c] ((splC c [] s).take k ++ mid ++ (splC c [] s).drop (k + 1))
  have t := splC_sum c s []
  have sb := take_drop_sub (splC c [] s) k
  have s1 := sub_sum (sb.map (·.length))
  have s2 := sb.length_le
  have ml := sum_le mid s.length fun x hx => by
    have := (splC_mem c s [] x (hm x hx)).1
    simpa using this
  have m2 : mid.length * s.length ≤ 2 * s.length := Nat.mul_le_mul_right _ hl
  simp only [List.map_append, List.sum_append, List.length_append, List.length_cons, List.length_nil, Nat.mul_one] at *
  omega
theorem spoil_tx {c N : Nat} {s : List Nat} {mid : List (List Nat)} (hc : c < 1114112) (hs : Tx N s) (k : Nat) (hm : ∀ m ∈ mid, m ∈ splC c [] s) (hl : mid.length ≤ 2) : Tx (3 * N + 3) (joinD [c] ((splC c [] s).take k ++ mid ++ (splC c [] s).drop (k + 1))) := by
  refine ⟨by have := spoil_len (c := c) (s := s) k hm hl; have := hs.1; omega, fun x hx => ?_⟩
  rcases joinD_mem _ _ hx with rfl | ⟨l, hl2, hx⟩
  · exact hc
  · have : l ∈ splC c [] s := by
      rcases List.mem_append.mp hl2 with h | h
      · rcases List.mem_append.mp h with h | h
        · exact List.mem_of_mem_take h
        · exact hm l h
      · exact List.mem_of_mem_drop h
    exact (hs.parts c l this).2 x hx
end LW
namespace LW
open TB
structure Rn (r : Rule) : Prop extends Rg r where
  k8 : ∀ s ∈ r.ks, s.length ≤ 8
  p8 : ∀ s ∈ r.ps, s.length ≤ 8
theorem someT_len8 {ls : List (List Nat)} (h : ∀ x ∈ ls, x.length ≤ 8) (hl : ls.length ≤ 9) : (someT ls).length ≤ 81 := by
  have j := joinD_len [44] ls
  have s := sum_le ls 8 h
  unfold someT
  split
  · simp
  · simp only [List.length_cons, List.length_nil] at j; omega
theorem strI_len7 {i : Int} (h : ∃ n : Nat, i = n ∧ n ≤ 1000000) : (strI i).length ≤ 7 := by
  obtain ⟨n, rfl, hn⟩ := h
  rw [TB.strI_num]
  exact TL.numL_len (by decide) (by omega)
theorem ruleTx_len {r : Rule} (g : Rn r) : (ruleTx r).length ≤ 300 := by
  have j := joinD_len [32] (ruleW r)
  have l1 := someT_len8 g.k8 g.kl
  have l2 := someT_len8 g.p8 g.pl
  have l3 := someT_len8 (ls := r.ds.map strI) (fun x hx => by
    obtain ⟨i, hi, rfl⟩ := List.mem_map.mp hx
    have := strI_len7 (g.ds i hi)
    omega) (by rw [List.length_map]; exact g.dl)
  have l4 := strI_len7 g.lo
  have l5 := strI_len7 g.hi
  have l0 : (wordT r).length ≤ 3 := by unfold wordT; split <;> decide
  unfold ruleTx
  unfold ruleW at *
  simp only [List.map_cons, List.map_nil, List.sum_cons, List.sum_nil, List.length_cons, List.length_nil] at *
  omega
theorem bookTx_len {b : List Rule} (g : ∀ r ∈ b, Rn r) (hl : b.length ≤ 6) : (bookTx b).length ≤ 1900 := by
  have j := joinD_len [10] (b.map ruleTx)
  have s := sum_le (b.map ruleTx) 300 fun x hx => by
    obtain ⟨r, hr, rfl⟩ := List.mem_map.mp hx
    exact ruleTx_len (g r hr)
  unfold bookTx
  simp only [List.length_map, List.length_cons, List.length_nil] at *
  omega
theorem sg_lt {c : Nat} (h : c = 42 ∨ c = 44 ∨ Sg c) : c < 1114112 := by
  unfold Sg at h
  omega
theorem bookTx_tx {b : List Rule} (g : ∀ r ∈ b, Rn r) (hl : b.length ≤ 6) : Tx 1900 (bookTx b) := by
  refine ⟨bookTx_len g hl, fun x hx => ?_⟩
  unfold bookTx at hx
  rcases joinD_mem _ _ hx with rfl | ⟨l, hl2, hx⟩
  · omega
  · obtain ⟨r, hr, rfl⟩ := List.mem_map.mp hl2
    unfold ruleTx at hx
    rcases joinD_mem _ _ hx with rfl | ⟨w, hw, hx⟩
    · omega
    · exact sg_lt (ruleW_signs (g r hr).toRg w hw x hx)
section
variable {Γ : Nat → Fn}
def S34 (F : Fn) : Prop := ∀ r : Rule, Rw r → F [(.fz, r.enc)] = .ret (.fz, .str (ruleTx r)) []
theorem book_35 (h34 : S34 (Γ 34)) {b : List Rule} (h23 : Γ 23 [(.fz, bookE b)] = .ret (.fz, .non) []) (g : ∀ r ∈ b, Rn r) (hl : b.length ≤ 6) : runF 2 [] (mb_35 Γ) [(.fz, bookE b)] = .ret (.fz, .str (bookTx b)) [] := by
  refine FnP.eq (runF_wp (by rfl) ?_)
  have c23 : ∀ S, callsV (Γ 23) [bookE b] S = .ok (.fz, .non) S := fun S => callsV_of (ds := [bookE b]) h23 S
  have it : itemsOf (bookE b) = some (b.map Rule.enc) := rfl
  have txD : ∀ d ∈ b.map Rule.enc, ∃ r ∈ b, d = r.enc := fun d hd => by obtain ⟨r, hr, rfl⟩ := List.mem_map.mp hd; exact ⟨r, hr, rfl⟩
  have j := join_s (c := 10) (ls := b.map ruleTx) (fun x hx => by
    obtain ⟨r, hr, rfl⟩ := List.mem_map.mp hx
    have := ruleTx_len (g r hr)
    omega) (by rw [List.length_map]; omega)
  have z : okP (eLc (itSeq (eVar 0)) (.nm 1) [1] tTrue (eCall (Γ 34) [.v (eVar 1)]) [some (.fz, bookE b), none]) fun kd S' => kd = (.li .fz, .lst ((b.map ruleTx).map D.str)) ∧ S' = [some (.fz, bookE b), none] := by
    refine lcG_wp ?_
    simp [it, -Prod.exists, -Prod.forall]
    refine ⟨⟨⟨rfl, rfl⟩, by decide⟩, fun ds acc S' => ∃ done rest : List Rule, ds = rest.map Rule.enc ∧ b = done ++ rest ∧ acc = (done.map ruleTx).map D.str ∧ S' = [some (.fz, bookE b), none], ⟨[], b, rfl, rfl, rfl, rfl⟩, ?_, ?_⟩
    · rintro d ds acc S' ⟨done, rest, e1, e2, e3, rfl⟩
      cases rest with
      | nil => cases e1
      | cons r rest =>
        cases e1
        refine ⟨_, put_nm (by simp), ?_⟩
        have hr : r ∈ b := by rw [e2]; simp
        have c34 : ∀ S, callsV (Γ 34) [r.enc] S = .ok (.fz, .str (ruleTx r)) S := fun S => callsV_of (ds := [r.enc]) (h34 r (g r hr).toRw) S
        have ld : done.length ≤ 6 := by rw [e2] at hl; simp at hl; omega
        simp [tTrue, c34, -Prod.exists, -Prod.forall]
        exact ⟨by rw [e3]; simp [sizeMax]; omega, done ++ [r], rest, rfl, by rw [e2]; simp, by rw [e3]; simp, rfl⟩
    · rintro acc S' ⟨done, rest, e1, e2, e3, rfl⟩
      cases rest with
      | cons r rest => cases e1
      | nil =>
        rw [List.append_nil] at e2
        subst e2
        exact ⟨by rw [e3, List.map_map], rfl⟩
  obtain ⟨kd, S', ez, rfl, rfl⟩ := z.ex
  unfold bookTx
  generalize (b.map ruleTx).map D.str = L at *
  generalize joinD [10] (b.map ruleTx) = J at *
  generalize bookE b = BE at *
  simp [mb_35, c23, ez, j, outsOf, Kd.isF]
end
end LW
namespace LW
open TB
def SpQ (N : Nat) (r : KD) (o : List KD) : Prop := ∃ (t : List Nat) (kd : KD), r = (.fz, .str t) ∧ o = [kd] ∧ DI kd ∧ Tx (3 * N + 3) t
theorem cutL_len {α : Type} (xs : List α) (lo hi : Option Int) : (cutL xs lo hi).length ≤ xs.length := by
  unfold cutL
  rw [List.length_take, List.length_drop]
  omega
theorem cutL_mem {α : Type} {xs : List α} {lo hi : Option Int} {x : α} (h : x ∈ cutL xs lo hi) : x ∈ xs := by
  unfold cutL at h
  exact List.mem_of_mem_drop (List.mem_of_mem_take h)
theorem cut_tx {N : Nat} {s : List Nat} (h : Tx N s) (lo hi : Option Int) : Tx N (cutL s lo hi) := ⟨by have := cutL_len s lo hi; have := h.1; omega, fun x hx => h.2 x (cutL_mem hx)⟩
theorem app_tx {M N : Nat} {s t : List Nat} (h : Tx M s) (g : Tx N t) : Tx (M + N) (s ++ t) := ⟨by rw [List.length_append]; have := h.1; have := g.1; omega, fun x hx => by
  rcases List.mem_append.mp hx with hx | hx
  · exact h.2 x hx
  · exact g.2 x hx⟩
theorem tx_le {M N : Nat} {s : List Nat} (h : Tx M s) (l : M ≤ N) : Tx N s := ⟨by have := h.1; omega, h.2⟩
theorem add_str {a b : List Nat} (h : a.length + b.length ≤ 1000000) : fAdd (.str a) (.str b) = some (.fz, .str (a ++ b)) := by
  show (if a.length + b.length ≤ sizeMax then kz (.str (a ++ b)) else none) = _
  rw [if_pos (by unfold sizeMax; omega)]
  rfl
theorem sl_str {s : List Nat} (h : s.length ≤ 1000000) (lo hi : Option Int) : fSl (.str s) lo hi = some (.fz, .str (cutL s lo hi)) := by
  show (if s.length ≤ sizeMax then kz (.str (cutL s lo hi)) else none) = _
  rw [if_pos (by unfold sizeMax; omega)]
  rfl
end LW
namespace LW
open TB
def lawSigns : List Nat := [32, 33, 34, 35, 36, 38, 39, 40, 41, 42, 43, 44, 45, 46, 47, 48, 49, 50, 51, 52, 53, 54, 55, 56, 57, 58, 59, 60, 61, 62, 63, 64, 65, 66, 67, 68, 69, 70, 71, 72, 73, 74, 75, 76, 77, 78, 79, 80, 81, 82, 83, 84, 85, 86, 87, 88, 89, 90, 91, 92, 93, 94, 95, 96, 97, 98, 99, 100, 101, 102, 103, 104, 105, 106, 107, 108, 109, 110, 111, 112, 113, 114, 115, 116, 117, 118, 119, 120, 121, 122, 123, 124, 125, 126, 10]
theorem sign_ix {s : List Nat} (hs : s.length ≤ 1000) (hc : ∀ c ∈ s, c < 1114112) {r : Int} (h0 : 0 ≤ r) (h1 : r < s.length) : ∃ c, fIx (.str s) (.int r) = some (.fz, .str [c]) ∧ c < 1114112 := by
  have hn : r.toNat < s.length := by omega
  refine ⟨s[r.toNat], ?_, hc _ (List.getElem_mem hn)⟩
  show (if s.length ≤ sizeMax then (normIx s.length r).bind fun n => s[n]?.bind fun c => kz (.str [c]) else none) = _
  rw [if_pos (by unfold sizeMax; omega)]
  have e : normIx s.length r = some r.toNat := by
    unfold normIx
    rw [if_pos h0, if_pos h1]
  rw [e]
  show (s[r.toNat]?.bind fun c => kz (.str [c])) = _
  rw [List.getElem?_eq_getElem hn]
  rfl
end LW
namespace LW
open TB
def spL (Γ : Nat → Fn) : St := (sSeq (sSet 6 (eOp fIx (eApp fLst [(eCon (.str [32])), (eCon (.str [10]))]) (eOp fDiv (eVar 5) (eCon (.int 7))))) (sSeq (sSet 7 (eFr (eSplit (eVar 1) (eVar 6)))) (sSeq (sSet 4 (eCall (Γ 7) [.b 0, .v (eApp fLen [(eVar 7)])])) (sSeq (sSet 8 (eOp fIx (eVar 7) (eCall (Γ 7) [.b 0, .v (eApp fLen [(eVar 7)])]))) (sRet (eJoin (eVar 6) (eOp fAdd (eOp fAdd (eSl (eVar 7) none (some (eVar 4))) (eOp fIx (eApp fLst [(eApp fLst []), (eOp fMul (eApp fLst [(eOp fIx (eVar 7) (eVar 4))]) (eCon (.int 2))), (eApp fLst [(eVar 8)])]) (eOp fMod (eVar 5) (eCon (.int 3))))) (eSl (eVar 7) (some (eOp fAdd (eVar 4) (eCon (.int 1)))) none))))))))
def spT (Γ : Nat → Fn) : St := (sSeq (sIf (eBool (eOp fEq (eVar 5) (eCon (.int 0)))) (sRet (eFr (eOp fAdd (eOp fAdd (eSl (eVar 1) none (some (eVar 4))) (eVar 3)) (eSl (eVar 1) (some (eVar 4)) none)))) sNx) (sSeq (sIf (eBool (eOp fEq (eVar 5) (eCon (.int 1)))) (sRet (eFr (eOp fAdd (eOp fAdd (eSl (eVar 1) none (some (eVar 4))) (eVar 3)) (eSl (eVar 1) (some (eOp fAdd (eVar 4) (eCon (.int 1)))) none)))) sNx) (sSeq (sIf (eBool (eOp fEq (eVar 5) (eCon (.int 2)))) (sRet (eFr (eOp fAdd (eSl (eVar 1) none (some (eVar 4))) (eSl (eVar 1) (some (eOp fAdd (eVar 4) (eCon (.int 1)))) none)))) sNx) (sSeq (sIf (eBool (eOp fEq (eVar 5) (eCon (.int 3)))) (sRet (eFr (eOp fAdd (eSl (eVar 1) none (some (eOp fAdd (eVar 4) (eCon (.int 1))))) (eSl (eVar 1) (some (eVar 4)) none)))) sNx) (spL Γ)))))
theorem sp_312 (Γ : Nat → Fn) : mb_312 Γ = (sSeq (sSet 2 (eCon (.str lawSigns))) (sSeq (sSet 3 (eOp fIx (eApp fLst [(eOp fIx (eVar 2) (eCall (Γ 7) [.b 0, .v (eApp fLen [(eVar 2)])])), (eOp fIx (eCon (.str [32, 48, 49, 44, 43, 97, 10, 42])) (eCall (Γ 7) [.b 0, .v (eCon (.int 8))]))]) (eCall (Γ 7) [.b 0, .v (eCon (.int 2))]))) (sSeq (sSet 4 (eCall (Γ 7) [.b 0, .v (eOp fAdd (eApp fLen [(eVar 1)]) (eCon (.int 1)))])) (sSeq (sSet 5 (eCall (Γ 7) [.b 0, .v (eCon (.int 10))])) (spT Γ))))) := rfl
end LW
namespace LW
open TB
section
variable {Γ : Nat → Fn}
def spS (kd : KD) (s t : List Nat) (a w : Int) (s6 s7 s8 : Slot) : List Slot := [some kd, some (.fz, .str s), some (.fz, .str lawSigns), some (.fz, .str t), some (.fz, .int a), some (.fz, .int w), s6, s7, s8]
theorem spT_ok {N : Nat} (hN : N ≤ 200000) {kd : KD} (hd : DI kd) {s : List Nat} (hs : Tx N s) {c : Nat} (hc : c < 1114112) {a w : Int} (a0 : 0 ≤ a) (a1 : a ≤ s.length) (w0 : 0 ≤ w) (w1 : w < 10) {as : List KD}
    (hL : 4 ≤ w → okP (spL Γ (spS kd s [c] a w none none none)) (fin as (SpQ N)))
    (hO : ∀ (k : KD) a b d e f g h i, DI k → outsOf as [some k, a, b, d, e, f, g, h, i] = some [k]) : okP (spT Γ (spS kd s [c] a w none none none)) (fin as (SpQ N)) := by
  have l1 := hs.1
  have sl : ∀ lo hi, fSl (.str s) lo hi = some (.fz, .str (cutL s lo hi)) := fun lo hi => sl_str (by omega) lo hi
  have one : Tx 1 [c] := ⟨by simp, fun x hx => by simp at hx; omega⟩
  have ad1 : fAdd (.int a) (.int 1) = some (.fz, .int (a + 1)) := rfl
  have c3 : ∀ lo hi lo2 hi2, Tx (3 * N + 3) (cutL s lo hi ++ [c] ++ cutL s lo2 hi2) := fun lo hi lo2 hi2 => tx_le (app_tx (app_tx (cut_tx hs lo hi) one) (cut_tx hs lo2 hi2)) (by omega)
  have c2 : ∀ lo hi lo2 hi2, Tx (3 * N + 3) (cutL s lo hi ++ cutL s lo2 hi2) := fun lo hi lo2 hi2 => tx_le (app_tx (cut_tx hs lo hi) (cut_tx hs lo2 hi2)) (by omega)
  have a2 : ∀ lo hi, fAdd (.str (cutL s lo hi)) (.str [c]) = some (.fz, .str (cutL s lo hi ++ [c])) := fun lo hi => add_str (by have := cutL_len s lo hi; simp; omega)
  have a3 : ∀ lo hi lo2 hi2, fAdd (.str (cutL s lo hi ++ [c])) (.str (cutL s lo2 hi2)) = some (.fz, .str (cutL s lo hi ++ [c] ++ cutL s lo2 hi2)) := fun lo hi lo2 hi2 => add_str (by have := cutL_len s lo hi; have := cutL_len s lo2 hi2; simp; omega)
  have a4 : ∀ lo hi lo2 hi2, fAdd (.str (cutL s lo hi)) (.str (cutL s lo2 hi2)) = some (.fz, .str (cutL s lo hi ++ cutL s lo2 hi2)) := fun lo hi lo2 hi2 => add_str (by have := cutL_len s lo hi; have := cutL_len s lo2 hi2; omega)
  have fq : ∀ i j : Int, fEq (.int i) (.int j) = some (.fz, .bl (decide (i = j))) := fun i j => rfl
  by_cases z0 : w = 0
  · subst z0
    simp [spT, spS, fq, sl, ad1, a2, a3, a4, hO, hd, -Prod.exists, -Prod.forall]
    exact ⟨_, kd, rfl, rfl, hd, by simpa using c3 _ _ _ _⟩
  by_cases z1 : w = 1
  · subst z1
    simp [spT, spS, fq, sl, ad1, a2, a3, a4, hO, hd, -Prod.exists, -Prod.forall]
    exact ⟨_, kd, rfl, rfl, hd, by simpa using c3 _ _ _ _⟩
  by_cases z2 : w = 2
  · subst z2
    simp [spT, spS, fq, sl, ad1, a2, a3, a4, hO, hd, -Prod.exists, -Prod.forall]
    exact ⟨_, kd, rfl, rfl, hd, c2 _ _ _ _⟩
  by_cases z3 : w = 3
  · subst z3
    simp [spT, spS, fq, sl, ad1, a2, a3, a4, hO, hd, -Prod.exists, -Prod.forall]
    exact ⟨_, kd, rfl, rfl, hd, c2 _ _ _ _⟩
  have h4 : okP _ _ := hL (by omega)
  simp [spT, spS, fq, z0, z1, z2, z3, -Prod.exists, -Prod.forall]
  exact h4
end
end LW
namespace LW
open TB
theorem cut_tk {α : Type} (xs : List α) {n : Nat} (h : n ≤ xs.length) : cutL xs none (some (n : Int)) = xs.take n := by
  unfold cutL ixS
  simp
  rw [if_neg (by omega)]
  omega
theorem cut_dr {α : Type} (xs : List α) {n : Nat} (h : n ≤ xs.length) : cutL xs (some (n : Int)) none = xs.drop n := by
  unfold cutL ixS
  simp
  rw [if_neg (by omega), Nat.min_eq_left h, List.take_of_length_le (by simp)]
theorem joins {c : Nat} {ls : List (List Nat)} {N : Nat} (h : Tx N (joinD [c] ls)) (hs : (ls.map (·.length)).sum + ls.length ≤ 1000000) : fJoin [c] (.lst (ls.map D.str)) = some (.fz, .str (joinD [c] ls)) := by
  show ((strsOf (ls.map D.str)).bind fun ss => if (ss.map (·.length)).sum + ss.length * [c].length ≤ sizeMax then kz (.str (joinD [c] ss)) else none) = _
  rw [strsOf_map]
  show (if (ls.map (·.length)).sum + ls.length * [c].length ≤ sizeMax then kz (.str (joinD [c] ls)) else none) = _
  rw [if_pos (by unfold sizeMax; simp at *; omega)]
  rfl
/-- the texts put between -/
def midL (ws : List (List Nat)) (a o : List Nat) (r : Int) : List (List Nat) := if r = 0 then [] else if r = 1 then [a, a] else [o]
theorem mid_ix (ws : List (List Nat)) (a o : List Nat) {r : Int} (h0 : 0 ≤ r) (h1 : r < 3) : fIx (.lst [.lst [], .lst [.str a, .str a], .lst [.str o]]) (.int r) = some (.fz, .lst ((midL ws a o r).map D.str)) := by
  rcases (by omega : r = 0 ∨ r = 1 ∨ r = 2) with rfl | rfl | rfl <;> rfl
theorem mid_sum {c : Nat} {s : List Nat} {mid : List (List Nat)} (k : Nat) (hm : ∀ m ∈ mid, m ∈ splC c [] s) (hl : mid.length ≤ 2) : ((((splC c [] s).take k ++ mid ++ (splC c [] s).drop (k + 1))).map (·.length)).sum + ((splC c [] s).take k ++ mid ++ (splC c [] s).drop (k + 1)).length ≤ 3 * s.length + 3 := by
  have t := splC_sum c s []
  have sb := take_drop_sub (splC c [] s) k
  have s1 := sub_sum (sb.map (·.length))
  have s2 := sb.length_le
  have ml := sum_le mid s.length fun x hx => by
    have := (splC_mem c s [] x (hm x hx)).1
    simpa using this
  have m2 : mid.length * s.length ≤ 2 * s.length := Nat.mul_le_mul_right _ hl
  simp only [List.map_append, List.sum_append, List.length_append, List.length_cons, List.length_nil, Nat.mul_one] at *
  omega
end LW
namespace LW
open TB
section
variable {Γ : Nat → Fn}
theorem spL_ok {N : Nat} (hN : N ≤ 60000) (hF : DrawOk (Γ 7)) {kd : KD} (hd : DI kd) {s : List Nat} (hs : Tx N s) {c0 : Nat} {a w : Int} (w0 : 4 ≤ w) (w1 : w < 10) {as : List KD}
    (hO : ∀ (k : KD) a b d e f g h i, DI k → outsOf as [some k, a, b, d, e, f, g, h, i] = some [k]) : okP (spL Γ (spS kd s [c0] a w none none none)) (fin as (SpQ N)) := by
  have l1 := hs.1
  obtain ⟨c, hc, ec⟩ : ∃ c : Nat, c < 256 ∧ fIx (.lst [.str [32], .str [10]]) (.int (w / 7)) = some (.fz, .str [c]) := by
    rcases (by omega : w / 7 = 0 ∨ w / 7 = 1) with e | e
    · exact ⟨32, by decide, by rw [e]; rfl⟩
    · exact ⟨10, by decide, by rw [e]; rfl⟩
  have ed : fDiv (.int w) (.int 7) = some (.fz, .int (w / 7)) := by simp [fDiv, kz, small]
  have sp := split_sQ (c := c) (s := s) (by omega) hc
  have hsum := splC_sum c s []
  generalize hws : splC c [] s = ws at *
  have hn : ws.length ≤ s.length + 1 := by simp at hsum; omega
  have h1 : 1 ≤ ws.length := by
    rcases ws with _ | ⟨x, xs⟩
    · simp at hsum
    · simp
  have f2 : fLst [.str [32], .str [10]] = some (.li .fz, .lst [.str [32], .str [10]]) := rfl
  have ln : fLen [.lst (ws.map D.str)] = some (.fz, .int ws.length) := by simp [fLen, kz]
  simp [spL, spS, f2, ed, ec, sp, ln, -sSeq_ap, -cb1, -cb2, -Prod.exists, -Prod.forall]
  rw [sSeq_ap, okP_bind]
  simp [f2, ed, ec, sp, ln, -sSeq_ap, -cb1, -cb2, -Prod.exists, -Prod.forall]
  rw [sSeq_ap, okP_bind]
  simp [f2, ed, ec, sp, ln, -sSeq_ap, -cb1, -cb2, -Prod.exists, -Prod.forall]
  rw [sSeq_ap, okP_bind]
  simp [f2, ed, ec, sp, ln, -sSeq_ap, -cb1, -cb2, -Prod.exists, -Prod.forall]
  refine draw_wp hF rfl ?_
  simp [hd, ln, -sSeq_ap, -cb1, -cb2, -Prod.exists, -Prod.forall]
  refine ⟨by omega, by omega, ?_⟩
  intro r k2 hd2 r0 r1
  rw [sSeq_ap, okP_bind]
  simp [ln, -sSeq_ap, -cb1, -cb2, -Prod.exists, -Prod.forall]
  refine draw_wp hF rfl ?_
  simp [hd2, ln, -sSeq_ap, -cb1, -cb2, -Prod.exists, -Prod.forall]
  refine ⟨by omega, by omega, ?_⟩
  intro q k3 hd3 q0 q1
  obtain ⟨n, rfl⟩ := Int.eq_ofNat_of_zero_le r0
  have hnn : n < ws.length := by omega
  obtain ⟨x, hx, ex⟩ := fIx_lst (xs := ws.map D.str) q0 (by simpa using q1)
  obtain ⟨o, ho, rfl⟩ := List.mem_map.mp hx
  obtain ⟨y, hy, ey⟩ := fIx_lst (xs := ws.map D.str) (r := (n : Int)) (by omega) (by simp; omega)
  obtain ⟨b, hb, rfl⟩ := List.mem_map.mp hy
  have s1 : fSl (.lst (ws.map D.str)) none (some (n : Int)) = some (.li .fz, .lst ((ws.take n).map D.str)) := by
    show some (Kd.li .fz, D.lst (cutL (ws.map D.str) none (some (n : Int)))) = _
    rw [cut_tk _ (by simp; omega), List.map_take]
  have ea : fAdd (.int (n : Int)) (.int 1) = some (.fz, .int ((n : Int) + 1)) := rfl
  have s2 : fSl (.lst (ws.map D.str)) (some ((n : Int) + 1)) none = some (.li .fz, .lst ((ws.drop (n + 1)).map D.str)) := by
    show some (Kd.li .fz, D.lst (cutL (ws.map D.str) (some ((n + 1 : Nat) : Int)) none)) = _
    rw [cut_dr _ (by simp; omega), List.map_drop]
  have f0 : fLst [] = some (.li .fz, .lst []) := rfl
  have f1 : ∀ u, fLst [.str u] = some (.li .fz, .lst [.str u]) := fun _ => rfl
  have f3 : ∀ u v z : List D, fLst [.lst u, .lst v, .lst z] = some (.li .fz, .lst [.lst u, .lst v, .lst z]) := fun _ _ _ => rfl
  have fm : fMul (.lst [.str b]) (.int 2) = some (.li .fz, .lst [.str b, .str b]) := rfl
  have fr : fMod (.int w) (.int 3) = some (.fz, .int (w % 3)) := rfl
  have mx := mid_ix ws b o (r := w % 3) (by omega) (by omega)
  have ad : ∀ u v : List D, u.length + v.length ≤ 100000 → fAdd (.lst u) (.lst v) = some (.li .fz, .lst (u ++ v)) := fun u v h => by
    show (if u.length + v.length ≤ sizeMax then some (Kd.li .fz, D.lst (u ++ v)) else none) = _
    rw [if_pos (by unfold sizeMax; omega)]
  have hm : ∀ m ∈ midL ws b o (w % 3), m ∈ splC c [] s := by
    intro m hm
    rw [hws]
    unfold midL at hm
    split at hm
    · simp at hm
    · split at hm
      · simp at hm; rw [hm]; exact hb
      · simp at hm; rw [hm]; exact ho
  have hl : (midL ws b o (w % 3)).length ≤ 2 := by
    unfold midL
    split
    · simp
    · split <;> simp
  have tx := spoil_tx (c := c) (s := s) (N := N) (by omega) hs n hm hl
  have ms := mid_sum (c := c) (s := s) n hm hl
  rw [hws] at tx ms
  have jn := joins tx (by omega)
  rw [List.map_append, List.map_append] at jn
  have d1 := ad ((ws.take n).map D.str) ((midL ws b o (w % 3)).map D.str) (by simp; omega)
  have d2 := ad ((ws.take n).map D.str ++ (midL ws b o (w % 3)).map D.str) ((ws.drop (n + 1)).map D.str) (by simp; omega)
  generalize (ws.take n).map D.str = A at s1 d1 d2 jn
  generalize (midL ws b o (w % 3)).map D.str = M at mx d1 d2 jn
  generalize (ws.drop (n + 1)).map D.str = Z at s2 d2 jn
  simp [ex, ey, s1, s2, ea, f0, f1, f3, fm, fr, mx, d1, d2, jn, hO, hd3, -List.append_assoc, -cb1, -cb2, -Prod.exists, -Prod.forall]
  exact ⟨_, k3, rfl, rfl, hd3, tx⟩
end
end LW
namespace LW
open TB
section
variable {Γ : Nat → Fn}
theorem spoil_312 {N : Nat} (hN : N ≤ 60000) (hF : DrawOk (Γ 7)) {kd : KD} (hd : DI kd) {s : List Nat} (hs : Tx N s) : FnP (rf_312 Γ) [kd, (.fz, .str s)] (SpQ N) := by
  refine runF_wp (by obtain ⟨a, b, rfl, _⟩ := hd; rfl) ?_
  have hO : ∀ (k : KD) a b d e f g h i, DI k → outsOf [kd, (.fz, .str s)] [some k, a, b, d, e, f, g, h, i] = some [k] := by
    intro k a b d e f g h i hk
    obtain ⟨x, y, rfl, _⟩ := hd
    obtain ⟨x2, y2, rfl, _⟩ := hk
    rfl
  generalize has : ([kd, (.fz, .str s)] : List KD) = as at hO
  rw [← has]
  rw [has]
  have l1 := hs.1
  have e1 : fLen [.str lawSigns] = some (.fz, .int 95) := rfl
  have e2 : fLen [.str s] = some (.fz, .int s.length) := by show (if s.length ≤ sizeMax then kz (.int s.length) else none) = _; rw [if_pos (by unfold sizeMax; omega)]; rfl
  have e8 : fLen [.str [32, 48, 49, 44, 43, 97, 10, 42]] = some (.fz, .int 8) := rfl
  have ea : fAdd (.int (s.length : Int)) (.int 1) = some (.fz, .int (s.length + 1)) := rfl
  have f2 : ∀ u v, fLst [.str u, .str v] = some (.li .fz, .lst [.str u, .str v]) := fun _ _ => rfl
  rw [sp_312]
  subst has
  show okP (sSeq (sSet 2 (eCon (.str lawSigns))) _ _) _
  rw [sSeq_ap, okP_bind]
  simp [-sSeq_ap, -cb1, -cb2, -Prod.exists, -Prod.forall]
  rw [sSeq_ap, okP_bind]
  simp [e1, -sSeq_ap, -cb1, -cb2, -Prod.exists, -Prod.forall]
  refine draw_wp hF rfl ?_
  simp [e1, hd, -sSeq_ap, -cb1, -cb2, -Prod.exists, -Prod.forall]
  intro r1 k1 h1 p0 p1
  obtain ⟨c1, x1, v1⟩ := sign_ix (s := lawSigns) (r := r1) (by decide) (by decide) p0 (by simpa [lawSigns] using p1)
  simp [x1, -sSeq_ap, -cb1, -cb2, -Prod.exists, -Prod.forall]
  refine draw_wp hF rfl ?_
  simp [h1, -sSeq_ap, -cb1, -cb2, -Prod.exists, -Prod.forall]
  intro r2 k2 h2 q0 q1
  obtain ⟨c2, x2, v2⟩ := sign_ix (s := [32, 48, 49, 44, 43, 97, 10, 42]) (r := r2) (by decide) (by decide) q0 (by simpa using q1)
  simp [x2, f2, -sSeq_ap, -cb1, -cb2, -Prod.exists, -Prod.forall]
  refine draw_wp hF rfl ?_
  simp [h2, -sSeq_ap, -cb1, -cb2, -Prod.exists, -Prod.forall]
  intro r3 k3 h3 u0 u1
  obtain ⟨c, x3, v3⟩ : ∃ c, fIx (.lst [.str [c1], .str [c2]]) (.int r3) = some (.fz, .str [c]) ∧ c < 1114112 := by
    rcases (by omega : r3 = 0 ∨ r3 = 1) with rfl | rfl
    · exact ⟨c1, rfl, v1⟩
    · exact ⟨c2, rfl, v2⟩
  simp [x3, -sSeq_ap, -cb1, -cb2, -Prod.exists, -Prod.forall]
  rw [sSeq_ap, okP_bind]
  simp [-sSeq_ap, -cb1, -cb2, -Prod.exists, -Prod.forall]
  refine draw_wp hF rfl ?_
  simp [e2, ea, h3, -sSeq_ap, -cb1, -cb2, -Prod.exists, -Prod.forall]
  refine ⟨by omega, by omega, ?_⟩
  intro a k4 h4 a0 a1
  rw [sSeq_ap, okP_bind]
  simp [-sSeq_ap, -cb1, -cb2, -Prod.exists, -Prod.forall]
  refine draw_wp hF rfl ?_
  simp [h4, -sSeq_ap, -cb1, -cb2, -Prod.exists, -Prod.forall]
  intro w k5 h5 w0 w1
  exact spT_ok (by omega) h5 hs v3 a0 (by omega) w0 w1 (fun g => spL_ok hN hF h5 hs g w1 hO) hO
end
end LW
namespace LW
open TB
def lwL (Γ : Nat → Fn) : St := (sSeq (sSet 10 (eFr (eOp fAdd (eApp fLst [(eOp fIx (eVar 6) (eCon (.int 0)))]) (eLc (itSeq (eSl (eVar 6) (some (eCon (.int 1))) (some (eCon (.int 4))))) (.nm 12) [12] tTrue (eCall (Γ 320) [.v (eVar 12)]))))) (sDrop (eMth fAppend 5 [(eJoin (eCon (.str [32])) (eOp fAdd (eVar 10) (eLc (itSeq (eSl (eVar 6) (some (eCon (.int 4))) none)) (.nm 13) [13] tTrue (eApp fStrA [(eVar 13)]))))])))
def lwT (Γ : Nat → Fn) : St := (sSeq (sIf (eBool (eOp fNe (eCall (Γ 319) [.v (eVar 7)]) (eCall (Γ 322) [.v (eVar 7)]))) (sRet (eCon (.bl false))) sNx) (sSet 7 (eCall (Γ 312) [.b 3, .v (eVar 7)])))
def lwO (Γ : Nat → Fn) : St := (sSeq (sSet 11 (eFr (eIf (eBool (eIsi .str (eVar 9))) (eCall (Γ 322) [.v (eVar 9)]) (eApp fTup [(eCon .non), (eCon (.str [78, 111, 70, 111, 114, 109, 32, 78, 111, 84, 101, 120, 116, 32, 43, 32, 48]))])))) (sIf (eBool (eOp fNe (eCall (Γ 319) [.v (eVar 9)]) (eVar 11))) (sRet (eCon (.bl false))) sNx))
def lwX (Γ : Nat → Fn) : St := (sFor (itSeq (eApp fLst [(eCon .non), (eCon (.int 7)), (eCon (.bl true)), (eVar 4), (eApp fLst [(eVar 7)]), (eCon (.str [32])), (eCon (.str [10])), (eCon (.str [108, 101, 116, 32, 42, 32, 42, 32, 42, 32, 49, 32, 53, 32])), (eCon (.str [108, 101, 116, 32, 42, 32, 42, 32, 32, 49, 32, 53])), (eCon (.str [108, 101, 116, 32, 42, 42, 32, 42, 32, 42, 32, 49, 32, 53]))])) (.nm 9) (lwO Γ))
def lwC (Γ : Nat → Fn) : St := (sSeq (sSet 7 (ePeekI (eJoin (eCon (.str [10])) (eVar 5)))) (sSeq (sIf (tOr (eBool (eOp fNe (eCall (Γ 35) [.v (eVar 4)]) (eVar 7))) (eBool (eOp fNe (eCall (Γ 319) [.v (eVar 7)]) (eApp fTup [(eVar 4), (eCon (.str []))])))) (sRet (eCon (.bl false))) sNx) (sSeq (sFor (itRange1 (eCon (.int 4))) (.nm 8) (lwT Γ)) (lwX Γ))))
def lwB (Γ : Nat → Fn) : St := (sSeq (sSet 3 (eCall (Γ 6) [.v (eVar 0), .v (eVar 2)])) (sSeq (sSet 4 (eCall (Γ 10) [.b 3, .v (eCall (Γ 37) [.b 3, .v (eCon (.int 3))]), .v (eCall (Γ 37) [.b 3, .v (eCon (.int 3))])])) (sSeq (sSet 5 (eApp fLst [])) (sSeq (sFor (itSeq (eVar 4)) (.nm 6) (lwL Γ)) (lwC Γ)))))
theorem lw_323 (Γ : Nat → Fn) : mb_323 Γ = (sSeq (sSet 1 (eFr (eOp fMul (eApp fLst [(eCon (.str [98, 97, 114, 32, 97, 44, 98, 32, 42, 32, 48, 44, 49, 44, 50, 44, 51, 44, 52, 44, 53, 44, 54, 32, 49, 32, 49, 48, 48, 48, 48, 48, 48]))]) (eCon (.int 7))))) (sSeq (sIf (tOr (eBool (eOp fNe (eCall (Γ 319) [.v (eJoin (eCon (.str [10])) (eVar 1))]) (eApp fTup [(eCon .non), (eCon (.str [78, 111, 70, 111, 114, 109, 32, 78, 111, 84, 101, 120, 116, 32, 43, 32, 54]))]))) (eBool (eOp fNe (eApp fLen [(eCall (Γ 284) [.v (eJoin (eCon (.str [10])) (eSl (eVar 1) none (some (eCon (.int 6)))))])]) (eCon (.int 6))))) (sRet (eCon (.bl false))) sNx) (sSeq (sFor (itRange1 (eApp fMax2 [(eCon (.int 1)), (eApp fMin2 [(eCon (.int 20)), (eApp fLen [(eVar 0)])])])) (.nm 2) (lwB Γ)) (sRet (eCon (.bl true)))))) := rfl
end LW
namespace LW
open TB
section
variable {Γ : Nat → Fn}
def lS (s0 s1 s2 s3 s4 s5 s6 s7 s8 s9 s10 s11 s12 s13 : Slot) : List Slot := [s0, s1, s2, s3, s4, s5, s6, s7, s8, s9, s10, s11, s12, s13]
theorem lw_line (h : S33 (Γ 320)) {r : Rule} (w : Rw r) {s0 s1 s2 s3 s4 s7 s8 s9 s10 s11 s12 s13 : Slot} {acc : List D} (ha : acc.length ≤ 100) (z12 : fzAt [s12] 0 = true) (z13 : fzAt [s13] 0 = true) :
    okP (lwL Γ (lS s0 s1 s2 s3 s4 (some (.li .fz, .lst acc)) (some (.fz, r.enc)) s7 s8 s9 s10 s11 s12 s13)) fun f S' => f = .nx ∧ ∃ t10, S' = lS s0 s1 s2 s3 s4 (some (.li .fz, .lst (acc ++ [.str (ruleTx r)]))) (some (.fz, r.enc)) s7 s8 s9 t10 s11 s12 s13 := by
  have k1 := wds_str w.ks
  have k2 := wds_str w.ps
  have k3 := wds_int w.ds
  have c1 : ∀ S, callsV (Γ 320) [.tup (r.ks.map D.str)] S = .ok (.fz, .str (someT r.ks)) S := fun S => by
    have := callsV_of (ds := [.tup (r.ks.map D.str)]) (h _ k1 (by rw [List.length_map]; have := w.kl; omega)) S
    rwa [wd_strs] at this
  have c2 : ∀ S, callsV (Γ 320) [.tup (r.ps.map D.str)] S = .ok (.fz, .str (someT r.ps)) S := fun S => by
    have := callsV_of (ds := [.tup (r.ps.map D.str)]) (h _ k2 (by rw [List.length_map]; have := w.pl; omega)) S
    rwa [wd_strs] at this
  have c3 : ∀ S, callsV (Γ 320) [.tup (r.ds.map D.int)] S = .ok (.fz, .str (someT (r.ds.map strI))) S := fun S => by
    have := callsV_of (ds := [.tup (r.ds.map D.int)]) (h _ k3 (by rw [List.length_map]; have := w.dl; omega)) S
    rwa [wd_ints] at this
  have sl : fSl r.enc (some 1) (some 4) = some (.fz, .tup [.tup (r.ks.map D.str), .tup (r.ps.map D.str), .tup (r.ds.map D.int)]) := rfl
  have sl4 : fSl r.enc (some 4) none = some (.fz, .tup [.int r.lo, .int r.hi]) := rfl
  have x0 : fIx r.enc (.int 0) = some (.fz, .str (wordT r)) := rfl
  have s4' : fStrA [.int r.lo] = some (.fz, .str (strI r.lo)) := by obtain ⟨n, e, hn⟩ := w.lo; rw [e]; exact wd_str (.inr ⟨n, rfl, hn⟩)
  have s5' : fStrA [.int r.hi] = some (.fz, .str (strI r.hi)) := by obtain ⟨n, e, hn⟩ := w.hi; rw [e]; exact wd_str (.inr ⟨n, rfl, hn⟩)
  have l4 : (strI r.lo).length ≤ 1000 := by obtain ⟨n, e, hn⟩ := w.lo; rw [e]; exact wd_len (d := .int n) (.inr ⟨n, rfl, hn⟩)
  have l5 : (strI r.hi).length ≤ 1000 := by obtain ⟨n, e, hn⟩ := w.hi; rw [e]; exact wd_len (d := .int n) (.inr ⟨n, rfl, hn⟩)
  have lw : (wordT r).length ≤ 1000 := by unfold wordT; split <;> decide
  have lk := someT_len w.ks w.kl
  have lp := someT_len w.ps w.pl
  have ld := someT_len (ls := r.ds.map strI) (fun x hx => by
    obtain ⟨i, hi, rfl⟩ := List.mem_map.mp hx
    obtain ⟨n, rfl, hn⟩ := w.ds i hi
    exact wd_len (d := .int n) (.inr ⟨n, rfl, hn⟩)) (by rw [List.length_map]; exact w.dl)
  have j := join_s (c := 32) (ls := ruleW r) (fun x hx => by
    unfold ruleW at hx
    simp only [List.mem_cons, List.not_mem_nil, or_false] at hx
    rcases hx with rfl | rfl | rfl | rfl | rfl | rfl <;> omega) (by unfold ruleW; simp)
  have z : ∀ t10, eLc (itSeq (eSl (eVar 6) (some (eCon (.int 1))) (some (eCon (.int 4))))) (.nm 12) [12] tTrue (eCall (Γ 320) [.v (eVar 12)]) (lS s0 s1 s2 s3 s4 (some (.li .fz, .lst acc)) (some (.fz, r.enc)) s7 s8 s9 t10 s11 s12 s13) = .ok (.li .fz, .lst [.str (someT r.ks), .str (someT r.ps), .str (someT (r.ds.map strI))]) (lS s0 s1 s2 s3 s4 (some (.li .fz, .lst acc)) (some (.fz, r.enc)) s7 s8 s9 t10 s11 s12 s13) := fun t10 => by
    have z := lc_pure (v := 12) (S0 := lS s0 s1 s2 s3 s4 (some (.li .fz, .lst acc)) (some (.fz, r.enc)) s7 s8 s9 t10 s11 s12 s13) (S := lS s0 s1 s2 s3 s4 (some (.li .fz, .lst acc)) (some (.fz, r.enc)) s7 s8 s9 t10 s11 s12 s13) (it := itSeq (eSl (eVar 6) (some (eCon (.int 1))) (some (eCon (.int 4))))) (c := tTrue) (e := eCall (Γ 320) [.v (eVar 12)]) (ds := [.tup (r.ks.map D.str), .tup (r.ps.map D.str), .tup (r.ds.map D.int)])
      (fun _ => true) (fun d => match d with | .tup xs => .str (someT (xs.map wd)) | _ => .non) (by
        generalize r.enc = RE at *
        simp [lS, eOpt, sl, itemsOf]) (by simp [lS]) z12 (fun _ _ => rfl)
      (fun d hd _ => by
        simp only [List.mem_cons, List.not_mem_nil, or_false] at hd
        rcases hd with rfl | rfl | rfl
        · exact ⟨.fz, by simp only []; rw [wd_strs]; simp [lS, c1]⟩
        · exact ⟨.fz, by simp only []; rw [wd_strs]; simp [lS, c2]⟩
        · exact ⟨.fz, by simp only []; rw [wd_ints]; simp [lS, c3]⟩) (by show 3 ≤ sizeMax; decide)
    rw [List.filter_eq_self.mpr (fun _ _ => rfl)] at z
    simp only [List.map_cons, List.map_nil] at z
    rwa [wd_strs, wd_strs, wd_ints] at z
  have y : ∀ t10, eLc (itSeq (eSl (eVar 6) (some (eCon (.int 4))) none)) (.nm 13) [13] tTrue (eApp fStrA [(eVar 13)]) (lS s0 s1 s2 s3 s4 (some (.li .fz, .lst acc)) (some (.fz, r.enc)) s7 s8 s9 t10 s11 s12 s13) = .ok (.li .fz, .lst [.str (strI r.lo), .str (strI r.hi)]) (lS s0 s1 s2 s3 s4 (some (.li .fz, .lst acc)) (some (.fz, r.enc)) s7 s8 s9 t10 s11 s12 s13) := fun t10 => by
    have z := lc_pure (v := 13) (S0 := lS s0 s1 s2 s3 s4 (some (.li .fz, .lst acc)) (some (.fz, r.enc)) s7 s8 s9 t10 s11 s12 s13) (S := lS s0 s1 s2 s3 s4 (some (.li .fz, .lst acc)) (some (.fz, r.enc)) s7 s8 s9 t10 s11 s12 s13) (it := itSeq (eSl (eVar 6) (some (eCon (.int 4))) none)) (c := tTrue) (e := eApp fStrA [(eVar 13)]) (ds := [.int r.lo, .int r.hi])
      (fun _ => true) (fun d => .str (wd d)) (by
        generalize r.enc = RE at *
        simp [lS, eOpt, sl4, itemsOf]) (by simp [lS]) z13 (fun _ _ => rfl)
      (fun d hd _ => by
        simp only [List.mem_cons, List.not_mem_nil, or_false] at hd
        rcases hd with rfl | rfl
        · exact ⟨.fz, by simp [lS, s4', wd]⟩
        · exact ⟨.fz, by simp [lS, s5', wd]⟩) (by show 2 ≤ sizeMax; decide)
    rwa [List.filter_eq_self.mpr (fun _ _ => rfl)] at z
  have f1 : fLst [.str (wordT r)] = some (.li .fz, .lst [.str (wordT r)]) := rfl
  have a1 : fAdd (.lst [.str (wordT r)]) (.lst [.str (someT r.ks), .str (someT r.ps), .str (someT (r.ds.map strI))]) = some (.li .fz, .lst [.str (wordT r), .str (someT r.ks), .str (someT r.ps), .str (someT (r.ds.map strI))]) := rfl
  have a2 : fAdd (.lst [.str (wordT r), .str (someT r.ks), .str (someT r.ps), .str (someT (r.ds.map strI))]) (.lst [.str (strI r.lo), .str (strI r.hi)]) = some (.li .fz, .lst ((ruleW r).map D.str)) := rfl
  unfold ruleTx
  generalize joinD [32] (ruleW r) = J at *
  generalize (ruleW r).map D.str = L at *
  generalize r.enc = RE at *
  generalize someT r.ks = K1 at *
  generalize someT r.ps = K2 at *
  generalize someT (r.ds.map strI) = K3 at *
  unfold lS at *
  have fa : fAppend acc [.str J] = some (.non, acc ++ [.str J]) := by
    show (if acc.length < sizeMax then some (D.non, acc ++ [.str J]) else none) = _
    rw [if_pos (by unfold sizeMax; omega)]
  simp [lwL, x0, f1, z, y, a1, a2, j, ownL, fa, -Prod.exists, -Prod.forall]
end
end LW
namespace LW
open TB
section
variable {Γ : Nat → Fn}
structure Du (N : Nat) (Γ : Nat → Fn) : Prop where
  a : ∀ t, Tx N t → Γ 319 [(.fz, .str t)] = .ret (.fz, dueD t) []
  b : ∀ t, Tx N t → Γ 322 [(.fz, .str t)] = .ret (.fz, dueD t) []
  c : ∀ t, Tx N t → fNe (dueD t) (dueD t) = some (.fz, .bl false)
def SpOk (N : Nat) (F : Fn) : Prop := ∀ (M : Nat) (kd : KD) (s : List Nat), M ≤ N → DI kd → Tx M s → FnP F [kd, (.fz, .str s)] (SpQ M)
theorem lw_turn {N M : Nat} (h : Du N Γ) (h7 : SpOk 60000 (Γ 312)) (hM : M ≤ 60000) (hMN : M ≤ N) {kd : KD} (hd : DI kd) {t : List Nat} (ht : Tx M t) {s0 s1 s2 s4 s5 s6 s8 s9 s10 s11 s12 s13 : Slot} :
    okP (lwT Γ (lS s0 s1 s2 (some kd) s4 s5 s6 (some (.fz, .str t)) s8 s9 s10 s11 s12 s13)) fun f S' => f = .nx ∧ ∃ kd' t', DI kd' ∧ Tx (3 * M + 3) t' ∧ S' = lS s0 s1 s2 (some kd') s4 s5 s6 (some (.fz, .str t')) s8 s9 s10 s11 s12 s13 := by
  have c1 : ∀ S, callsV (Γ 319) [.str t] S = .ok (.fz, dueD t) S := fun S => callsV_of (ds := [.str t]) (h.a t (tx_le ht hMN)) S
  have c2 : ∀ S, callsV (Γ 322) [.str t] S = .ok (.fz, dueD t) S := fun S => callsV_of (ds := [.str t]) (h.b t (tx_le ht hMN)) S
  have e := h.c t (tx_le ht hMN)
  have q := h7 M kd t hM hd ht
  generalize dueD t = D at *
  simp [lwT, lS, c1, c2, e, -cb1, -cb2, -Prod.exists, -Prod.forall]
  refine call1_wp rfl ?_
  simp [-cb1, -cb2, -Prod.exists, -Prod.forall]
  refine ⟨hd, q.mono ?_⟩
  rintro _ _ ⟨u, k2, rfl, rfl, h2, tx⟩
  exact ⟨k2, rfl, h2, k2, h2, u, tx, rfl, rfl⟩
end
end LW
namespace LW
open TB
section
variable {Γ : Nat → Fn}
def lim : Nat → Nat
  | 0 => 154020
  | 1 => 51339
  | 2 => 17112
  | 3 => 5703
  | _ => 1900
theorem lim_s {n : Nat} (h : n < 4) : 3 * lim (n + 1) + 3 ≤ lim n ∧ lim (n + 1) ≤ 60000 := by
  rcases (by omega : n = 0 ∨ n = 1 ∨ n = 2 ∨ n = 3) with rfl | rfl | rfl | rfl <;> decide
theorem lw_turns (h : Du 60000 Γ) (h7 : SpOk 60000 (Γ 312)) {kd : KD} (hd : DI kd) {t : List Nat} (ht : Tx 1900 t) {s0 s1 s2 s4 s5 s6 s8 s9 s10 s11 s12 s13 : Slot} :
    okP (sFor (itRange1 (eCon (.int 4))) (.nm 8) (lwT Γ) (lS s0 s1 s2 (some kd) s4 s5 s6 (some (.fz, .str t)) s8 s9 s10 s11 s12 s13)) fun f S' => f = .nx ∧ ∃ kd' t' t8, DI kd' ∧ Tx 154020 t' ∧ S' = lS s0 s1 s2 (some kd') s4 s5 s6 (some (.fz, .str t')) t8 s9 s10 s11 s12 s13 := by
  simp [lS, limN, -Prod.exists, -Prod.forall]
  refine loop_wp (fun ds S => ∃ (kd : KD) (t : List Nat) (x : Slot), DI kd ∧ ds.length ≤ 4 ∧ Tx (lim ds.length) t ∧ S = lS s0 s1 s2 (some kd) s4 s5 s6 (some (.fz, .str t)) x s9 s10 s11 s12 s13) ?_ ?_ ?_ ?_
  · rintro ds S ⟨_, _, _, _, _, _, rfl⟩; simp [lS]
  · exact ⟨kd, t, s8, hd, by simp [rangeL], by simpa [rangeL, lim] using ht, rfl⟩
  · rintro d ds S ⟨k2, t2, x, h2, hl, tx, rfl⟩
    have hl : ds.length < 4 := by simp at hl; omega
    obtain ⟨l1, l2⟩ := lim_s hl
    have z := lw_turn h h7 l2 l2 h2 tx (s0 := s0) (s1 := s1) (s2 := s2) (s4 := s4) (s5 := s5) (s6 := s6) (s8 := some (.fz, d)) (s9 := s9) (s10 := s10) (s11 := s11) (s12 := s12) (s13 := s13)
    refine z.mono ?_
    rintro _ _ ⟨rfl, k3, t3, h3, tx3, rfl⟩
    exact ⟨rfl, k3, t3, _, h3, by omega, tx_le tx3 l1, rfl⟩
  · rintro S ⟨k2, t2, x, h2, hl, tx, rfl⟩
    exact ⟨rfl, k2, h2, t2, tx, x, rfl⟩
end
end LW
namespace LW
open TB
section
variable {Γ : Nat → Fn}
def refD : D := .tup [.non, .str [78, 111, 70, 111, 114, 109, 32, 78, 111, 84, 101, 120, 116, 32, 43, 32, 48]]
/-- a thing that is read as it should be -/
def Th (Γ : Nat → Fn) (d : D) : Prop := ∃ (b : Bool) (R : D), fIsi .str d = some (.fz, .bl b) ∧ Γ 319 [(.fz, d)] = .ret (.fz, R) [] ∧ fNe R R = some (.fz, .bl false) ∧ (if b = true then Γ 322 [(.fz, d)] = .ret (.fz, R) [] else R = refD)
theorem lw_one {d : D} (h : Th Γ d) {s0 s1 s2 s3 s4 s5 s6 s7 s8 s10 s11 s12 s13 : Slot} : okP (lwO Γ (lS s0 s1 s2 s3 s4 s5 s6 s7 s8 (some (.fz, d)) s10 s11 s12 s13)) fun f S' => f = .nx ∧ ∃ t11, S' = lS s0 s1 s2 s3 s4 s5 s6 s7 s8 (some (.fz, d)) s10 t11 s12 s13 := by
  obtain ⟨b, R, hb, h1, h2, h3⟩ := h
  have c1 : ∀ S, callsV (Γ 319) [d] S = .ok (.fz, R) S := fun S => callsV_of (ds := [d]) h1 S
  cases b with
  | true =>
    have h3 : Γ 322 [(.fz, d)] = .ret (.fz, R) [] := by simpa using h3
    have c2 : ∀ S, callsV (Γ 322) [d] S = .ok (.fz, R) S := fun S => callsV_of (ds := [d]) h3 S
    simp [lwO, lS, eIsi, hb, c1, c2, h2, -Prod.exists, -Prod.forall]
  | false =>
    have h3 : R = refD := by simpa using h3
    have f : fTup [.non, .str [78, 111, 70, 111, 114, 109, 32, 78, 111, 84, 101, 120, 116, 32, 43, 32, 48]] = some (.fz, R) := by rw [h3]; rfl
    simp [lwO, lS, eIsi, hb, c1, f, h2, -Prod.exists, -Prod.forall]
end
end LW
namespace LW
open TB
section
variable {Γ : Nat → Fn}
def tenL (B : D) (t : List Nat) : List D := [.non, .int 7, .bl true, B, .lst [.str t], .str [32], .str [10], .str [108, 101, 116, 32, 42, 32, 42, 32, 42, 32, 49, 32, 53, 32], .str [108, 101, 116, 32, 42, 32, 42, 32, 32, 49, 32, 53], .str [108, 101, 116, 32, 42, 42, 32, 42, 32, 42, 32, 49, 32, 53]]
theorem lw_ten {B : D} {t : List Nat} (h : ∀ d ∈ tenL B t, Th Γ d) {s0 s1 s2 s3 s5 s6 s8 s9 s10 s11 s12 s13 : Slot} : okP (lwX Γ (lS s0 s1 s2 s3 (some (.fz, B)) s5 s6 (some (.fz, .str t)) s8 s9 s10 s11 s12 s13)) fun f S' => f = .nx ∧ ∃ t9 t11, S' = lS s0 s1 s2 s3 (some (.fz, B)) s5 s6 (some (.fz, .str t)) s8 t9 s10 t11 s12 s13 := by
  have f1 : fLst [.str t] = some (.li .fz, .lst [.str t]) := rfl
  have f2 : fLst (tenL B t) = some (.li .fz, .lst (tenL B t)) := rfl
  have it : itemsOf (.lst (tenL B t)) = some (tenL B t) := rfl
  unfold lwX
  have e : itSeq (eApp fLst [(eCon .non), (eCon (.int 7)), (eCon (.bl true)), (eVar 4), (eApp fLst [(eVar 7)]), (eCon (.str [32])), (eCon (.str [10])), (eCon (.str [108, 101, 116, 32, 42, 32, 42, 32, 42, 32, 49, 32, 53, 32])), (eCon (.str [108, 101, 116, 32, 42, 32, 42, 32, 32, 49, 32, 53])), (eCon (.str [108, 101, 116, 32, 42, 42, 32, 42, 32, 42, 32, 49, 32, 53]))]) (lS s0 s1 s2 s3 (some (.fz, B)) s5 s6 (some (.fz, .str t)) s8 s9 s10 s11 s12 s13) = .ok (tenL B t) (lS s0 s1 s2 s3 (some (.fz, B)) s5 s6 (some (.fz, .str t)) s8 s9 s10 s11 s12 s13) := by
    rfl
  generalize hten : tenL B t = T at *
  have q : okP (loop (.nm 9) (lwO Γ) T (lS s0 s1 s2 s3 (some (.fz, B)) s5 s6 (some (.fz, .str t)) s8 s9 s10 s11 s12 s13)) fun f S' => f = .nx ∧ ∃ t9 t11, S' = lS s0 s1 s2 s3 (some (.fz, B)) s5 s6 (some (.fz, .str t)) s8 t9 s10 t11 s12 s13 := by
    refine loop_wp (fun ds S => (∀ d ∈ ds, Th Γ d) ∧ ∃ t9 t11, S = lS s0 s1 s2 s3 (some (.fz, B)) s5 s6 (some (.fz, .str t)) s8 t9 s10 t11 s12 s13) ?_ ?_ ?_ ?_
    · rintro ds S ⟨_, _, _, rfl⟩; simp [lS]
    · exact ⟨h, s9, s11, rfl⟩
    · rintro d ds S ⟨g, t9, t11, rfl⟩
      refine (lw_one (g d List.mem_cons_self) (s0 := s0) (s1 := s1) (s2 := s2) (s3 := s3) (s4 := some (.fz, B)) (s5 := s5) (s6 := s6) (s7 := some (.fz, .str t)) (s8 := s8) (s10 := s10) (s11 := t11) (s12 := s12) (s13 := s13)).mono ?_
      rintro _ _ ⟨rfl, u, rfl⟩
      exact ⟨rfl, fun x hx => g x (List.mem_cons_of_mem _ hx), _, u, rfl⟩
    · rintro S ⟨_, t9, t11, rfl⟩
      exact ⟨rfl, t9, t11, rfl⟩
  unfold sFor
  rw [bind_ap, e]
  exact q
end
end LW
namespace LW
open TB
theorem readL_le : ∀ (ls : List (List Nat)) (i j : Nat), readL i ls = .bad j → i ≤ 6 → j ≤ 6
  | [], i, j, h, _ => by cases h
  | l :: ls, i, j, h, hi => by
    have h : (match ruleOf l with
      | none => Rdg.bad i
      | some r => if i = 6 then .bad i else match readL (i + 1) ls with
        | .ok rs => .ok (r :: rs)
        | .bad j => .bad j) = .bad j := h
    cases e : ruleOf l with
    | none => rw [e] at h; cases h; exact hi
    | some r =>
      rw [e] at h
      simp only [] at h
      by_cases h6 : i = 6
      · rw [if_pos h6] at h; cases h; exact hi
      · rw [if_neg h6] at h
        cases q : readL (i + 1) ls with
        | ok rs' => rw [q] at h; cases h
        | bad k =>
          rw [q] at h
          have h : Rdg.bad k = .bad j := h
          cases h
          exact readL_le ls (i + 1) j q (by omega)
section
variable {Γ : Nat → Fn} {N : Nat}
theorem clause_22 {d : D} {j : Nat} (hj : j ≤ 6) (x : ∀ S, callsV (Γ 284) [d] S = .exc ⟨22, .int j⟩ S) :
    sTry [13, 22] (sSet 1 (eCall (Γ 284) [.v (eVar 0)])) [⟨22, 3, 2, fun x => rTxt x⟩, ⟨10, 3, 2, fun x => .one (.str (kindT x.c))⟩] [some (.fz, d), some (.fz, .non), some (.fz, .str []), none] = .ok .nx [some (.fz, d), some (.fz, .non), some (.fz, .str (noTextK ++ [32] ++ strI j)), none] := by
  have b : sSet 1 (eCall (Γ 284) [.v (eVar 0)]) [some (.fz, d), some (.fz, .non), some (.fz, .str []), none] = .exc ⟨22, .int j⟩ [some (.fz, d), some (.fz, .non), some (.fz, .str []), none] := by simp [x]
  have rt : rTxt ⟨22, .int j⟩ = .one (.str (noTextK ++ [32] ++ strI j)) := by
    have e : rTxt ⟨22, .int j⟩ = if (j : Int).natAbs < 10 ^ 30 then .one (.str (kindT 22 ++ [32] ++ strI j)) else .one (.lst []) := rfl
    rw [e, if_pos (by omega), kind_22]
  have hd : ∀ (c2 : Cl) (S1 : List Slot), hdl ⟨22, .int j⟩ [⟨22, 3, 2, fun x => rTxt x⟩, c2] S1 = (if (rTxt ⟨22, .int j⟩).ok = true ∧ 3 < S1.length ∧ 2 < S1.length then .ok .nx (((S1.set 3 none).set 2 (some (.fz, (rTxt ⟨22, .int j⟩).d))).set 3 none) else .bad) := fun _ _ => rfl
  unfold sTry
  rw [b]
  show hdl _ _ _ = _
  rw [hd, rt]
  rfl
theorem pair_t (a b : D) : fTup [a, b] = some (.fz, .tup [a, b]) := rfl
theorem read_319x {d : D} {j : Nat} (hj : j ≤ 6) (x : Γ 284 [(.fz, d)] = .exc ⟨22, .int j⟩ []) : runF 4 [] (mb_319 Γ) [(.fz, d)] = .ret (.fz, .tup [.non, .str (noTextK ++ [32] ++ strI j)]) [] := by
  have main := clause_22 hj (fun S => callsV_x (ds := [d]) x S)
  refine FnP.eq (runF_wp (by rfl) ?_)
  have p := pair_t .non (.str (noTextK ++ [32] ++ strI j))
  generalize noTextK ++ [32] ++ strI j = T at *
  show okP (mb_319 Γ [some (.fz, d), none, none, none]) _
  unfold mb_319
  rw [sSeq_ap, okP_bind]
  simp [-sSeq_ap]
  rw [sSeq_ap, okP_bind]
  simp [-sSeq_ap]
  rw [sSeq_ap, main]
  simp [p, outsOf, Kd.isF]
theorem read_319o {d r : D} (x : Γ 284 [(.fz, d)] = .ret (.fz, r) []) : runF 4 [] (mb_319 Γ) [(.fz, d)] = .ret (.fz, .tup [r, .str []]) [] := by
  have c : ∀ S, callsV (Γ 284) [d] S = .ok (.fz, r) S := fun S => callsV_of (ds := [d]) x S
  have main : ∀ cl, sTry [13, 22] (sSet 1 (eCall (Γ 284) [.v (eVar 0)])) cl [some (.fz, d), some (.fz, .non), some (.fz, .str []), none] = .ok .nx [some (.fz, d), some (.fz, r), some (.fz, .str []), none] := fun cl => by
    have b : sSet 1 (eCall (Γ 284) [.v (eVar 0)]) [some (.fz, d), some (.fz, .non), some (.fz, .str []), none] = .ok .nx [some (.fz, d), some (.fz, r), some (.fz, .str []), none] := by simp [c]
    unfold sTry
    rw [b]
  have p := pair_t r (.str [])
  refine FnP.eq (runF_wp (by rfl) ?_)
  show okP (mb_319 Γ [some (.fz, d), none, none, none]) _
  unfold mb_319
  rw [sSeq_ap, okP_bind]
  simp [-sSeq_ap]
  rw [sSeq_ap, okP_bind]
  simp [-sSeq_ap]
  rw [sSeq_ap, main]
  simp [p, outsOf, Kd.isF]
theorem read_319 {t : List Nat} (h : Γ 284 [(.fz, .str t)] = match readL 0 (linesOf t) with | .ok rs => .ret (.fz, .tup rs) [] | .bad j => .exc ⟨22, .int j⟩ []) : runF 4 [] (mb_319 Γ) [(.fz, .str t)] = .ret (.fz, dueD t) [] := by
  unfold dueD
  cases q : readL 0 (linesOf t) with
  | ok rs => rw [q] at h; exact read_319o h
  | bad j => rw [q] at h; exact read_319x (readL_le _ 0 j q (by omega)) h
end
end LW
namespace LW
open TB
def rawD (l : List Nat) : D := match splC 32 [] l with
  | [w0, w1, w2, w3, w4, w5] => ruleT w0 w1 w2 w3 w4 w5
  | _ => .non
theorem book_one (d : D) : bookB (.tup [d]) = ruleB d := by
  show (decide (([d] : List D).length ≤ 6) && (ruleB d && true)) = _
  rw [Bool.and_true]
  simp
theorem ruleOf_raw (l : List Nat) : ruleOf l = if ruleB (rawD l) = true then some (rawD l) else none := by
  unfold ruleOf rawD
  generalize splC 32 [] l = ws
  by_cases h6 : ws.length = 6
  · obtain ⟨w0, w1, w2, w3, w4, w5, rfl⟩ : ∃ w0 w1 w2 w3 w4 w5, ws = [w0, w1, w2, w3, w4, w5] := by
      match ws, h6 with
      | [a, b, c, d, e, f], _ => exact ⟨a, b, c, d, e, f, rfl⟩
    rfl
  · have r1 : (match ws with | [w0, w1, w2, w3, w4, w5] => ruleT w0 w1 w2 w3 w4 w5 | _ => D.non) = .non := by
      split
      · exact absurd rfl h6
      · rfl
    rw [r1]
    split
    · exact absurd rfl h6
    · rfl
def dbA (Γ : Nat → Fn) : St := (sSeq (sSet 6 (eApp fTuple [(eLc (itSeq (eCall (Γ 321) [.v (eOp fIx (eVar 4) (eCon (.int 3)))])) (.nm 7) [7] tTrue (eCall (Γ 304) [.v (eVar 7)]))])) (sSeq (sSet 5 (eApp fTup [(eOp fIx (eVar 4) (eCon (.int 0))), (eCall (Γ 321) [.v (eOp fIx (eVar 4) (eCon (.int 1)))]), (eCall (Γ 321) [.v (eOp fIx (eVar 4) (eCon (.int 2)))]), (eVar 6)])) (sSet 5 (eFr (eOp fAdd (eVar 5) (eApp fTup [(eCall (Γ 304) [.v (eOp fIx (eVar 4) (eCon (.int 4)))]), (eCall (Γ 304) [.v (eOp fIx (eVar 4) (eCon (.int 5)))])]))))))
def dbI (Γ : Nat → Fn) : St := sIf (eBool (eOp fEq (eApp fLen [(eVar 4)]) (eCon (.int 6)))) (dbA Γ) sNx
def dbT (Γ : Nat → Fn) : St := (sSeq (sIf (tOr (eBool (eOp fEq (eVar 2) (eCon (.int 6)))) (tNot (eBool (eCall (Γ 19) [.v (eApp fTup [(eVar 5)])])))) (sRet (eApp fTup [(eCon .non), (eOp fAdd (eCon (.str [78, 111, 70, 111, 114, 109, 32, 78, 111, 84, 101, 120, 116, 32, 43, 32])) (eApp fStrI [(eVar 2)]))])) sNx) (sDrop (eMth fAppend 1 [(eVar 5)])))
def dbB (Γ : Nat → Fn) : St := (sSeq (sSet 4 (eFr (eSplit (eVar 3) (eCon (.str [32]))))) (sSeq (sSet 5 (eCon .non)) (sSeq (dbI Γ) (dbT Γ))))
section
variable {Γ : Nat → Fn} {N : Nat} {s0 : Slot}
theorem raw_good (hN : 5 ≤ N) {l : List Nat} (hl : Tx N l) : good (N + 1) 2 (rawD l) := by
  unfold rawD
  have pm := hl.parts 32
  generalize splC 32 [] l = ws at *
  split
  · exact rule_good hN (pm _ (by simp)) (pm _ (by simp)) (pm _ (by simp)) (pm _ (by simp))
  · trivial
theorem db_if (h : R62 N Γ) (hN : N ≤ 80000) {l : List Nat} (hl : Tx N l) {acc : List D} {i : Nat} {x6 : Slot} : ∃ y6 : Slot, dbI Γ [s0, some (.li .fz, .lst acc), some (.fz, .int i), some (.fz, .str l), some (.fz, .lst ((splC 32 [] l).map D.str)), some (.fz, .non), x6, none] =
    .ok .nx [s0, some (.li .fz, .lst acc), some (.fz, .int i), some (.fz, .str l), some (.fz, .lst ((splC 32 [] l).map D.str)), some (.fz, rawD l), y6, none] := by
  have pm := hl.parts 32
  have ln : ∀ ws : List (List Nat), fLen [.lst (ws.map D.str)] = some (.fz, .int ws.length) := fun ws => by
    show kz (.int ((ws.map D.str).length)) = _
    rw [List.length_map]
    rfl
  unfold rawD
  generalize splC 32 [] l = ws at *
  have l6 := ln ws
  by_cases h6 : ws.length = 6
  · obtain ⟨w0, w1, w2, w3, w4, w5, rfl⟩ : ∃ w0 w1 w2 w3 w4 w5, ws = [w0, w1, w2, w3, w4, w5] := by
      match ws, h6 with
      | [a, b, c, d, e, f], _ => exact ⟨a, b, c, d, e, f, rfl⟩
    have t1 := pm w1 (by simp)
    have t2 := pm w2 (by simp)
    have t3 := pm w3 (by simp)
    have t4 := pm w4 (by simp)
    have t5 := pm w5 (by simp)
    simp only [List.map_cons, List.map_nil] at l6 ⊢
    have x0 : fIx (.lst [.str w0, .str w1, .str w2, .str w3, .str w4, .str w5]) (.int 0) = some (.fz, .str w0) := rfl
    have x1 : fIx (.lst [.str w0, .str w1, .str w2, .str w3, .str w4, .str w5]) (.int 1) = some (.fz, .str w1) := rfl
    have x2 : fIx (.lst [.str w0, .str w1, .str w2, .str w3, .str w4, .str w5]) (.int 2) = some (.fz, .str w2) := rfl
    have x3 : fIx (.lst [.str w0, .str w1, .str w2, .str w3, .str w4, .str w5]) (.int 3) = some (.fz, .str w3) := rfl
    have x4 : fIx (.lst [.str w0, .str w1, .str w2, .str w3, .str w4, .str w5]) (.int 4) = some (.fz, .str w4) := rfl
    have x5 : fIx (.lst [.str w0, .str w1, .str w2, .str w3, .str w4, .str w5]) (.int 5) = some (.fz, .str w5) := rfl
    have e6 : fEq (.int 6) (.int 6) = some (.fz, .bl true) := rfl
    have c1 : ∀ S, callsV (Γ 321) [.str w1] S = .ok (.fz, someD w1) S := fun S => callsV_of (ds := [.str w1]) (h.s321 w1 t1) S
    have c2 : ∀ S, callsV (Γ 321) [.str w2] S = .ok (.fz, someD w2) S := fun S => callsV_of (ds := [.str w2]) (h.s321 w2 t2) S
    have c4 : ∀ S, callsV (Γ 304) [.str w4] S = .ok (.fz, numD w4) S := fun S => callsV_of (ds := [.str w4]) (h.n304 w4 t4) S
    have c5 : ∀ S, callsV (Γ 304) [.str w5] S = .ok (.fz, numD w5) S := fun S => callsV_of (ds := [.str w5]) (h.n304 w5 t5) S
    have dl := days_lc (F := Γ 321) (G := Γ 304) (v := 7) (e := eOp fIx (eVar 4) (eCon (.int 3))) (S := [s0, some (.li .fz, .lst acc), some (.fz, .int i), some (.fz, .str l), some (.fz, .lst [.str w0, .str w1, .str w2, .str w3, .str w4, .str w5]), some (.fz, .non), x6, none]) t3 hN h.s321 h.n304 (k0 := .fz) (by simp [x3]) (by simp) rfl
    have ft : ∀ xs : List D, fTuple [.lst xs] = some (.fz, .tup xs) := fun _ => rfl
    have p2 := pair_t (numD w4) (numD w5)
    have p4 : ∀ a b c d : D, fTup [a, b, c, d] = some (.fz, .tup [a, b, c, d]) := fun _ _ _ _ => rfl
    have ad : fAdd (.tup [.str w0, someD w1, someD w2, .tup ((someP w3).map numD)]) (.tup [numD w4, numD w5]) = some (.fz, ruleT w0 w1 w2 w3 w4 w5) := rfl
    refine ⟨some (.fz, .tup ((someP w3).map numD)), ?_⟩
    generalize ruleT w0 w1 w2 w3 w4 w5 = RT at *
    generalize someD w1 = S1 at *
    generalize someD w2 = S2 at *
    generalize (someP w3).map numD = L3 at *
    generalize numD w4 = N4 at *
    generalize numD w5 = N5 at *
    generalize [D.str w0, .str w1, .str w2, .str w3, .str w4, .str w5] = WL at *
    have l6 : fLen [.lst WL] = some (.fz, .int 6) := l6
    simp [dbI, dbA, l6, e6, dl, ft, x0, x1, x2, x4, x5, c1, c2, c4, c5, p2, p4, ad]
  · have rn : (match ws with | [w0, w1, w2, w3, w4, w5] => ruleT w0 w1 w2 w3 w4 w5 | _ => D.non) = .non := by
      split
      · exact absurd rfl h6
      · rfl
    rw [rn]
    have e6 := fEq_int (ws.length : Int) 6
    have h6' : ¬ ((ws.length : Int) = 6) := by omega
    exact ⟨x6, by simp [dbI, l6, e6, h6']⟩
end
end LW
namespace LW
open TB
section
variable {Γ : Nat → Fn} {N : Nat} {s0 : Slot}
theorem b19_c (h : R62 N Γ) (hN5 : 5 ≤ N) {l : List Nat} (hl : Tx N l) (S : List Slot) : callsV (Γ 19) [.tup [rawD l]] S = .ok (.fz, .bl (ruleB (rawD l))) S := by
  have g : good (N + 1) 3 (.tup [rawD l]) := ⟨by simp, fun x hx => by
    have : x = rawD l := by simpa using hx
    rw [this]
    exact raw_good hN5 hl⟩
  have := h.b19 _ g
  rw [book_one] at this
  exact callsV_of (ds := [.tup [rawD l]]) this S
theorem strI_s (i : Nat) (hi : i ≤ 6) : fStrI [.int i] = some (.fz, .str (strI i)) := by
  show (if (i : Int).natAbs < 10 ^ 30 then kz (.str (strI i)) else none) = _
  rw [if_pos (by omega)]
  rfl
theorem strI_6 : ∀ i : Nat, i ≤ 6 → (strI (i : Int)).length ≤ 5 := by
  intro i hi
  have : i = 0 ∨ i = 1 ∨ i = 2 ∨ i = 3 ∨ i = 4 ∨ i = 5 ∨ i = 6 := by omega
  rcases this with rfl | rfl | rfl | rfl | rfl | rfl | rfl <;> decide
theorem add_t (i : Nat) (hi : i ≤ 6) : fAdd (.str [78, 111, 70, 111, 114, 109, 32, 78, 111, 84, 101, 120, 116, 32, 43, 32]) (.str (strI i)) = some (.fz, .str (noTextK ++ [32] ++ strI i)) := by
  have hl := strI_6 i hi
  generalize strI (i : Int) = T at *
  show (if ([78, 111, 70, 111, 114, 109, 32, 78, 111, 84, 101, 120, 116, 32, 43, 32] : List Nat).length + T.length ≤ sizeMax then kz (.str ([78, 111, 70, 111, 114, 109, 32, 78, 111, 84, 101, 120, 116, 32, 43, 32] ++ T)) else none) = _
  rw [if_pos (by simp only [List.length_cons, List.length_nil]; unfold sizeMax; omega)]
  rfl
theorem db_bad (h : R62 N Γ) (hN : N ≤ 80000) (hN5 : 5 ≤ N) {l : List Nat} (hl : Tx N l) {acc : List D} {i : Nat} (hi : i ≤ 6) {x4 x5 x6 : Slot} (hb : ruleOf l = none ∨ i = 6) :
    ∃ S', dbB Γ [s0, some (.li .fz, .lst acc), some (.fz, .int i), some (.fz, .str l), x4, x5, x6, none] = .ok (.rt (.fz, .tup [.non, .str (noTextK ++ [32] ++ strI i)])) (s0 :: S') := by
  have sp := split_sQ (s := l) (c := 32) (by have := hl.1; omega) (by decide)
  obtain ⟨y6, e⟩ := db_if h hN hl (s0 := s0) (acc := acc) (i := i) (x6 := x6)
  have cb := b19_c h hN5 hl
  have si := strI_s i hi
  have at' := add_t i hi
  have p := pair_t .non (.str (noTextK ++ [32] ++ strI i))
  have one : ∀ d : D, fTup [d] = some (.fz, .tup [d]) := fun _ => rfl
  have e6 := fEq_int (i : Int) 6
  rw [ruleOf_raw] at hb
  generalize noTextK ++ [32] ++ strI i = T at *
  generalize (splC 32 [] l).map D.str = WL at *
  refine ⟨[some (.li .fz, .lst acc), some (.fz, .int i), some (.fz, .str l), some (.fz, .lst WL), some (.fz, rawD l), y6, none], ?_⟩
  have tl : dbT Γ [s0, some (.li .fz, .lst acc), some (.fz, .int i), some (.fz, .str l), some (.fz, .lst WL), some (.fz, rawD l), y6, none] = .ok (.rt (.fz, .tup [.non, .str T])) [s0, some (.li .fz, .lst acc), some (.fz, .int i), some (.fz, .str l), some (.fz, .lst WL), some (.fz, rawD l), y6, none] := by
    by_cases h6 : (i : Int) = 6
    · simp [dbT, e6, h6, si, at', p]
      simp [h6] at si at'
      simp [si, at', p]
    · have rb : ruleB (rawD l) = false := by
        rcases hb with hb | hb
        · cases q : ruleB (rawD l) with
          | false => rfl
          | true => rw [q] at hb; cases hb
        · exact absurd (by omega) h6
      rw [rb] at cb
      simp [dbT, e6, h6, one, cb, si, at', p]
  unfold dbB
  rw [sSeq_ap]
  simp [sp, -sSeq_ap]
  rw [sSeq_ap]
  simp [-sSeq_ap]
  rw [sSeq_ap, e]
  exact tl
theorem db_ok (h : R62 N Γ) (hN : N ≤ 80000) (hN5 : 5 ≤ N) {l : List Nat} (hl : Tx N l) {acc : List D} {i : Nat} (hi : i ≠ 6) (ha : acc.length ≤ 1000000) {x4 x5 x6 : Slot} {r : D} (hr : ruleOf l = some r) :
    ∃ y4 y5 y6, dbB Γ [s0, some (.li .fz, .lst acc), some (.fz, .int i), some (.fz, .str l), x4, x5, x6, none] = .ok .nx [s0, some (.li .fz, .lst (acc ++ [r])), some (.fz, .int i), some (.fz, .str l), y4, y5, y6, none] := by
  have sp := split_sQ (s := l) (c := 32) (by have := hl.1; omega) (by decide)
  obtain ⟨y6, e⟩ := db_if h hN hl (s0 := s0) (acc := acc) (i := i) (x6 := x6)
  have cb := b19_c h hN5 hl
  have one : ∀ d : D, fTup [d] = some (.fz, .tup [d]) := fun _ => rfl
  have e6 := fEq_int (i : Int) 6
  have h6 : ¬ (i : Int) = 6 := by omega
  rw [ruleOf_raw] at hr
  generalize (splC 32 [] l).map D.str = WL at *
  have rb : ruleB (rawD l) = true := by
    cases q : ruleB (rawD l) with
    | true => rfl
    | false => rw [q] at hr; cases hr
  rw [rb] at cb hr
  have hr : some (rawD l) = some r := hr
  cases hr
  have ap : fAppend acc [rawD l] = some (.non, acc ++ [rawD l]) := if_pos (by unfold sizeMax; omega)
  refine ⟨some (.fz, .lst WL), some (.fz, rawD l), y6, ?_⟩
  have tl : dbT Γ [s0, some (.li .fz, .lst acc), some (.fz, .int i), some (.fz, .str l), some (.fz, .lst WL), some (.fz, rawD l), y6, none] = .ok .nx [s0, some (.li .fz, .lst (acc ++ [rawD l])), some (.fz, .int i), some (.fz, .str l), some (.fz, .lst WL), some (.fz, rawD l), y6, none] := by
    simp [dbT, e6, h6, one, cb, ap, ownL]
  unfold dbB
  rw [sSeq_ap]
  simp [sp, -sSeq_ap]
  rw [sSeq_ap]
  simp [-sSeq_ap]
  rw [sSeq_ap, e]
  exact tl
end
end LW
namespace LW
open TB
section
variable {Γ : Nat → Fn} {N : Nat} {s0 : Slot}
theorem readL_cons (i : Nat) (l : List Nat) (ls : List (List Nat)) : readL i (l :: ls) = match ruleOf l with
    | none => Rdg.bad i
    | some r => if i = 6 then .bad i else match readL (i + 1) ls with
      | .ok rs => .ok (r :: rs)
      | .bad j => .bad j := rfl
theorem due_loop (h : R62 N Γ) (hN : N ≤ 80000) (hN5 : 5 ≤ N) : ∀ (ls : List (List Nat)) (i : Nat) (acc : List D) (x2 x3 x4 x5 x6 : Slot), i ≤ 6 → (∀ l ∈ ls, Tx N l) → acc.length + ls.length ≤ 1000000 →
    (∀ rs, readL i ls = .ok rs → ∃ y2 y3 y4 y5 y6, loop (.tp [.nm 2, .nm 3]) (dbB Γ) (enumL i (ls.map D.str)) [s0, some (.li .fz, .lst acc), x2, x3, x4, x5, x6, none] = .ok .nx [s0, some (.li .fz, .lst (acc ++ rs)), y2, y3, y4, y5, y6, none]) ∧
    (∀ j, readL i ls = .bad j → ∃ S', loop (.tp [.nm 2, .nm 3]) (dbB Γ) (enumL i (ls.map D.str)) [s0, some (.li .fz, .lst acc), x2, x3, x4, x5, x6, none] = .ok (.rt (.fz, .tup [.non, .str (noTextK ++ [32] ++ strI j)])) (s0 :: S'))
  | [], i, acc, x2, x3, x4, x5, x6, _, _, _ => by
    refine ⟨fun rs h => ?_, fun j h => by cases h⟩
    cases h
    exact ⟨x2, x3, x4, x5, x6, by rw [List.append_nil]; rfl⟩
  | l :: ls, i, acc, x2, x3, x4, x5, x6, hi, ht, hl => by
    have tl := ht l List.mem_cons_self
    have put : Tg.put (.tp [.nm 2, .nm 3]) (.tup [.int i, .str l]) [s0, some (.li .fz, .lst acc), x2, x3, x4, x5, x6, none] = some [s0, some (.li .fz, .lst acc), some (.fz, .int i), some (.fz, .str l), x4, x5, x6, none] := by simp [Tg.put, Tg.puts]
    have en : enumL i ((l :: ls).map D.str) = .tup [.int i, .str l] :: enumL (i + 1) (ls.map D.str) := rfl
    simp only [List.length_cons] at hl
    rw [readL_cons]
    have bad : ruleOf l = none ∨ i = 6 → ∃ S', loop (.tp [.nm 2, .nm 3]) (dbB Γ) (enumL i ((l :: ls).map D.str)) [s0, some (.li .fz, .lst acc), x2, x3, x4, x5, x6, none] = .ok (.rt (.fz, .tup [.non, .str (noTextK ++ [32] ++ strI i)])) (s0 :: S') := fun hb => by
      obtain ⟨S', eb⟩ := db_bad h hN hN5 tl hi hb (s0 := s0) (acc := acc) (x4 := x4) (x5 := x5) (x6 := x6)
      refine ⟨S', ?_⟩
      rw [en]
      unfold loop
      rw [put]
      show R.bind (dbB Γ _) _ = _
      rw [eb]
      rfl
    cases e : ruleOf l with
    | none =>
      refine ⟨fun rs h => (by cases h), fun j h => ?_⟩
      cases h
      exact bad (.inl e)
    | some r =>
      simp only []
      by_cases h6 : i = 6
      · rw [if_pos h6]
        refine ⟨fun rs h => (by cases h), fun j h => ?_⟩
        cases h
        exact bad (.inr h6)
      · rw [if_neg h6]
        obtain ⟨y4, y5, y6, eb⟩ := db_ok h hN hN5 tl h6 (by omega) e (s0 := s0) (acc := acc) (x4 := x4) (x5 := x5) (x6 := x6)
        have ih := due_loop h hN hN5 ls (i + 1) (acc ++ [r]) (some (.fz, .int i)) (some (.fz, .str l)) y4 y5 y6 (by omega) (fun p hp => ht p (List.mem_cons_of_mem _ hp)) (by simp; omega)
        have st : loop (.tp [.nm 2, .nm 3]) (dbB Γ) (enumL i ((l :: ls).map D.str)) [s0, some (.li .fz, .lst acc), x2, x3, x4, x5, x6, none] = loop (.tp [.nm 2, .nm 3]) (dbB Γ) (enumL (i + 1) (ls.map D.str)) [s0, some (.li .fz, .lst (acc ++ [r])), some (.fz, .int i), some (.fz, .str l), y4, y5, y6, none] := by
          rw [en]
          conv => lhs; unfold loop
          rw [put]
          show R.bind (dbB Γ _) _ = _
          rw [eb]
          rfl
        rw [st]
        cases q : readL (i + 1) ls with
        | ok rs =>
          refine ⟨fun rs' h => ?_, fun j h => (by cases h)⟩
          cases h
          obtain ⟨z2, z3, z4, z5, z6, z⟩ := ih.1 rs q
          exact ⟨z2, z3, z4, z5, z6, by rw [z, List.append_assoc]; rfl⟩
        | bad j =>
          refine ⟨fun rs' h => (by cases h), fun j' h => ?_⟩
          cases h
          exact ih.2 j q
theorem due_322 (h : R62 N Γ) (hN : N ≤ 80000) (hN5 : 5 ≤ N) {t : List Nat} (ht : Tx N t) : runF 8 [] (mb_322 Γ) [(.fz, .str t)] = .ret (.fz, dueD t) [] := by
  refine FnP.eq (runF_wp (by rfl) ?_)
  have l0 : fLst [] = some (.li .fz, .lst []) := rfl
  obtain ⟨ll, lt⟩ := lines_tx ht
  have lo := due_loop h hN hN5 (s0 := some (.fz, .str t)) (linesOf t) 0 [] none none none none none (by omega) lt (by simp; omega)
  have ft : ∀ xs : List D, fTuple [.lst xs] = some (.fz, .tup xs) := fun _ => rfl
  have im := readL_imm (linesOf t) 0
  have it : itEnum (eIf (eBool (eOp fNe (eVar 0) (eCon (.str [])))) (eSplit (eVar 0) (eCon (.str [10]))) (eApp fLst [])) [some (.fz, .str t), some (.li .fz, .lst []), none, none, none, none, none, none] = .ok (enumL 0 ((linesOf t).map D.str)) [some (.fz, .str t), some (.li .fz, .lst []), none, none, none, none, none, none] := by
    have ne : fNe (.str t) (.str []) = some (.fz, .bl (!decide (t = []))) := by
      show kz (.bl (!(t == []))) = _
      have : (t == []) = decide (t = []) := by rw [Bool.eq_iff_iff]; simp
      rw [this]; rfl
    by_cases q : t = []
    · subst q
      have ne : fNe (.str []) (.str []) = some (.fz, .bl false) := rfl
      simp [ne, l0, itemsOf, linesOf]
    · have sp := split_sQ (s := t) (c := 10) (by have := ht.1; omega) (by decide)
      simp [ne, q, sp, itemsOf, linesOf]
  unfold dueD
  unfold dbB dbI dbA dbT at lo
  generalize (linesOf t).map D.str = LS at *
  cases q : readL 0 (linesOf t) with
  | ok rs =>
    obtain ⟨y2, y3, y4, y5, y6, z⟩ := lo.1 rs q
    have im := im rs q
    simp only [List.nil_append] at z
    have imt : D.imm (.tup [.tup rs, .str []]) = true := by show (D.imms rs && true) = true; rw [im]; rfl
    have p := pair_t (.tup rs) (.str [])
    show okP (mb_322 Γ [some (.fz, .str t), none, none, none, none, none, none, none]) _
    unfold mb_322
    rw [sSeq_ap, okP_bind]
    simp [l0, -sSeq_ap]
    rw [sSeq_ap, okP_bind, sFor_ap, it, rbind_ok]
    refine okP.of z ?_
    show okP (sRet _ _) _
    simp [frz, ft, p, imt, outsOf, Kd.isF]
  | bad j =>
    obtain ⟨S', z⟩ := lo.2 j q
    show okP (mb_322 Γ [some (.fz, .str t), none, none, none, none, none, none, none]) _
    unfold mb_322
    rw [sSeq_ap, okP_bind]
    simp [l0, -sSeq_ap]
    rw [sSeq_ap, okP_bind, sFor_ap, it, rbind_ok]
    refine okP.of z ?_
    simp [outsOf, Kd.isF]
end
end LW
namespace LW
open TB
mutual
theorem eqv_lay : ∀ (n : Nat) (d : D), d.lay n = true → D.eqv d d = true
  | _, .non, _ => rfl
  | _, .bl _, _ => by simp [D.eqv]
  | _, .int _, _ => by simp [D.eqv]
  | _, .str _, _ => by simp [D.eqv]
  | 0, .lst _, h => by simp [D.lay] at h
  | n + 1, .lst xs, h => by
    have h : D.lays n xs = true := h
    exact eqvs_lay n xs h
  | 0, .tup _, h => by simp [D.lay] at h
  | n + 1, .tup xs, h => by
    have h : D.lays n xs = true := h
    exact eqvs_lay n xs h
  | 0, .scr _, h => by simp [D.lay] at h
  | n + 1, .scr _, h => by simp [D.lay] at h
  | 0, .dic _, h => by simp [D.lay] at h
  | n + 1, .dic _, h => by simp [D.lay] at h
  | 0, .dit _, h => by simp [D.lay] at h
  | n + 1, .dit _, h => by simp [D.lay] at h
  | 0, .ldc _, h => by simp [D.lay] at h
  | n + 1, .ldc _, h => by simp [D.lay] at h
  | 0, .ob _ _, h => by simp [D.lay] at h
  | n + 1, .ob _ _, h => by simp [D.lay] at h
  | 0, .fn _, h => by simp [D.lay] at h
  | n + 1, .fn _, h => by simp [D.lay] at h
theorem eqvs_lay : ∀ (n : Nat) (xs : List D), D.lays n xs = true → D.eqvs xs xs = true
  | _, [], _ => rfl
  | n, x :: xs, h => by
    have h : (x.lay n && D.lays n xs) = true := by cases n <;> exact h
    rw [Bool.and_eq_true] at h
    show (D.eqv x x && D.eqvs xs xs) = true
    rw [eqv_lay n x h.1, eqvs_lay n xs h.2]
    rfl
end
theorem ne_lay {d : D} (h : d.lay 60 = true) : fNe d d = some (.fz, .bl false) := by
  have e : eqOk d d = true := by unfold eqOk; rw [h]; simp
  unfold fNe
  rw [if_pos e, eqv_lay 60 d h]
  rfl
theorem ruleOf_good {N : Nat} (hN : 5 ≤ N) {t : List Nat} {r : D} (ht : Tx N t) (h : ruleOf t = some r) : good (N + 1) 2 r := by
  have pm := ht.parts 32
  unfold ruleOf at h
  generalize splC 32 [] t = ws at *
  split at h
  · split at h
    · cases h
      exact rule_good hN (pm _ (by simp)) (pm _ (by simp)) (pm _ (by simp)) (pm _ (by simp))
    · cases h
  · cases h
theorem readL_good {N : Nat} (hN : 5 ≤ N) : ∀ (ls : List (List Nat)) (i : Nat) (rs : List D), (∀ l ∈ ls, Tx N l) → readL i ls = .ok rs → ∀ r ∈ rs, good (N + 1) 2 r
  | [], _, rs, _, h, r, hr => by cases h; cases hr
  | l :: ls, i, rs, ht, h, r, hr => by
    have h : (match ruleOf l with
      | none => Rdg.bad i
      | some r => if i = 6 then .bad i else match readL (i + 1) ls with
        | .ok rs => .ok (r :: rs)
        | .bad j => .bad j) = .ok rs := h
    cases e : ruleOf l with
    | none => rw [e] at h; cases h
    | some r0 =>
      rw [e] at h
      simp only [] at h
      by_cases h6 : i = 6
      · rw [if_pos h6] at h; cases h
      · rw [if_neg h6] at h
        cases q : readL (i + 1) ls with
        | ok rs' =>
          rw [q] at h
          cases h
          rcases List.mem_cons.mp hr with rfl | hr
          · exact ruleOf_good hN (ht l List.mem_cons_self) e
          · exact readL_good hN ls (i + 1) rs' (fun p hp => ht p (List.mem_cons_of_mem _ hp)) q r hr
        | bad j => rw [q] at h; cases h
theorem due_lay {N : Nat} (hN : 5 ≤ N) {t : List Nat} (ht : Tx N t) : (dueD t).lay 60 = true := by
  obtain ⟨_, lt⟩ := lines_tx ht
  unfold dueD
  cases q : readL 0 (linesOf t) with
  | ok rs =>
    have g := readL_good hN (linesOf t) 0 rs lt q
    show (D.lays 58 rs && (D.lay 59 (.str []) && D.lays 59 [])) = true
    rw [lays_all fun d hd => lay_mono (by omega) (good_lay (g d hd))]
    rfl
  | bad j =>
    show (true && ((noTextK ++ [32] ++ strI j).all (· < 1114112) && true)) = true
    have h : (noTextK ++ [32] ++ strI j).all (· < 1114112) = true := by
      rw [List.all_eq_true]
      intro c hc
      rcases List.mem_append.mp hc with hc | hc
      · have : ∀ c ∈ noTextK ++ [32], c < 1114112 := by decide
        exact decide_eq_true (this c hc)
      · have := (strI_ws j).2 c hc
        unfold Sg at this
        exact decide_eq_true (by omega)
    rw [h]
    rfl
theorem nm_ws {s : List Nat} (h : nameS s = true) : Ws s ∧ s.length ≤ 8 := by
  unfold nameS at h
  simp only [Bool.and_eq_true, decide_eq_true_eq] at h
  obtain ⟨⟨h1, h2⟩, h3⟩ := h
  refine ⟨⟨fun e => by rw [e] at h1; simp at h1, fun c hc => .inl ?_⟩, h2⟩
  have m : c ∈ abc := by
    have := List.all_eq_true.mp h3 c hc
    simpa using this
  have : ∀ c ∈ abc, 97 ≤ c ∧ c ≤ 122 := by decide
  exact this c m
theorem within_nat {i a b : Int} (h : withinB (.int i) a b = true) (ha : 0 ≤ a) (hb : b ≤ 1000000) : ∃ n : Nat, i = n ∧ n ≤ 1000000 := by
  have h : (decide (a ≤ i) && decide (i ≤ b)) = true := h
  simp only [Bool.and_eq_true, decide_eq_true_eq] at h
  exact ⟨i.toNat, by omega, by omega⟩
theorem rn_of {r : Rule} (h : ruleB r.enc = true) (hk : ∀ x ∈ r.ks, nameS x = true) (hp : ∀ x ∈ r.ps, nameS x = true) (g : good 9 2 r.enc) : Rn r := by
  have h0 := h
  have h : rule6 (.str (if r.lt then tLet else tBar)) (.tup (r.ks.map D.str)) (.tup (r.ps.map D.str)) (.tup (r.ds.map D.int)) (.int r.lo) (.int r.hi) = true := h
  simp only [rule6, Bool.and_eq_true] at h
  obtain ⟨h1, h2, h3, h4, h5, h6⟩ := h
  have lo := within_nat h5 (by omega) (by omega)
  have hi : ∃ n : Nat, r.hi = n ∧ n ≤ 1000000 := within_nat (show withinB (.int r.hi) r.lo 1000000 = true from h6) (by obtain ⟨n, e, _⟩ := lo; omega) (by omega)
  have h4 : ((r.ds.map D.int).all (fun d => withinB d 0 6) && riseB (r.ds.map D.int)) = true := h4
  rw [Bool.and_eq_true] at h4
  have ds : ∀ i ∈ r.ds, ∃ n : Nat, i = n ∧ n ≤ 1000000 := fun i hi => within_nat (List.all_eq_true.mp h4.1 (.int i) (List.mem_map.mpr ⟨i, hi, rfl⟩)) (by omega) (by omega)
  have gt := fun {x : D} (hx : x ∈ [D.str (if r.lt then tLet else tBar), .tup (r.ks.map D.str), .tup (r.ps.map D.str), .tup (r.ds.map D.int), .int r.lo, .int r.hi]) => g.2 x hx
  have gk : (r.ks.map D.str).length ≤ 9 := (gt (x := .tup (r.ks.map D.str)) (by simp)).1
  have gp : (r.ps.map D.str).length ≤ 9 := (gt (x := .tup (r.ps.map D.str)) (by simp)).1
  have gd : (r.ds.map D.int).length ≤ 9 := (gt (x := .tup (r.ds.map D.int)) (by simp)).1
  rw [List.length_map] at gk gp gd
  exact { ks := fun s hs => by have := (nm_ws (hk s hs)).2; omega
          ps := fun s hs => by have := (nm_ws (hp s hs)).2; omega
          ds := ds, lo := lo, hi := hi, kl := gk, pl := gp, dl := gd
          kw := fun s hs => (nm_ws (hk s hs)).1, pw := fun s hs => (nm_ws (hp s hs)).1, rb := h0
          k8 := fun s hs => (nm_ws (hk s hs)).2, p8 := fun s hs => (nm_ws (hp s hs)).2 }
theorem book_rn {xs : List D} (g : good 9 3 (.tup xs)) (hb : bookB (.tup xs) = true) : ∃ b : List Rule, D.tup xs = bookE b ∧ b.length ≤ 6 ∧ ∀ r ∈ b, Rn r := by
  obtain ⟨b, e, bl, br⟩ := book_of hb
  have e2 : xs = b.map Rule.enc := by injection e
  have hb : (decide (xs.length ≤ 6) && xs.all ruleB) = true := hb
  rw [Bool.and_eq_true] at hb
  refine ⟨b, e, bl, fun r hr => ?_⟩
  have m : r.enc ∈ xs := by rw [e2]; exact List.mem_map.mpr ⟨r, hr, rfl⟩
  exact rn_of (List.all_eq_true.mp hb.2 _ m) (br r hr).1 (br r hr).2 (g.2 _ m)
section
variable {Γ : Nat → Fn}
def X284 (F : Fn) : Prop := ∀ d, fIsi .str d = some (.fz, .bl false) → F [(.fz, d)] = .ret (.fz, refD) []
theorem th_tx {t : List Nat} (h : Du 60000 Γ) (ht : Tx 60000 t) : Th Γ (.str t) := ⟨true, dueD t, rfl, h.a t ht, h.c t ht, by simpa using h.b t ht⟩
theorem th_x {d : D} (h : X284 (Γ 319)) (hd : fIsi .str d = some (.fz, .bl false)) : Th Γ d := ⟨false, refD, hd, h d hd, ne_lay (by decide), by simp⟩
theorem th_ten (h : Du 60000 Γ) (hx : X284 (Γ 319)) {b : List Rule} {t : List Nat} : ∀ d ∈ tenL (bookE b) t, Th Γ d := by
  intro d hd
  unfold tenL at hd
  simp only [List.mem_cons, List.not_mem_nil, or_false] at hd
  rcases hd with rfl | rfl | rfl | rfl | rfl | rfl | rfl | rfl | rfl | rfl
  · exact th_x hx rfl
  · exact th_x hx rfl
  · exact th_x hx rfl
  · exact th_x hx rfl
  · exact th_x hx rfl
  all_goals exact th_tx h ⟨by decide, by decide⟩
end
end LW
namespace LW
open TB
def wideT : List Nat := [98, 97, 114, 32, 97, 44, 98, 32, 42, 32, 48, 44, 49, 44, 50, 44, 51, 44, 52, 44, 53, 44, 54, 32, 49, 32, 49, 48, 48, 48, 48, 48, 48]
section
variable {Γ : Nat → Fn}
structure Law62 (Γ : Nat → Fn) : Prop where
  d6 : DrawsOk (Γ 6)
  n37 : NamesOk (Γ 37)
  b10 : ∀ kd (s1 s2 : List (List Nat)), DI kd → 1 ≤ s1.length → s1.length ≤ 1000 → 1 ≤ s2.length → s2.length ≤ 1000 → (∀ s ∈ s1, nameS s = true) → (∀ s ∈ s2, nameS s = true) → FnP (Γ 10) [kd, (.fz, .lst (s1.map D.str)), (.fz, .lst (s2.map D.str))] BookQ
  s320 : S33 (Γ 320)
  t35 : ∀ b : List Rule, good 9 3 (bookE b) → bookB (bookE b) = true → (∀ r ∈ b, Rn r) → b.length ≤ 6 → Γ 35 [(.fz, bookE b)] = .ret (.fz, .str (bookTx b)) []
  du : Du 60000 Γ
  x : X284 (Γ 319)
  sp : SpOk 60000 (Γ 312)
  w0 : Γ 319 [(.fz, .str (joinD [10] (List.replicate 7 wideT)))] = .ret (.fz, .tup [.non, .str (noTextK ++ [32] ++ strI 6)]) []
  w1 : ∃ xs, Γ 284 [(.fz, .str (joinD [10] (List.replicate 6 wideT)))] = .ret (.fz, .tup xs) [] ∧ xs.length = 6
theorem lw_lines (h : S33 (Γ 320)) {b : List Rule} (g : ∀ r ∈ b, Rn r) (hl : b.length ≤ 6) {s0 s1 s2 s3 s6 s7 s8 s9 s10 s11 s12 s13 : Slot} (z12 : fzAt [s12] 0 = true) (z13 : fzAt [s13] 0 = true) :
    okP (sFor (itSeq (eVar 4)) (.nm 6) (lwL Γ) (lS s0 s1 s2 s3 (some (.fz, bookE b)) (some (.li .fz, .lst [])) s6 s7 s8 s9 s10 s11 s12 s13)) fun f S' => f = .nx ∧ ∃ t6 t10, S' = lS s0 s1 s2 s3 (some (.fz, bookE b)) (some (.li .fz, .lst ((b.map ruleTx).map D.str))) t6 s7 s8 s9 t10 s11 s12 s13 := by
  have it : itemsOf (bookE b) = some (b.map Rule.enc) := rfl
  rw [sFor_ap]
  generalize hB : bookE b = B at *
  simp [lS, it, -Prod.exists, -Prod.forall]
  refine loop_wp (fun ds S => ∃ (done rest : List Rule) (t6 t10 : Slot), ds = rest.map Rule.enc ∧ b = done ++ rest ∧ S = lS s0 s1 s2 s3 (some (.fz, B)) (some (.li .fz, .lst ((done.map ruleTx).map D.str))) t6 s7 s8 s9 t10 s11 s12 s13) ?_ ⟨[], b, s6, s10, rfl, rfl, rfl⟩ ?_ ?_
  · rintro ds S ⟨_, _, _, _, _, _, rfl⟩; simp [lS]
  · rintro d ds S ⟨done, rest, t6, t10, e1, e2, rfl⟩
    cases rest with
    | nil => cases e1
    | cons r rest =>
      cases e1
      have hr : r ∈ b := by rw [e2]; simp
      have ld : done.length ≤ 6 := by rw [e2] at hl; simp at hl; omega
      have z := lw_line h (g r hr).toRw (s0 := s0) (s1 := s1) (s2 := s2) (s3 := s3) (s4 := some (.fz, B)) (s7 := s7) (s8 := s8) (s9 := s9) (s10 := t10) (s11 := s11) (s12 := s12) (s13 := s13) (acc := (done.map ruleTx).map D.str) (by simp; omega) z12 z13
      refine z.mono ?_
      rintro _ _ ⟨rfl, u, rfl⟩
      refine ⟨rfl, done ++ [r], rest, some (.fz, r.enc), u, rfl, by rw [e2]; simp, ?_⟩
      simp
  · rintro S ⟨done, rest, t6, t10, e1, e2, rfl⟩
    cases rest with
    | cons r rest => cases e1
    | nil =>
      rw [List.append_nil] at e2
      subst e2
      exact ⟨rfl, t6, t10, by simp [lS]⟩
end
end LW
namespace LW
open TB
section
variable {Γ : Nat → Fn}
theorem lw_tail (h : Law62 Γ) {b : List Rule} (gb : good 9 3 (bookE b)) (bB : bookB (bookE b) = true) (g : ∀ r ∈ b, Rn r) (hl : b.length ≤ 6) {kd : KD} (hd : DI kd) {s0 s1 s2 s6 s7 s8 s9 s10 s11 s12 s13 : Slot} :
    okP (lwC Γ (lS s0 s1 s2 (some kd) (some (.fz, bookE b)) (some (.li .fz, .lst ((b.map ruleTx).map D.str))) s6 s7 s8 s9 s10 s11 s12 s13)) fun f S' => f = .nx ∧ ∃ t3 t7 t8 t9 t11, S' = lS s0 s1 s2 t3 (some (.fz, bookE b)) (some (.li .fz, .lst ((b.map ruleTx).map D.str))) s6 t7 t8 t9 s10 t11 s12 s13 := by
  have j := join_s (c := 10) (ls := b.map ruleTx) (fun x hx => by
    obtain ⟨r, hr, rfl⟩ := List.mem_map.mp hx
    have := ruleTx_len (g r hr)
    omega) (by rw [List.length_map]; omega)
  have c35 : ∀ S, callsV (Γ 35) [bookE b] S = .ok (.fz, .str (bookTx b)) S := fun S => callsV_of (ds := [bookE b]) (h.t35 b gb bB g hl) S
  have tx := bookTx_tx g hl
  have tx6 : Tx 60000 (bookTx b) := tx_le tx (by omega)
  have bb := book_back (fun r hr => (g r hr).toRg) hl
  have c319 : ∀ S, callsV (Γ 319) [.str (bookTx b)] S = .ok (.fz, .tup [bookE b, .str []]) S := fun S => by
    rw [← bb]
    exact callsV_of (ds := [.str (bookTx b)]) (h.du.a _ tx6) S
  have n2 : fNe (.tup [bookE b, .str []]) (.tup [bookE b, .str []]) = some (.fz, .bl false) := by rw [← bb]; exact h.du.c _ tx6
  have n1 : fNe (.str (bookTx b)) (.str (bookTx b)) = some (.fz, .bl false) := ne_lay (by
    show (bookTx b).all (· < 1114112) = true
    rw [List.all_eq_true]
    exact fun c hc => decide_eq_true (tx.2 c hc))
  have p := pair_t (bookE b) (.str [])
  have z2 := lw_turns h.du h.sp hd tx (s0 := s0) (s1 := s1) (s2 := s2) (s4 := some (.fz, bookE b)) (s5 := some (.li .fz, .lst ((b.map ruleTx).map D.str))) (s6 := s6) (s8 := s8) (s9 := s9) (s10 := s10) (s11 := s11) (s12 := s12) (s13 := s13)
  have t10 : ∀ t, ∀ d ∈ tenL (bookE b) t, Th Γ d := fun t => th_ten h.du h.x
  unfold bookTx at *
  generalize (b.map ruleTx).map D.str = L at *
  generalize joinD [10] (b.map ruleTx) = J at *
  generalize bookE b = BE at *
  unfold lwC
  rw [sSeq_ap, okP_bind]
  simp [lS, j, frz, -sSeq_ap, -cb1, -cb2, -Prod.exists, -Prod.forall]
  rw [sSeq_ap, okP_bind]
  simp [lS, c35, c319, n1, n2, p, -sSeq_ap, -cb1, -cb2, -Prod.exists, -Prod.forall]
  rw [sSeq_ap, okP_bind]
  refine z2.mono ?_
  rintro _ _ ⟨rfl, k2, t2, t8, h2, _, rfl⟩
  refine (lw_ten (t10 t2)).mono ?_
  rintro _ _ ⟨rfl, t9, t11, rfl⟩
  exact ⟨rfl, some k2, _, t8, t9, t11, rfl⟩
theorem lw_cell (h : Law62 Γ) {ns : List Int} {k : Int} (k0 : 0 ≤ k) (k1 : k ≤ 1000) {s1 s3 s4 s5 s6 s7 s8 s9 s10 s11 : Slot} :
    okP (lwB Γ (lS (some (.fz, .scr ns)) s1 (some (.fz, .int k)) s3 s4 s5 s6 s7 s8 s9 s10 s11 none none)) fun f S' => f = .nx ∧ ∃ t3 t4 t5 t6 t7 t8 t9 t10 t11, S' = lS (some (.fz, .scr ns)) s1 (some (.fz, .int k)) t3 t4 t5 t6 t7 t8 t9 t10 t11 none none := by
  obtain ⟨d1, e1, h1⟩ := h.d6 ns k k0 k1
  have c6 : ∀ S, callsV (Γ 6) [.scr ns, .int k] S = .ok d1 S := fun S => callsV_of (ds := [.scr ns, .int k]) e1 S
  have l0 : fLst [] = some (.li .fz, .lst []) := rfl
  unfold lwB
  rw [sSeq_ap, okP_bind]
  simp [lS, c6, -sSeq_ap, -cb1, -cb2, -Prod.exists, -Prod.forall]
  rw [sSeq_ap, okP_bind]
  try simp [-sSeq_ap, -cb1, -cb2, -Prod.exists, -Prod.forall]
  refine call2_wp rfl ?_
  try simp [-sSeq_ap, -cb1, -cb2, -Prod.exists, -Prod.forall]
  refine call1_wp rfl ?_
  simp [h1, -sSeq_ap, -cb1, -cb2, -Prod.exists, -Prod.forall]
  refine (h.n37 d1 3 h1 (by omega) (by omega)).mono ?_
  rintro _ _ ⟨u1, d2, rfl, rfl, h2, l1, n1, _, _⟩
  refine ⟨d2, rfl, h2, ?_⟩
  simp at l1
  try simp [-sSeq_ap, -cb1, -cb2, -Prod.exists, -Prod.forall]
  refine call1_wp rfl ?_
  simp [h2, -sSeq_ap, -cb1, -cb2, -Prod.exists, -Prod.forall]
  refine (h.n37 d2 3 h2 (by omega) (by omega)).mono ?_
  rintro _ _ ⟨u2, d3, rfl, rfl, h3, l2, n2, _, _⟩
  refine ⟨d3, rfl, h3, ?_⟩
  simp at l2
  simp [h3, -sSeq_ap, -cb1, -cb2, -Prod.exists, -Prod.forall]
  refine (h.b10 d3 u1 u2 h3 (by omega) (by omega) (by omega) (by omega) n1 n2).mono ?_
  rintro _ _ ⟨xs, d4, rfl, rfl, h4, g, bB⟩
  refine ⟨d4, rfl, h4, ?_⟩
  obtain ⟨b, eb, bl, br⟩ := book_rn g bB
  rw [eb]
  try simp [-sSeq_ap, -cb1, -cb2, -Prod.exists, -Prod.forall]
  rw [sSeq_ap, okP_bind]
  simp [l0, -sSeq_ap, -cb1, -cb2, -Prod.exists, -Prod.forall]
  rw [sSeq_ap, okP_bind]
  refine (lw_lines h.s320 br bl (s0 := some (.fz, .scr ns)) (s1 := s1) (s2 := some (.fz, .int k)) (s3 := some d4) (s6 := s6) (s7 := s7) (s8 := s8) (s9 := s9) (s10 := s10) (s11 := s11) (s12 := none) (s13 := none) rfl rfl).mono ?_
  rintro _ _ ⟨rfl, t6, t10, rfl⟩
  refine (lw_tail h (by rw [← eb]; exact g) (by rw [← eb]; exact bB) br bl h4).mono ?_
  rintro _ _ ⟨rfl, t3, t7, t8, t9, t11, rfl⟩
  exact ⟨rfl, t3, _, _, t6, t7, t8, t9, t10, t11, rfl⟩
theorem law_323 (h : Law62 Γ) (ns : List Int) (hl : ns.length ≤ 63) : FnP (runF 14 [] (mb_323 Γ)) [(.fz, .scr ns)] fun r o => r = (.fz, .bl true) ∧ o = [] := by
  obtain ⟨m, hm, m0, m1⟩ : ∃ m : Int, fMax2 [.int 1, .int (if (ns.length : Int) < 20 then (ns.length : Int) else 20)] = some (.fz, .int m) ∧ 0 ≤ m ∧ m ≤ 40 := by
    refine ⟨_, rfl, ?_⟩
    split <;> split <;> omega
  have hlim : m.natAbs < limN := by unfold limN; omega
  have mn : fMin2 [.int 20, .int ns.length] = some (.fz, .int (if (ns.length : Int) < 20 then (ns.length : Int) else 20)) := rfl
  have ln : fLen [.scr ns] = some (.fz, .int ns.length) := rfl
  have f1 : fLst [.str wideT] = some (.li .fz, .lst [.str wideT]) := rfl
  have mu : fMul (.lst [.str wideT]) (.int 7) = some (.li .fz, .lst ((List.replicate 7 wideT).map D.str)) := rfl
  have sl : fSl (.lst ((List.replicate 7 wideT).map D.str)) none (some 6) = some (.li .fz, .lst ((List.replicate 6 wideT).map D.str)) := rfl
  have lw7 : ∀ n, ∀ x ∈ List.replicate n wideT, x.length ≤ 10000 := fun n x hx => by rw [List.eq_of_mem_replicate hx]; decide
  have j7 := join_s (c := 10) (ls := List.replicate 7 wideT) (lw7 7) (by simp)
  have j6 := join_s (c := 10) (ls := List.replicate 6 wideT) (lw7 6) (by simp)
  have c319 : ∀ S, callsV (Γ 319) [.str (joinD [10] (List.replicate 7 wideT))] S = .ok (.fz, .tup [.non, .str (noTextK ++ [32] ++ strI 6)]) S := fun S => callsV_of (ds := [.str (joinD [10] (List.replicate 7 wideT))]) h.w0 S
  obtain ⟨xs, w1, lx⟩ := h.w1
  have c284 : ∀ S, callsV (Γ 284) [.str (joinD [10] (List.replicate 6 wideT))] S = .ok (.fz, .tup xs) S := fun S => callsV_of (ds := [.str (joinD [10] (List.replicate 6 wideT))]) w1 S
  have p : fTup [.non, .str [78, 111, 70, 111, 114, 109, 32, 78, 111, 84, 101, 120, 116, 32, 43, 32, 54]] = some (.fz, .tup [.non, .str (noTextK ++ [32] ++ strI 6)]) := by
    have e : noTextK ++ [32] ++ strI 6 = [78, 111, 70, 111, 114, 109, 32, 78, 111, 84, 101, 120, 116, 32, 43, 32, 54] := by decide
    rw [e]; rfl
  have n1 : fNe (.tup [.non, .str (noTextK ++ [32] ++ strI 6)]) (.tup [.non, .str (noTextK ++ [32] ++ strI 6)]) = some (.fz, .bl false) := ne_lay (by decide)
  have lx6 : fLen [.tup xs] = some (.fz, .int 6) := by show kz (.int xs.length) = _; rw [lx]; rfl
  have n6 : fNe (.int 6) (.int 6) = some (.fz, .bl false) := rfl
  refine runF_wp (by rfl) ?_
  rw [lw_323]
  show okP (sSeq (sSet 1 (eFr (eOp fMul (eApp fLst [(eCon (.str wideT))]) (eCon (.int 7))))) _ _) _
  generalize (List.replicate 7 wideT).map D.str = L7 at *
  generalize (List.replicate 6 wideT).map D.str = L6 at *
  generalize joinD [10] (List.replicate 7 wideT) = J7 at *
  generalize joinD [10] (List.replicate 6 wideT) = J6 at *
  generalize D.tup [.non, .str (noTextK ++ [32] ++ strI 6)] = RR at *
  generalize wideT = WT at *
  rw [sSeq_ap, okP_bind]
  simp [f1, mu, -sSeq_ap, -cb1, -cb2, -Prod.exists, -Prod.forall]
  rw [sSeq_ap, okP_bind]
  simp [j7, j6, sl, eOpt, c319, c284, p, n1, lx6, n6, -sSeq_ap, -cb1, -cb2, -Prod.exists, -Prod.forall]
  rw [sSeq_ap, okP_bind, sFor_ap, okP_bind]
  simp [-sSeq_ap, hlim, mn, ln, hm, -Prod.exists, -Prod.forall]
  refine loop_wp (fun ds S => (∀ d ∈ ds, ∃ k : Int, d = .int k ∧ 0 ≤ k ∧ k ≤ 1000) ∧ ∃ t2 t3 t4 t5 t6 t7 t8 t9 t10 t11, S = lS (some (.fz, .scr ns)) (some (.fz, .lst L7)) t2 t3 t4 t5 t6 t7 t8 t9 t10 t11 none none) ?_ ?_ ?_ ?_
  · rintro ds S ⟨_, _, _, _, _, _, _, _, _, _, _, rfl⟩; simp [lS]
  · exact ⟨fun d hd => by obtain ⟨i, hi, rfl⟩ := mem_rangeL hd; exact ⟨_, rfl, by omega, by omega⟩, none, none, none, none, none, none, none, none, none, none, rfl⟩
  · rintro d ds S ⟨hds, t2, t3, t4, t5, t6, t7, t8, t9, t10, t11, rfl⟩
    obtain ⟨k, rfl, k0, k1⟩ := hds d List.mem_cons_self
    refine (lw_cell h k0 k1 (ns := ns) (s1 := some (.fz, .lst L7)) (s3 := t3) (s4 := t4) (s5 := t5) (s6 := t6) (s7 := t7) (s8 := t8) (s9 := t9) (s10 := t10) (s11 := t11)).mono ?_
    rintro _ _ ⟨rfl, x3, x4, x5, x6, x7, x8, x9, x10, x11, rfl⟩
    exact ⟨rfl, fun d hd => hds d (List.mem_cons_of_mem _ hd), _, x3, x4, x5, x6, x7, x8, x9, x10, x11, rfl⟩
  · rintro S ⟨_, t2, t3, t4, t5, t6, t7, t8, t9, t10, t11, rfl⟩
    simp [lS, outsOf, Kd.isF]
end
end LW
namespace LW
open TB
theorem D7 (k : Nat) : DrawOk (callF (k + 1) 7) := draw_ok
theorem D6 (k : Nat) : DrawsOk (callF (k + 1) 6) := draws_ok
theorem S8 (k : Nat) : S8T (callF (k + 2) 8) := fun kd src m hd a b c e => some_str (D7 k) hd a b c e
theorem I8 (k : Nat) : ∀ kd (src : List Int) m, DI kd → 1 ≤ src.length → src.length ≤ 1000 → 0 ≤ m → m ≤ 60 → FnP (callF (k + 2) 8) [kd, (.fz, .lst (src.map D.int)), (.fz, .int m)] (SomeQ D.int sortI src m) := fun kd src m hd a b c e => some_int (D7 k) hd a b c e
theorem N37 (k : Nat) : NamesOk (callF (k + 2) 37) := names_ok (D7 k)
theorem R9 (k : Nat) {s1 s2 : List (List Nat)} (l1 : 1 ≤ s1.length) (l1' : s1.length ≤ 1000) (l2 : 1 ≤ s2.length) (l2' : s2.length ≤ 1000) (n1 : ∀ s ∈ s1, nameS s = true) (n2 : ∀ s ∈ s2, nameS s = true) :
    ∀ kd far, DI kd → 1 ≤ far → far ≤ 1000000 → FnP (callF (k + 3) 9) [kd, (.fz, .lst (s1.map D.str)), (.fz, .lst (s2.map D.str)), (.fz, .int far)] RuleQ := fun kd far hd f0 f1 => rule_9 (D7 (k + 1)) (S8 k) (I8 k) hd l1 l1' l2 l2' n1 n2 f0 f1
theorem G0 (k : Nat) {b n : Nat} {d : D} {lo hi : Int} (h : good b n d) : callF (k + 1) 0 [(.fz, d), (.fz, .int lo), (.fz, .int hi)] = .ret (.fz, .bl (withinB d lo hi)) [] := within_0 h
theorem G17 (k : Nat) {b n : Nat} {d : D} {lo hi : Int} (h : good b n d) : callF (k + 1) 17 [(.fz, d), (.fz, .int lo), (.fz, .int hi)] = .ret (.fz, .bl (withinB d lo hi)) [] := within_17 h
theorem G2 (k : Nat) (xs : List D) (h : like xs) (hl : xs.length ≤ 100000) : callF (k + 1) 2 [(.fz, .tup xs)] = .ret (.fz, .bl (riseB xs)) [] := rise_2W h hl
theorem G15 (k : Nat) (xs : List D) (few many : Int) (h : few ≤ xs.length → (xs.length : Int) ≤ many → like xs) (hl : xs.length ≤ 100000) : callF (k + 1) 15 [(.fz, .tup xs), (.fz, .int few), (.fz, .int many)] = .ret (.fz, .bl (decide (few ≤ xs.length) && decide ((xs.length : Int) ≤ many) && riseB xs)) [] := rise_15W h hl
theorem G1 (k : Nat) {b n : Nat} {d : D} (hb : b ≤ 100000) (h : good b n d) : callF (k + 1) 1 [(.fz, d)] = .ret (.fz, .bl (nameB d)) [] := name_1W hb h
theorem G14 (k : Nat) {b n : Nat} {d : D} (hb : b ≤ 100000) (h : good b n d) : callF (k + 1) 14 [(.fz, d)] = .ret (.fz, .bl (nameB d)) [] := name_14W hb h
theorem G3 (k : Nat) {b n : Nat} {d : D} {few many : Int} (hb : b ≤ 100000) (h : good b n d) : callF (k + 2) 3 [(.fz, d), (.fz, .int few), (.fz, .int many)] = .ret (.fz, .bl (namesB d few many)) [] := names_3W (fun d n h => G1 k hb h) (G2 k) hb h
theorem G16 (k : Nat) {b n : Nat} {d : D} {few many : Int} (hb : b ≤ 100000) (hn : n ≤ 50) (h : good b n d) : callF (k + 2) 16 [(.fz, d), (.fz, .int few), (.fz, .int many)] = .ret (.fz, .bl (namesB d few many)) [] := names_16W (fun d n h => G14 k hb h) (G15 k) hb hn h
theorem G4 (k : Nat) {b n : Nat} {d : D} (hb : b ≤ 100000) (h : good b n d) : callF (k + 3) 4 [(.fz, d)] = .ret (.fz, .bl (ruleB d)) [] := rule_4W (fun d n lo hi h => G0 (k + 1) h) (G2 (k + 1)) (fun d n f m h => G3 k hb h) hb h
theorem G18 (k : Nat) {b n : Nat} {d : D} (hb : b ≤ 100000) (hn : n ≤ 50) (h : good b n d) : callF (k + 3) 18 [(.fz, d)] = .ret (.fz, .bl (ruleB d)) [] := rule_18W (fun d n lo hi h => G17 (k + 1) h) (G15 (k + 1)) (fun d n f m hn h => G16 k hb hn h) hb hn h
theorem G5 (k : Nat) {b n : Nat} {d : D} (hb : b ≤ 1000) (h : good b n d) : callF (k + 4) 5 [(.fz, d)] = .ret (.fz, .bl (bookB d)) [] := book_5 (fun d n h => G4 k (by omega) h) hb h
theorem G19 (k : Nat) {b n : Nat} {d : D} (hb : b ≤ 100000) (hn : n ≤ 50) (h : good b n d) : callF (k + 4) 19 [(.fz, d)] = .ret (.fz, .bl (bookB d)) [] := book_19W (fun d n hn h => G18 k hb hn h) hb hn h
theorem r62 (k : Nat) : R62 60000 (callF (k + 5)) := ⟨fun w h => num_280 (by have := h.1; omega), fun w h => num_304 (by have := h.1; omega) h.2, fun w h => some_282 (by have := h.1; omega), fun w h => some_321 (by have := h.1; omega), fun d h => G4 (k + 2) (by omega) h, fun d h => G19 (k + 1) (by omega) (by omega) h⟩
theorem A283 (k : Nat) (t : List Nat) (h : Tx 60000 t) : callF (k + 6) 283 [(.fz, .str t)] = .ret (.fz, optD (ruleOf t)) [] := rule_283 (r62 k) (by omega) (by omega) h
theorem A284 (k : Nat) (t : List Nat) (h : Tx 60000 t) : callF (k + 7) 284 [(.fz, .str t)] = match readL 0 (linesOf t) with | .ok rs => .ret (.fz, .tup rs) [] | .bad j => .exc ⟨22, .int j⟩ [] :=
  read_284 (Γ := callF (k + 6)) (N := 60000) (fun t h => lines_281 (Γ := callF (k + 5)) (by have := h.1; omega)) (A283 k) (by omega) h
theorem A284x (k : Nat) (d : D) (h : fIsi .str d = some (.fz, .bl false)) : callF (k + 7) 284 [(.fz, d)] = .exc ⟨22, .int 0⟩ [] := read_x (Γ := callF (k + 6)) (fun d h => lines_x (Γ := callF (k + 5)) h) h
theorem A319 (k : Nat) (t : List Nat) (h : Tx 60000 t) : callF (k + 8) 319 [(.fz, .str t)] = .ret (.fz, dueD t) [] := read_319 (Γ := callF (k + 7)) (A284 k t h)
theorem A319x (k : Nat) : X284 (callF (k + 8) 319) := fun d h => read_319x (Γ := callF (k + 7)) (j := 0) (by omega) (A284x k d h)
theorem A322 (k : Nat) (t : List Nat) (h : Tx 60000 t) : callF (k + 6) 322 [(.fz, .str t)] = .ret (.fz, dueD t) [] := due_322 (r62 k) (by omega) (by omega) h
theorem du (k : Nat) : Du 60000 (callF (k + 8)) := ⟨A319 k, A322 (k + 2), fun t h => ne_lay (due_lay (by omega) h)⟩
theorem need_23 {Γ : Nat → Fn} {d : D} (h : Γ 5 [(.fz, d)] = .ret (.fz, .bl true) []) : runF 1 [] (mb_23 Γ) [(.fz, d)] = .ret (.fz, .non) [] := by
  have c : ∀ S, callsV (Γ 5) [d] S = .ok (.fz, .bl true) S := fun S => callsV_of (ds := [d]) h S
  refine FnP.eq (runF_wp (by rfl) ?_)
  simp [mb_23, c, outsOf, Kd.isF]
theorem T35 (k : Nat) {b : List Rule} (gb : good 9 3 (bookE b)) (bB : bookB (bookE b) = true) (g : ∀ r ∈ b, Rn r) (hl : b.length ≤ 6) : callF (k + 6) 35 [(.fz, bookE b)] = .ret (.fz, .str (bookTx b)) [] :=
  book_35 (Γ := callF (k + 5)) (fun r w => rule_34 (Γ := callF (k + 4)) (fun ds a c => (some_33 (Γ := callF (k + 3)) a c).1) w) (need_23 (Γ := callF (k + 4)) (by rw [← bB]; exact G5 k (by omega) gb)) g hl
theorem Bk10 (k : Nat) : ∀ kd (s1 s2 : List (List Nat)), DI kd → 1 ≤ s1.length → s1.length ≤ 1000 → 1 ≤ s2.length → s2.length ≤ 1000 → (∀ s ∈ s1, nameS s = true) → (∀ s ∈ s2, nameS s = true) → FnP (callF (k + 4) 10) [kd, (.fz, .lst (s1.map D.str)), (.fz, .lst (s2.map D.str))] BookQ :=
  fun kd s1 s2 hd a b c e n1 n2 => book_10 (D7 (k + 2)) (R9 k a b c e n1 n2) hd
def wideR : Rule := ⟨false, [[97], [98]], [], [0, 1, 2, 3, 4, 5, 6], 1, 1000000⟩
theorem wide_tx : ruleTx wideR = wideT := by decide
theorem wide_rn : Rn wideR := rn_of (by decide) (by decide) (by decide) ⟨by decide, fun x hx => by
  simp only [List.mem_cons, List.not_mem_nil, or_false] at hx
  rcases hx with rfl | rfl | rfl | rfl | rfl | rfl
  · exact ⟨by decide, by decide⟩
  · exact ⟨by decide, fun y hy => by simp only [wideR, List.map_cons, List.map_nil, List.mem_cons, List.not_mem_nil, or_false] at hy; rcases hy with rfl | rfl <;> exact ⟨by decide, by decide⟩⟩
  · exact ⟨by decide, fun y hy => by cases hy⟩
  · exact ⟨by decide, fun y hy => by simp only [wideR, List.map_cons, List.map_nil, List.mem_cons, List.not_mem_nil, or_false] at hy; rcases hy with rfl | rfl | rfl | rfl | rfl | rfl | rfl <;> trivial⟩
  · trivial
  · trivial⟩
theorem wide_tX (n : Nat) (h : n ≤ 7) : Tx 60000 (joinD [10] (List.replicate n wideT)) := by
  refine ⟨?_, fun c hc => ?_⟩
  · have j := joinD_len [10] (List.replicate n wideT)
    have s := sum_le (List.replicate n wideT) 40 fun x hx => by rw [List.eq_of_mem_replicate hx]; decide
    simp only [List.length_replicate, List.length_cons, List.length_nil] at *
    omega
  · rcases joinD_mem _ _ hc with rfl | ⟨l, hl, hx⟩
    · omega
    · rw [List.eq_of_mem_replicate hl] at hx
      have : ∀ c ∈ wideT, c < 1114112 := by decide
      exact this c hx
theorem wide_lines (n : Nat) : linesOf (joinD [10] (List.replicate (n + 1) wideT)) = List.replicate (n + 1) wideT := by
  have ne : joinD [10] (List.replicate (n + 1) wideT) ≠ [] := joinD_ne (by simp) fun l hl => by rw [List.eq_of_mem_replicate hl]; decide
  unfold linesOf
  rw [if_neg ne]
  exact splC_join _ (by simp) fun l hl => by rw [List.eq_of_mem_replicate hl]; decide
theorem wide_back : ruleOf wideT = some wideR.enc := by rw [← wide_tx]; exact rule_back wide_rn.toRg
theorem wide_due : dueD (joinD [10] (List.replicate 7 wideT)) = .tup [.non, .str (noTextK ++ [32] ++ strI 6)] := by
  unfold dueD
  rw [wide_lines 6]
  simp [List.replicate, readL, wide_back]
theorem wide_six : readL 0 (linesOf (joinD [10] (List.replicate 6 wideT))) = .ok (List.replicate 6 wideR.enc) := by
  rw [wide_lines 5]
  simp [List.replicate, readL, wide_back]
theorem law_ok : Law62 (callF 39) := ⟨D6 38, N37 37, Bk10 35, fun ds a c => (some_33 (Γ := callF 38) a c).2, fun b gb bB g hl => T35 33 gb bB g hl, du 31, A319x 31, fun M kd s hM hd ht => spoil_312 (Γ := callF 38) hM (D7 37) hd ht,
  by rw [← wide_due]; exact A319 31 _ (wide_tX 7 (by omega)), ⟨List.replicate 6 wideR.enc, by have := A284 32 _ (wide_tX 6 (by omega)); rw [wide_six] at this; exact this, rfl⟩⟩
theorem law_true (ns : List Int) (hl : ns.length ≤ 63) : callF 40 323 [(.fz, .scr ns)] = .ret (.fz, .bl true) [] := by
  rw [show callF 40 323 = runF 14 [] (mb_323 (callF 39)) from rfl]
  exact FnP.eq ((law_323 law_ok ns hl).mono fun r o h => h)
end LW
namespace LW
open PySem PySem.Spec PyProof.Rows L2 TB
def top (i : Nat) : Stmt := PySem.Challenge.pw_tuckbook_k62_books_as_texts.main.body.getD i (.Pass ⟨0, 0, 0, 0⟩)
abbrev clsA (K : PySem.W.Frag) : Nat → Addr := fun c => match c with | 10 => He.ga K "TuckError" | 11 => He.ga K "NoForm" | 12 => He.ga K "NotNow" | 13 => He.ga K "NoBook" | 14 => He.ga K "NoShop" | 15 => He.ga K "NoRows" | 16 => He.ga K "NoRow" | 17 => He.ga K "NoDebts" | 18 => He.ga K "NoLine" | 19 => He.ga K "Twice" | 20 => He.ga K "NotThere" | 21 => He.ga K "NothingLeft" | 22 => He.ga K "NoText" | 23 => He.ga K "TooMany" | _ => 0
def clsN : Nat → List Str := fun c => match c with | 22 => ["line"] | 23 => ["many"] | _ => []
abbrev a_0 (K : PySem.W.Frag) : Addr := He.ga K "is_within"
abbrev a_1 (K : PySem.W.Frag) : Addr := He.ga K "is_name"
abbrev a_2 (K : PySem.W.Frag) : Addr := He.ga K "are_rising"
abbrev a_3 (K : PySem.W.Frag) : Addr := He.ga K "are_names"
abbrev a_4 (K : PySem.W.Frag) : Addr := He.ga K "is_rule"
abbrev a_5 (K : PySem.W.Frag) : Addr := He.ga K "is_book"
abbrev a_6 (K : PySem.W.Frag) : Addr := He.ga K "_law_draws"
abbrev a_7 (K : PySem.W.Frag) : Addr := He.ga K "_law_draw"
abbrev a_8 (K : PySem.W.Frag) : Addr := He.ga K "_law_some"
abbrev a_9 (K : PySem.W.Frag) : Addr := He.ga K "_law_rule"
abbrev a_10 (K : PySem.W.Frag) : Addr := He.ga K "_law_book"
abbrev a_14 (K : PySem.W.Frag) : Addr := He.ga K "_law_is_name"
abbrev a_15 (K : PySem.W.Frag) : Addr := He.ga K "_law_are_rising"
abbrev a_16 (K : PySem.W.Frag) : Addr := He.ga K "_law_are_names"
abbrev a_17 (K : PySem.W.Frag) : Addr := He.ga K "_law_within"
abbrev a_18 (K : PySem.W.Frag) : Addr := He.ga K "_law_is_rule"
abbrev a_19 (K : PySem.W.Frag) : Addr := He.ga K "_law_is_book"
abbrev a_23 (K : PySem.W.Frag) : Addr := He.ga K "need_book"
abbrev a_33 (K : PySem.W.Frag) : Addr := He.ga K "some_text"
abbrev a_34 (K : PySem.W.Frag) : Addr := He.ga K "rule_text"
abbrev a_35 (K : PySem.W.Frag) : Addr := He.ga K "book_text"
abbrev a_37 (K : PySem.W.Frag) : Addr := He.ga K "_law_names"
abbrev a_280 (K : PySem.W.Frag) : Addr := He.ga K "number_in"
abbrev a_281 (K : PySem.W.Frag) : Addr := He.ga K "lines_of"
abbrev a_282 (K : PySem.W.Frag) : Addr := He.ga K "some_in"
abbrev a_283 (K : PySem.W.Frag) : Addr := He.ga K "rule_in"
abbrev a_284 (K : PySem.W.Frag) : Addr := He.ga K "read_book"
abbrev a_304 (K : PySem.W.Frag) : Addr := He.ga K "_law_number_in"
abbrev a_312 (K : PySem.W.Frag) : Addr := He.ga K "_law_spoilt"
abbrev a_319 (K : PySem.W.Frag) : Addr := He.ga K "_law_read"
abbrev a_320 (K : PySem.W.Frag) : Addr := He.ga K "_law_some_text"
abbrev a_321 (K : PySem.W.Frag) : Addr := He.ga K "_law_some_in"
abbrev a_322 (K : PySem.W.Frag) : Addr := He.ga K "_law_due"
abbrev a_323 (K : PySem.W.Frag) : Addr := He.ga K "law"
structure EV (K : PySem.W.Frag) (mg : Str → Option Value) (fd : Nat → FuncData) (w : World) : Prop where
  d_0 : FunD K "is_within" "is_within" (defArgs (top 19)) (defBody (top 19)) (defScope (top 19)) [] [] (a_0 K) (fd 0)
  g_0 : mg "is_within" = some (.ref (a_0 K))
  d_1 : FunD K "is_name" "is_name" (defArgs (top 20)) (defBody (top 20)) (defScope (top 20)) [] [] (a_1 K) (fd 1)
  g_1 : mg "is_name" = some (.ref (a_1 K))
  d_2 : FunD K "are_rising" "are_rising" (defArgs (top 21)) (defBody (top 21)) (defScope (top 21)) [] [] (a_2 K) (fd 2)
  g_2 : mg "are_rising" = some (.ref (a_2 K))
  d_3 : FunD K "are_names" "are_names" (defArgs (top 22)) (defBody (top 22)) (defScope (top 22)) [] [] (a_3 K) (fd 3)
  g_3 : mg "are_names" = some (.ref (a_3 K))
  d_4 : FunD K "is_rule" "is_rule" (defArgs (top 23)) (defBody (top 23)) (defScope (top 23)) [] [] (a_4 K) (fd 4)
  g_4 : mg "is_rule" = some (.ref (a_4 K))
  d_5 : FunD K "is_book" "is_book" (defArgs (top 24)) (defBody (top 24)) (defScope (top 24)) [] [] (a_5 K) (fd 5)
  g_5 : mg "is_book" = some (.ref (a_5 K))
  d_6 : FunD K "_law_draws" "_law_draws" (defArgs (top 46)) (defBody (top 46)) (defScope (top 46)) [] [] (a_6 K) (fd 6)
  g_6 : mg "_law_draws" = some (.ref (a_6 K))
  d_7 : FunD K "_law_draw" "_law_draw" (defArgs (top 47)) (defBody (top 47)) (defScope (top 47)) [] [] (a_7 K) (fd 7)
  g_7 : mg "_law_draw" = some (.ref (a_7 K))
  d_8 : FunD K "_law_some" "_law_some" (defArgs (top 48)) (defBody (top 48)) (defScope (top 48)) [] [] (a_8 K) (fd 8)
  g_8 : mg "_law_some" = some (.ref (a_8 K))
  d_9 : FunD K "_law_rule" "_law_rule" (defArgs (top 49)) (defBody (top 49)) (defScope (top 49)) [] [] (a_9 K) (fd 9)
  g_9 : mg "_law_rule" = some (.ref (a_9 K))
  d_10 : FunD K "_law_book" "_law_book" (defArgs (top 50)) (defBody (top 50)) (defScope (top 50)) [] [] (a_10 K) (fd 10)
  g_10 : mg "_law_book" = some (.ref (a_10 K))
  d_14 : FunD K "_law_is_name" "_law_is_name" (defArgs (top 40)) (defBody (top 40)) (defScope (top 40)) [] [] (a_14 K) (fd 14)
  g_14 : mg "_law_is_name" = some (.ref (a_14 K))
  d_15 : FunD K "_law_are_rising" "_law_are_rising" (defArgs (top 41)) (defBody (top 41)) (defScope (top 41)) [] [] (a_15 K) (fd 15)
  g_15 : mg "_law_are_rising" = some (.ref (a_15 K))
  d_16 : FunD K "_law_are_names" "_law_are_names" (defArgs (top 42)) (defBody (top 42)) (defScope (top 42)) [] [] (a_16 K) (fd 16)
  g_16 : mg "_law_are_names" = some (.ref (a_16 K))
  d_17 : FunD K "_law_within" "_law_within" (defArgs (top 43)) (defBody (top 43)) (defScope (top 43)) [] [] (a_17 K) (fd 17)
  g_17 : mg "_law_within" = some (.ref (a_17 K))
  d_18 : FunD K "_law_is_rule" "_law_is_rule" (defArgs (top 44)) (defBody (top 44)) (defScope (top 44)) [] [] (a_18 K) (fd 18)
  g_18 : mg "_law_is_rule" = some (.ref (a_18 K))
  d_19 : FunD K "_law_is_book" "_law_is_book" (defArgs (top 45)) (defBody (top 45)) (defScope (top 45)) [] [] (a_19 K) (fd 19)
  g_19 : mg "_law_is_book" = some (.ref (a_19 K))
  d_23 : FunD K "need_book" "need_book" (defArgs (top 25)) (defBody (top 25)) (defScope (top 25)) [] [] (a_23 K) (fd 23)
  g_23 : mg "need_book" = some (.ref (a_23 K))
  d_33 : FunD K "some_text" "some_text" (defArgs (top 31)) (defBody (top 31)) (defScope (top 31)) [] [] (a_33 K) (fd 33)
  g_33 : mg "some_text" = some (.ref (a_33 K))
  d_34 : FunD K "rule_text" "rule_text" (defArgs (top 32)) (defBody (top 32)) (defScope (top 32)) [] [] (a_34 K) (fd 34)
  g_34 : mg "rule_text" = some (.ref (a_34 K))
  d_35 : FunD K "book_text" "book_text" (defArgs (top 33)) (defBody (top 33)) (defScope (top 33)) [] [] (a_35 K) (fd 35)
  g_35 : mg "book_text" = some (.ref (a_35 K))
  d_37 : FunD K "_law_names" "_law_names" (defArgs (top 51)) (defBody (top 51)) (defScope (top 51)) [] [] (a_37 K) (fd 37)
  g_37 : mg "_law_names" = some (.ref (a_37 K))
  d_280 : FunD K "number_in" "number_in" (defArgs (top 29)) (defBody (top 29)) (defScope (top 29)) [] [] (a_280 K) (fd 280)
  g_280 : mg "number_in" = some (.ref (a_280 K))
  d_281 : FunD K "lines_of" "lines_of" (defArgs (top 30)) (defBody (top 30)) (defScope (top 30)) [] [] (a_281 K) (fd 281)
  g_281 : mg "lines_of" = some (.ref (a_281 K))
  d_282 : FunD K "some_in" "some_in" (defArgs (top 34)) (defBody (top 34)) (defScope (top 34)) [] [] (a_282 K) (fd 282)
  g_282 : mg "some_in" = some (.ref (a_282 K))
  d_283 : FunD K "rule_in" "rule_in" (defArgs (top 35)) (defBody (top 35)) (defScope (top 35)) [] [] (a_283 K) (fd 283)
  g_283 : mg "rule_in" = some (.ref (a_283 K))
  d_284 : FunD K "read_book" "read_book" (defArgs (top 36)) (defBody (top 36)) (defScope (top 36)) [] [] (a_284 K) (fd 284)
  g_284 : mg "read_book" = some (.ref (a_284 K))
  d_304 : FunD K "_law_number_in" "_law_number_in" (defArgs (top 39)) (defBody (top 39)) (defScope (top 39)) [] [] (a_304 K) (fd 304)
  g_304 : mg "_law_number_in" = some (.ref (a_304 K))
  d_312 : FunD K "_law_spoilt" "_law_spoilt" (defArgs (top 52)) (defBody (top 52)) (defScope (top 52)) [] [] (a_312 K) (fd 312)
  g_312 : mg "_law_spoilt" = some (.ref (a_312 K))
  d_319 : FunD K "_law_read" "_law_read" (defArgs (top 53)) (defBody (top 53)) (defScope (top 53)) [] [] (a_319 K) (fd 319)
  g_319 : mg "_law_read" = some (.ref (a_319 K))
  d_320 : FunD K "_law_some_text" "_law_some_text" (defArgs (top 54)) (defBody (top 54)) (defScope (top 54)) [] [] (a_320 K) (fd 320)
  g_320 : mg "_law_some_text" = some (.ref (a_320 K))
  d_321 : FunD K "_law_some_in" "_law_some_in" (defArgs (top 55)) (defBody (top 55)) (defScope (top 55)) [] [] (a_321 K) (fd 321)
  g_321 : mg "_law_some_in" = some (.ref (a_321 K))
  d_322 : FunD K "_law_due" "_law_due" (defArgs (top 56)) (defBody (top 56)) (defScope (top 56)) [] [] (a_322 K) (fd 322)
  g_322 : mg "_law_due" = some (.ref (a_322 K))
  d_323 : FunD K "law" "law" (defArgs (top 57)) (defBody (top 57)) (defScope (top 57)) [] [] (a_323 K) (fd 323)
  g_323 : mg "law" = some (.ref (a_323 K))
  gx_TuckError : mg "TuckError" = some (.ref (clsA K 10))
  gx_NoForm : mg "NoForm" = some (.ref (clsA K 11))
  gx_NotNow : mg "NotNow" = some (.ref (clsA K 12))
  gx_NoBook : mg "NoBook" = some (.ref (clsA K 13))
  gx_NoShop : mg "NoShop" = some (.ref (clsA K 14))
  gx_NoRows : mg "NoRows" = some (.ref (clsA K 15))
  gx_NoRow : mg "NoRow" = some (.ref (clsA K 16))
  gx_NoDebts : mg "NoDebts" = some (.ref (clsA K 17))
  gx_NoLine : mg "NoLine" = some (.ref (clsA K 18))
  gx_Twice : mg "Twice" = some (.ref (clsA K 19))
  gx_NotThere : mg "NotThere" = some (.ref (clsA K 20))
  gx_NothingLeft : mg "NothingLeft" = some (.ref (clsA K 21))
  gx_NoText : mg "NoText" = some (.ref (clsA K 22))
  gx_TooMany : mg "TooMany" = some (.ref (clsA K 23))
  xr_NoBook : RaiseC K (clsA K 13)
  di_NoText : FunD K "__init__" "NoText.__init__" (defArgs (inClass (top 13) 0)) (defBody (inClass (top 13) 0)) (defScope (inClass (top 13) 0)) [] [] (He.ma K (He.ga K "NoText") "__init__") (fd 21)
  in_NoText : IniC K (clsA K 22) (He.ma K (He.ga K "NoText") "__init__") "line"
  bc_NoForm : BaseC K (clsA K 11)
  xf : XFacts K (clsA K) [13, 22]
  d_kind : FunD K "_law_kind_of" "_law_kind_of" (defArgs (top 38)) (defBody (top 38)) (defScope (top 38)) [] [] (He.ga K "_law_kind_of") (fd 36)
  g_kind : mg "_law_kind_of" = some (.ref (He.ga K "_law_kind_of"))
  n_ValueError : mg "ValueError" = none
  n_all : mg "all" = none
  n_bool : mg "bool" = none
  n_enumerate : mg "enumerate" = none
  n_int : mg "int" = none
  n_isinstance : mg "isinstance" = none
  n_len : mg "len" = none
  n_list : mg "list" = none
  n_max : mg "max" = none
  n_min : mg "min" = none
  n_range : mg "range" = none
  n_sorted : mg "sorted" = none
  n_str : mg "str" = none
  n_tuple : mg "tuple" = none
  c_FIGURES : ∃ t, mg "FIGURES" = some (.str "0123456789" t)
  c_LETTERS : ∃ t, mg "LETTERS" = some (.str "abcdefghijklmnopqrstuvwxyz" t)
  c_MOST_FIGURES : ∃ t, mg "MOST_FIGURES" = some (.int 20 t)
  c_MOST_PENCE : ∃ t, mg "MOST_PENCE" = some (.int 1000000 t)
  c_MOST_RULES : ∃ t, mg "MOST_RULES" = some (.int 6 t)
abbrev Gc (K : PySem.W.Frag) (w : World) : Cfg := { K := K, ca := clsA K, cn := clsN, fa := fun _ => 0, w := w }
structure OKS (P : Program) (w : World) (K : PySem.W.Frag) (mg : Str → Option Value) (base : Heap) (fd : Nat → FuncData) (k : Nat) : Prop where
  o_0 : FnOk P w K mg base (L2N.CX P w) (3 * k) (a_0 K) (fd 0) ["thing", "low", "high"] (spF (Gc K w) 3 (callF k 0))
  o_1 : FnOk P w K mg base (L2N.CX P w) (3 * k) (a_1 K) (fd 1) ["thing"] (spF (Gc K w) 1 (callF k 1))
  o_2 : FnOk P w K mg base (L2N.CX P w) (3 * k) (a_2 K) (fd 2) ["some"] (spF (Gc K w) 1 (callF k 2))
  o_3 : FnOk P w K mg base (L2N.CX P w) (3 * k) (a_3 K) (fd 3) ["thing", "few", "many"] (spF (Gc K w) 3 (callF k 3))
  o_4 : FnOk P w K mg base (L2N.CX P w) (3 * k) (a_4 K) (fd 4) ["thing"] (spF (Gc K w) 1 (callF k 4))
  o_5 : FnOk P w K mg base (L2N.CX P w) (3 * k) (a_5 K) (fd 5) ["thing"] (spF (Gc K w) 1 (callF k 5))
  o_6 : FnOk P w K mg base (L2N.CX P w) (3 * k) (a_6 K) (fd 6) ["_law_script", "_law_k"] (spF (Gc K w) 2 (callF k 6))
  o_7 : FnOk P w K mg base (L2N.CX P w) (3 * k) (a_7 K) (fd 7) ["_law_draws_here", "_law_many"] (spF (Gc K w) 2 (callF k 7))
  o_8 : FnOk P w K mg base (L2N.CX P w) (3 * k) (a_8 K) (fd 8) ["_law_draws_here", "_law_names_here", "_law_most"] (spF (Gc K w) 3 (callF k 8))
  o_9 : FnOk P w K mg base (L2N.CX P w) (3 * k) (a_9 K) (fd 9) ["_law_draws_here", "_law_kinds", "_law_pupils", "_law_far"] (spF (Gc K w) 4 (callF k 9))
  o_10 : FnOk P w K mg base (L2N.CX P w) (3 * k) (a_10 K) (fd 10) ["_law_draws_here", "_law_kinds", "_law_pupils"] (spF (Gc K w) 3 (callF k 10))
  o_14 : FnOk P w K mg base (L2N.CX P w) (3 * k) (a_14 K) (fd 14) ["_law_thing"] (spF (Gc K w) 1 (callF k 14))
  o_15 : FnOk P w K mg base (L2N.CX P w) (3 * k) (a_15 K) (fd 15) ["_law_thing", "_law_few", "_law_many"] (spF (Gc K w) 3 (callF k 15))
  o_16 : FnOk P w K mg base (L2N.CX P w) (3 * k) (a_16 K) (fd 16) ["_law_thing", "_law_few", "_law_many"] (spF (Gc K w) 3 (callF k 16))
  o_17 : FnOk P w K mg base (L2N.CX P w) (3 * k) (a_17 K) (fd 17) ["_law_thing", "_law_low", "_law_high"] (spF (Gc K w) 3 (callF k 17))
  o_18 : FnOk P w K mg base (L2N.CX P w) (3 * k) (a_18 K) (fd 18) ["_law_thing"] (spF (Gc K w) 1 (callF k 18))
  o_19 : FnOk P w K mg base (L2N.CX P w) (3 * k) (a_19 K) (fd 19) ["_law_thing"] (spF (Gc K w) 1 (callF k 19))
  o_23 : FnOk P w K mg base (L2N.CX P w) (3 * k) (a_23 K) (fd 23) ["book"] (spF (Gc K w) 1 (callF k 23))
  o_33 : FnOk P w K mg base (L2N.CX P w) (3 * k) (a_33 K) (fd 33) ["some"] (spF (Gc K w) 1 (callF k 33))
  o_34 : FnOk P w K mg base (L2N.CX P w) (3 * k) (a_34 K) (fd 34) ["rule"] (spF (Gc K w) 1 (callF k 34))
  o_35 : FnOk P w K mg base (L2N.CX P w) (3 * k) (a_35 K) (fd 35) ["book"] (spF (Gc K w) 1 (callF k 35))
  o_37 : FnOk P w K mg base (L2N.CX P w) (3 * k) (a_37 K) (fd 37) ["_law_draws_here", "_law_many"] (spF (Gc K w) 2 (callF k 37))
  o_280 : FnOk P w K mg base (L2N.CX P w) (3 * k) (a_280 K) (fd 280) ["word"] (spF (Gc K w) 1 (callF k 280))
  o_281 : FnOk P w K mg base (L2N.CX P w) (3 * k) (a_281 K) (fd 281) ["text"] (spF (Gc K w) 1 (callF k 281))
  o_282 : FnOk P w K mg base (L2N.CX P w) (3 * k) (a_282 K) (fd 282) ["word"] (spF (Gc K w) 1 (callF k 282))
  o_283 : FnOk P w K mg base (L2N.CX P w) (3 * k) (a_283 K) (fd 283) ["text"] (spF (Gc K w) 1 (callF k 283))
  o_284 : FnOk P w K mg base (L2N.CX P w) (3 * k) (a_284 K) (fd 284) ["text"] (spF (Gc K w) 1 (callF k 284))
  o_304 : FnOk P w K mg base (L2N.CX P w) (3 * k) (a_304 K) (fd 304) ["_law_word"] (spF (Gc K w) 1 (callF k 304))
  o_312 : FnOk P w K mg base (L2N.CX P w) (3 * k) (a_312 K) (fd 312) ["_law_draws_here", "_law_text"] (spF (Gc K w) 2 (callF k 312))
  o_319 : FnOk P w K mg base (L2N.CX P w) (3 * k) (a_319 K) (fd 319) ["_law_text"] (spF (Gc K w) 1 (callF k 319))
  o_320 : FnOk P w K mg base (L2N.CX P w) (3 * k) (a_320 K) (fd 320) ["_law_some_here"] (spF (Gc K w) 1 (callF k 320))
  o_321 : FnOk P w K mg base (L2N.CX P w) (3 * k) (a_321 K) (fd 321) ["_law_word"] (spF (Gc K w) 1 (callF k 321))
  o_322 : FnOk P w K mg base (L2N.CX P w) (3 * k) (a_322 K) (fd 322) ["_law_text"] (spF (Gc K w) 1 (callF k 322))
  o_323 : FnOk P w K mg base (L2N.CX P w) (3 * k) (a_323 K) (fd 323) ["_law_script"] (spF (Gc K w) 1 (callF k 323))
section
variable {P : Program} {w : World} {K : PySem.W.Frag} {mg : Str → Option Value} {base : Heap} {fd : Nat → FuncData} {k : Nat}
theorem C_FIGURES {X : Cx} {G : Cfgx} {W : WX} {pos : Pos} (V : EV X.K X.mg fd w) (hg : Gl X "FIGURES" := by rfl) : TrE X G W (.Name "FIGURES" pos) (eCon (.str [48, 49, 50, 51, 52, 53, 54, 55, 56, 57])) := by
  obtain ⟨t, e⟩ := V.c_FIGURES
  exact tr_glob (v := .str "0123456789") e ⟨t, rfl⟩ (fun F => .str _) hg
theorem C_LETTERS {X : Cx} {G : Cfgx} {W : WX} {pos : Pos} (V : EV X.K X.mg fd w) (hg : Gl X "LETTERS" := by rfl) : TrE X G W (.Name "LETTERS" pos) (eCon (.str [97, 98, 99, 100, 101, 102, 103, 104, 105, 106, 107, 108, 109, 110, 111, 112, 113, 114, 115, 116, 117, 118, 119, 120, 121, 122])) := by
  obtain ⟨t, e⟩ := V.c_LETTERS
  exact tr_glob (v := .str "abcdefghijklmnopqrstuvwxyz") e ⟨t, rfl⟩ (fun F => .str _) hg
theorem C_MOST_FIGURES {X : Cx} {G : Cfgx} {W : WX} {pos : Pos} (V : EV X.K X.mg fd w) (hg : Gl X "MOST_FIGURES" := by rfl) : TrE X G W (.Name "MOST_FIGURES" pos) (eCon (.int 20)) := by
  obtain ⟨t, e⟩ := V.c_MOST_FIGURES
  exact tr_glob (v := .int 20) e ⟨t, rfl⟩ (fun F => .int _) hg
theorem C_MOST_PENCE {X : Cx} {G : Cfgx} {W : WX} {pos : Pos} (V : EV X.K X.mg fd w) (hg : Gl X "MOST_PENCE" := by rfl) : TrE X G W (.Name "MOST_PENCE" pos) (eCon (.int 1000000)) := by
  obtain ⟨t, e⟩ := V.c_MOST_PENCE
  exact tr_glob (v := .int 1000000) e ⟨t, rfl⟩ (fun F => .int _) hg
theorem C_MOST_RULES {X : Cx} {G : Cfgx} {W : WX} {pos : Pos} (V : EV X.K X.mg fd w) (hg : Gl X "MOST_RULES" := by rfl) : TrE X G W (.Name "MOST_RULES" pos) (eCon (.int 6)) := by
  obtain ⟨t, e⟩ := V.c_MOST_RULES
  exact tr_glob (v := .int 6) e ⟨t, rfl⟩ (fun F => .int _) hg
theorem b_0 (V : EV K mg fd w) : Binds K (fd 0) ["thing", "low", "high"] [] := V.d_0.bindsN fun _ _ _ _ _ _ us hl => match us, hl with | [_, _, _], _ => rfl
theorem b_1 (V : EV K mg fd w) : Binds K (fd 1) ["thing"] [] := V.d_1.bindsN fun _ _ _ _ _ _ us hl => match us, hl with | [_], _ => rfl
theorem b_2 (V : EV K mg fd w) : Binds K (fd 2) ["some"] [] := V.d_2.bindsN fun _ _ _ _ _ _ us hl => match us, hl with | [_], _ => rfl
theorem b_3 (V : EV K mg fd w) : Binds K (fd 3) ["thing", "few", "many"] [] := V.d_3.bindsN fun _ _ _ _ _ _ us hl => match us, hl with | [_, _, _], _ => rfl
theorem b_4 (V : EV K mg fd w) : Binds K (fd 4) ["thing"] [] := V.d_4.bindsN fun _ _ _ _ _ _ us hl => match us, hl with | [_], _ => rfl
theorem b_5 (V : EV K mg fd w) : Binds K (fd 5) ["thing"] [] := V.d_5.bindsN fun _ _ _ _ _ _ us hl => match us, hl with | [_], _ => rfl
theorem b_6 (V : EV K mg fd w) : Binds K (fd 6) ["_law_script", "_law_k"] [] := V.d_6.bindsN fun _ _ _ _ _ _ us hl => match us, hl with | [_, _], _ => rfl
theorem b_7 (V : EV K mg fd w) : Binds K (fd 7) ["_law_draws_here", "_law_many"] [] := V.d_7.bindsN fun _ _ _ _ _ _ us hl => match us, hl with | [_, _], _ => rfl
theorem b_8 (V : EV K mg fd w) : Binds K (fd 8) ["_law_draws_here", "_law_names_here", "_law_most"] [] := V.d_8.bindsN fun _ _ _ _ _ _ us hl => match us, hl with | [_, _, _], _ => rfl
theorem b_9 (V : EV K mg fd w) : Binds K (fd 9) ["_law_draws_here", "_law_kinds", "_law_pupils", "_law_far"] [] := V.d_9.bindsN fun _ _ _ _ _ _ us hl => match us, hl with | [_, _, _, _], _ => rfl
theorem b_10 (V : EV K mg fd w) : Binds K (fd 10) ["_law_draws_here", "_law_kinds", "_law_pupils"] [] := V.d_10.bindsN fun _ _ _ _ _ _ us hl => match us, hl with | [_, _, _], _ => rfl
theorem b_14 (V : EV K mg fd w) : Binds K (fd 14) ["_law_thing"] [] := V.d_14.bindsN fun _ _ _ _ _ _ us hl => match us, hl with | [_], _ => rfl
theorem b_15 (V : EV K mg fd w) : Binds K (fd 15) ["_law_thing", "_law_few", "_law_many"] [] := V.d_15.bindsN fun _ _ _ _ _ _ us hl => match us, hl with | [_, _, _], _ => rfl
theorem b_16 (V : EV K mg fd w) : Binds K (fd 16) ["_law_thing", "_law_few", "_law_many"] [] := V.d_16.bindsN fun _ _ _ _ _ _ us hl => match us, hl with | [_, _, _], _ => rfl
theorem b_17 (V : EV K mg fd w) : Binds K (fd 17) ["_law_thing", "_law_low", "_law_high"] [] := V.d_17.bindsN fun _ _ _ _ _ _ us hl => match us, hl with | [_, _, _], _ => rfl
theorem b_18 (V : EV K mg fd w) : Binds K (fd 18) ["_law_thing"] [] := V.d_18.bindsN fun _ _ _ _ _ _ us hl => match us, hl with | [_], _ => rfl
theorem b_19 (V : EV K mg fd w) : Binds K (fd 19) ["_law_thing"] [] := V.d_19.bindsN fun _ _ _ _ _ _ us hl => match us, hl with | [_], _ => rfl
theorem b_23 (V : EV K mg fd w) : Binds K (fd 23) ["book"] [] := V.d_23.bindsN fun _ _ _ _ _ _ us hl => match us, hl with | [_], _ => rfl
theorem b_33 (V : EV K mg fd w) : Binds K (fd 33) ["some"] [] := V.d_33.bindsN fun _ _ _ _ _ _ us hl => match us, hl with | [_], _ => rfl
theorem b_34 (V : EV K mg fd w) : Binds K (fd 34) ["rule"] [] := V.d_34.bindsN fun _ _ _ _ _ _ us hl => match us, hl with | [_], _ => rfl
theorem b_35 (V : EV K mg fd w) : Binds K (fd 35) ["book"] [] := V.d_35.bindsN fun _ _ _ _ _ _ us hl => match us, hl with | [_], _ => rfl
theorem b_37 (V : EV K mg fd w) : Binds K (fd 37) ["_law_draws_here", "_law_many"] [] := V.d_37.bindsN fun _ _ _ _ _ _ us hl => match us, hl with | [_, _], _ => rfl
theorem b_280 (V : EV K mg fd w) : Binds K (fd 280) ["word"] [] := V.d_280.bindsN fun _ _ _ _ _ _ us hl => match us, hl with | [_], _ => rfl
theorem b_281 (V : EV K mg fd w) : Binds K (fd 281) ["text"] [] := V.d_281.bindsN fun _ _ _ _ _ _ us hl => match us, hl with | [_], _ => rfl
theorem b_282 (V : EV K mg fd w) : Binds K (fd 282) ["word"] [] := V.d_282.bindsN fun _ _ _ _ _ _ us hl => match us, hl with | [_], _ => rfl
theorem b_283 (V : EV K mg fd w) : Binds K (fd 283) ["text"] [] := V.d_283.bindsN fun _ _ _ _ _ _ us hl => match us, hl with | [_], _ => rfl
theorem b_284 (V : EV K mg fd w) : Binds K (fd 284) ["text"] [] := V.d_284.bindsN fun _ _ _ _ _ _ us hl => match us, hl with | [_], _ => rfl
theorem b_304 (V : EV K mg fd w) : Binds K (fd 304) ["_law_word"] [] := V.d_304.bindsN fun _ _ _ _ _ _ us hl => match us, hl with | [_], _ => rfl
theorem b_312 (V : EV K mg fd w) : Binds K (fd 312) ["_law_draws_here", "_law_text"] [] := V.d_312.bindsN fun _ _ _ _ _ _ us hl => match us, hl with | [_, _], _ => rfl
theorem b_319 (V : EV K mg fd w) : Binds K (fd 319) ["_law_text"] [] := V.d_319.bindsN fun _ _ _ _ _ _ us hl => match us, hl with | [_], _ => rfl
theorem b_320 (V : EV K mg fd w) : Binds K (fd 320) ["_law_some_here"] [] := V.d_320.bindsN fun _ _ _ _ _ _ us hl => match us, hl with | [_], _ => rfl
theorem b_321 (V : EV K mg fd w) : Binds K (fd 321) ["_law_word"] [] := V.d_321.bindsN fun _ _ _ _ _ _ us hl => match us, hl with | [_], _ => rfl
theorem b_322 (V : EV K mg fd w) : Binds K (fd 322) ["_law_text"] [] := V.d_322.bindsN fun _ _ _ _ _ _ us hl => match us, hl with | [_], _ => rfl
theorem bi_NoText (V : EV K mg fd w) : Binds K (fd 21) ["self", "line"] [] := V.di_NoText.bindsN fun _ _ _ _ _ _ us hl => match us, hl with | [_, _], _ => rfl
theorem sci_NoText : FnScope ["self", "line"] ["self", "line"] (defScope (inClass (top 13) 0)) := ⟨rfl, rfl, rfl, by decide +kernel, rfl, by decide +kernel, by decide +kernel⟩
theorem ini_NoText (V : EV K mg fd w) : FnOk P w K mg base (L2N.CX P w) 1 (He.ma K (He.ga K "NoText") "__init__") (fd 21) ["self", "line"] (spInit (clsA K 22) "line") :=
  init_fn V.di_NoText sci_NoText V.in_NoText.ox V.in_NoText.no fun cdv A outer s H E => pss_cons (ps_expr (pe_binit V.bc_NoForm (by rfl) V.gx_NoForm (pa_cons (pe_var (by rfl) (by first | exact Or.inl rfl | exact Or.inr (Or.inl rfl) | exact Or.inr (Or.inr rfl))) (pa_cons pe_str pa_nil)))) (pss_one (ps_ost (pe_var (by rfl) (by first | exact Or.inl rfl | exact Or.inr (Or.inl rfl) | exact Or.inr (Or.inr rfl))) (pe_var (by rfl) (by first | exact Or.inl rfl | exact Or.inr (Or.inl rfl) | exact Or.inr (Or.inr rfl)))))
theorem b_kind (V : EV K mg fd w) : Binds K (fd 36) ["_law_e"] [] := V.d_kind.bindsN fun _ _ _ _ _ _ us hl => match us, hl with | [_], _ => rfl
theorem sc_kind : FnScope ["_law_e", "_law_some_here", "_law_words", "_law_k"] ["_law_e"] (defScope (top 38)) := ⟨rfl, rfl, rfl, by decide +kernel, rfl, by decide +kernel, by decide +kernel⟩
theorem kind_ok (V : EV K mg fd w) : KindFn P w K mg base (clsA K) [13, 22] 1 (He.ga K "_law_kind_of") (fd 36) :=
  kind_fn (G := Gc K w) V.d_kind sc_kind (by rfl) (by decide +kernel) fun cdv A outer s H E p c hot hx hc hd =>
    have hf : ∃ fv, p.2.data = .fields fv := hot.2.imp fun _ y => y.1
    have nd := sc_kind.nd
    have hp : p ∈ [p] := List.mem_singleton.mpr rfl
    (ts_cons (tr_setN 1 nd (tr_fr (tr_lst (tra_cons (tr_isP V.xf hx (by decide) hp hc hf hd rfl (by simp) rfl V.n_isinstance V.gx_NoBook) (tra_cons (tr_isP V.xf hx (by decide) hp hc hf hd rfl (by simp) rfl V.n_isinstance V.gx_NoDebts) (tra_cons (tr_isP V.xf hx (by decide) hp hc hf hd rfl (by simp) rfl V.n_isinstance V.gx_NoForm) (tra_cons (tr_isP V.xf hx (by decide) hp hc hf hd rfl (by simp) rfl V.n_isinstance V.gx_NoLine) tra_nil))))))) (ts_cons (tr_setN 1 nd (tr_fr (tr_addK rfl (tr_var 1) (tr_lst (tra_cons (tr_isP V.xf hx (by decide) hp hc hf hd rfl (by simp) rfl V.n_isinstance V.gx_NoRow) (tra_cons (tr_isP V.xf hx (by decide) hp hc hf hd rfl (by simp) rfl V.n_isinstance V.gx_NoRows) (tra_cons (tr_isP V.xf hx (by decide) hp hc hf hd rfl (by simp) rfl V.n_isinstance V.gx_NoShop) (tra_cons (tr_isP V.xf hx (by decide) hp hc hf hd rfl (by simp) rfl V.n_isinstance V.gx_NoText) tra_nil)))))))) (ts_cons (tr_setN 1 nd (tr_fr (tr_addK rfl (tr_var 1) (tr_lst (tra_cons (tr_isP V.xf hx (by decide) hp hc hf hd rfl (by simp) rfl V.n_isinstance V.gx_NotNow) (tra_cons (tr_isP V.xf hx (by decide) hp hc hf hd rfl (by simp) rfl V.n_isinstance V.gx_NotThere) (tra_cons (tr_isP V.xf hx (by decide) hp hc hf hd rfl (by simp) rfl V.n_isinstance V.gx_NothingLeft) (tra_cons (tr_isP V.xf hx (by decide) hp hc hf hd rfl (by simp) rfl V.n_isinstance V.gx_TooMany) tra_nil)))))))) (ts_cons (tr_setN 1 nd (tr_fr (tr_addK rfl (tr_var 1) (tr_lst (tra_cons (tr_isP V.xf hx (by decide) hp hc hf hd rfl (by simp) rfl V.n_isinstance V.gx_Twice) (tra_cons (tr_isVE V.xf hx hp hc hf hd rfl (by simp) rfl V.n_isinstance V.n_ValueError) tra_nil)))))) (ts_cons (tr_setN 2 nd (tr_fr (tr_lst (tra_cons (tr_str [78, 111, 66, 111, 111, 107]) (tra_cons (tr_str [78, 111, 68, 101, 98, 116, 115]) (tra_cons (tr_str [78, 111, 70, 111, 114, 109]) (tra_cons (tr_str [78, 111, 76, 105, 110, 101]) (tra_cons (tr_str [78, 111, 82, 111, 119]) (tra_cons (tr_str [78, 111, 82, 111, 119, 115]) (tra_cons (tr_str [78, 111, 83, 104, 111, 112]) (tra_cons (tr_str [78, 111, 84, 101, 120, 116]) (tra_cons (tr_str [78, 111, 116, 78, 111, 119]) (tra_cons (tr_str [78, 111, 116, 84, 104, 101, 114, 101]) tra_nil))))))))))))) (ts_cons (tr_setN 2 nd (tr_fr (tr_addK rfl (tr_var 2) (tr_lst (tra_cons (tr_str [78, 111, 116, 104, 105, 110, 103, 76, 101, 102, 116]) (tra_cons (tr_str [84, 111, 111, 77, 97, 110, 121]) (tra_cons (tr_str [84, 119, 105, 99, 101]) (tra_cons (tr_str [43]) tra_nil)))))))) (ts_cons (tr_ret (tr_join (tr_str [32]) (tr_lcH (own := [("_law_k", 3)]) hot hp nd V.n_range (blkOk_by (by rfl)) (fun _ _ _ _ _ => tg_nm 3 nd) (fun _ _ _ _ _ => tts_one (tt_val (tr_ixK rfl (tr_var 1) (tr_var 3)))) (fun _ _ _ _ _ => tr_ixK rfl (tr_var 2) (tr_var 3))))) ts_nil)))))))
theorem sc_0 : FnScope ["thing", "low", "high"] ["thing", "low", "high"] (defScope (top 19)) := ⟨rfl, rfl, rfl, by decide +kernel, rfl, by decide +kernel, by decide +kernel⟩
theorem ok_0 (V : EV K mg fd w) (IH : OKS P w K mg base fd k) : FnOk P w K mg base (L2N.CX P w) (3 * (k + 1)) (a_0 K) (fd 0) ["thing", "low", "high"] (spF (Gc K w) 3 (rf_0 (callF k))) :=
  fn_ok (P := P) (w := w) (G := Gc K w) (mg := mg) (base := base) (k := 3 * k + 2) (N := ["thing", "low", "high"]) (ps := ["thing", "low", "high"]) (m := mb_0 (callF k)) [] V.d_0 sc_0 (by rfl) fun cdv A outer s H E σ (C : Cok (cxF P w K mg base ["thing", "low", "high"] "is_within" (defScope (top 19)) (a_0 K) cdv A outer s H E) (pinG (Gc K w) [] σ) _ (3 * k + 2)) =>
    (ts_one (tr_ret (tr_and (tr_isi .int C (tr_var 0) V.n_isinstance V.n_int (by rfl)) (tr_and (tr_not (tr_isi .bool C (tr_var 0) V.n_isinstance V.n_bool (by rfl))) (tr_one (tr_LtE_LtE C (tr_var 1) (tr_var 0) (tr_var 2)))))))
theorem sc_1 : FnScope ["thing", "sign"] ["thing"] (defScope (top 20)) := ⟨rfl, rfl, rfl, by decide +kernel, rfl, by decide +kernel, by decide +kernel⟩
theorem ok_1 (V : EV K mg fd w) (IH : OKS P w K mg base fd k) : FnOk P w K mg base (L2N.CX P w) (3 * (k + 1)) (a_1 K) (fd 1) ["thing"] (spF (Gc K w) 1 (rf_1 (callF k))) :=
  fn_ok (P := P) (w := w) (G := Gc K w) (mg := mg) (base := base) (k := 3 * k + 2) (N := ["thing", "sign"]) (ps := ["thing"]) (m := mb_1 (callF k)) [] V.d_1 sc_1 (by rfl) fun cdv A outer s H E σ (C : Cok (cxF P w K mg base ["thing", "sign"] "is_name" (defScope (top 20)) (a_1 K) cdv A outer s H E) (pinG (Gc K w) [] σ) _ (3 * k + 2)) =>
    (ts_one (tr_ret (tr_and (tr_isi .str C (tr_var 0) V.n_isinstance V.n_str (by rfl)) (tr_and (tr_LtE_LtE C tr_int (tr_b_len C V.n_len rfl (tra_cons (tr_var 0) tra_nil)) tr_int) (tr_one (tr_b_all C V.n_all rfl (tra_cons (tr_lc (own := [("sign", 1)]) C (ti_str (tr_var 0)) (blkOk_by (by rfl)) (fun _ _ _ _ _ => have ND := C.nd; (tg_nm 1 ND)) (fun _ _ _ _ _ C => tts_nil) (fun _ _ _ _ _ C => (tr_In C (tr_var 1) (C_LETTERS V)))) tra_nil)))))))
theorem sc_2 : FnScope ["some", "k"] ["some"] (defScope (top 21)) := ⟨rfl, rfl, rfl, by decide +kernel, rfl, by decide +kernel, by decide +kernel⟩
theorem ok_2 (V : EV K mg fd w) (IH : OKS P w K mg base fd k) : FnOk P w K mg base (L2N.CX P w) (3 * (k + 1)) (a_2 K) (fd 2) ["some"] (spF (Gc K w) 1 (rf_2 (callF k))) :=
  fn_ok (P := P) (w := w) (G := Gc K w) (mg := mg) (base := base) (k := 3 * k + 2) (N := ["some", "k"]) (ps := ["some"]) (m := mb_2 (callF k)) [] V.d_2 sc_2 (by rfl) fun cdv A outer s H E σ (C : Cok (cxF P w K mg base ["some", "k"] "are_rising" (defScope (top 21)) (a_2 K) cdv A outer s H E) (pinG (Gc K w) [] σ) _ (3 * k + 2)) =>
    (ts_one (tr_ret (tr_b_all C V.n_all rfl (tra_cons (tr_lc (own := [("k", 1)]) C (ti_range2 tr_int (tr_b_len C V.n_len rfl (tra_cons (tr_var 0) tra_nil)) V.n_range) (blkOk_by (by rfl)) (fun _ _ _ _ _ => have ND := C.nd; (tg_nm 1 ND)) (fun _ _ _ _ _ C => tts_nil) (fun _ _ _ _ _ C => (tr_Lt C (tr_Ix C (tr_var 0) (tr_Sub C (tr_var 1) tr_int)) (tr_Ix C (tr_var 0) (tr_var 1))))) tra_nil))))
theorem sc_3 : FnScope ["thing", "few", "many", "name"] ["thing", "few", "many"] (defScope (top 22)) := ⟨rfl, rfl, rfl, by decide +kernel, rfl, by decide +kernel, by decide +kernel⟩
theorem ok_3 (V : EV K mg fd w) (IH : OKS P w K mg base fd k) : FnOk P w K mg base (L2N.CX P w) (3 * (k + 1)) (a_3 K) (fd 3) ["thing", "few", "many"] (spF (Gc K w) 3 (rf_3 (callF k))) :=
  fn_ok (P := P) (w := w) (G := Gc K w) (mg := mg) (base := base) (k := 3 * k + 2) (N := ["thing", "few", "many", "name"]) (ps := ["thing", "few", "many"]) (m := mb_3 (callF k)) [] V.d_3 sc_3 (by rfl) fun cdv A outer s H E σ (C : Cok (cxF P w K mg base ["thing", "few", "many", "name"] "are_names" (defScope (top 22)) (a_3 K) cdv A outer s H E) (pinG (Gc K w) [] σ) _ (3 * k + 2)) =>
    (ts_cons (tr_ifS (tt_w (tw_or (tt_not (tt_val (tr_isi .tuple C (tr_var 0) V.n_isinstance V.n_tuple (by rfl)))) (tw_or1 (tt_not (tt_LtE_LtE C (tr_var 1) (tr_b_len C V.n_len rfl (tra_cons (tr_var 0) tra_nil)) (tr_var 2)))))) (ts_one (tr_ret tr_bl)) ts_nil) (ts_one (tr_ret (tr_and (tr_b_all C V.n_all rfl (tra_cons (tr_lc (own := [("name", 3)]) C (ti_seq C (tr_var 0)) (blkOk_by (by rfl)) (fun _ _ _ _ _ => have ND := C.nd; (tg_nm 3 ND)) (fun _ _ _ _ _ C => tts_nil) (fun _ _ _ _ _ C => (tr_call C (IH.o_1.mono (Nat.le_add_right _ 2)) V.g_1 V.d_1.kp (b_1 V) (tar_v (tr_var 3) tar_nil)))) tra_nil)) (tr_one (tr_call C (IH.o_2.mono (Nat.le_add_right _ 2)) V.g_2 V.d_2.kp (b_2 V) (tar_v (tr_var 0) tar_nil)))))))
theorem sc_4 : FnScope ["thing", "word", "kinds", "pupils", "days", "low", "high", "day"] ["thing"] (defScope (top 23)) := ⟨rfl, rfl, rfl, by decide +kernel, rfl, by decide +kernel, by decide +kernel⟩
theorem ok_4 (V : EV K mg fd w) (IH : OKS P w K mg base fd k) : FnOk P w K mg base (L2N.CX P w) (3 * (k + 1)) (a_4 K) (fd 4) ["thing"] (spF (Gc K w) 1 (rf_4 (callF k))) :=
  fn_ok (P := P) (w := w) (G := Gc K w) (mg := mg) (base := base) (k := 3 * k + 2) (N := ["thing", "word", "kinds", "pupils", "days", "low", "high", "day"]) (ps := ["thing"]) (m := mb_4 (callF k)) [] V.d_4 sc_4 (by rfl) fun cdv A outer s H E σ (C : Cok (cxF P w K mg base ["thing", "word", "kinds", "pupils", "days", "low", "high", "day"] "is_rule" (defScope (top 23)) (a_4 K) cdv A outer s H E) (pinG (Gc K w) [] σ) _ (3 * k + 2)) =>
    (ts_cons (tr_ifS (tt_w (tw_or (tt_not (tt_val (tr_isi .tuple C (tr_var 0) V.n_isinstance V.n_tuple (by rfl)))) (tw_or (tt_NotEq C (tr_b_len C V.n_len rfl (tra_cons (tr_var 0) tra_nil)) tr_int) (tw_or1 (tt_not (tt_val (tr_isi .str C (tr_Ix C (tr_var 0) tr_int) V.n_isinstance V.n_str (by rfl)))))))) (ts_one (tr_ret tr_bl)) ts_nil) (ts_cons (tr_put (tr_var 0) (tg_tup C (tg_cons (tg_nm 1 C.nd) (tg_cons (tg_nm 2 C.nd) (tg_cons (tg_nm 3 C.nd) (tg_cons (tg_nm 4 C.nd) (tg_cons (tg_nm 5 C.nd) (tg_cons (tg_nm 6 C.nd) tg_nil)))))))) (ts_cons (tr_ifS (tt_w (tw_or (tt_NotIn C (tr_var 1) (tr_tup (tra_cons (tr_str [108, 101, 116]) (tra_cons (tr_str [98, 97, 114]) tra_nil)))) (tw_or (tt_not (tt_val (tr_call C (IH.o_3.mono (Nat.le_add_right _ 2)) V.g_3 V.d_3.kp (b_3 V) (tar_v (tr_var 2) (tar_v tr_int (tar_v tr_int tar_nil)))))) (tw_or1 (tt_not (tt_val (tr_call C (IH.o_3.mono (Nat.le_add_right _ 2)) V.g_3 V.d_3.kp (b_3 V) (tar_v (tr_var 3) (tar_v tr_int (tar_v tr_int tar_nil)))))))))) (ts_one (tr_ret tr_bl)) ts_nil) (ts_cons (tr_ifS (tt_w (tw_or (tt_not (tt_val (tr_isi .tuple C (tr_var 4) V.n_isinstance V.n_tuple (by rfl)))) (tw_or (tt_not (tt_val (tr_b_all C V.n_all rfl (tra_cons (tr_lc (own := [("day", 7)]) C (ti_seq C (tr_var 4)) (blkOk_by (by rfl)) (fun _ _ _ _ _ => have ND := C.nd; (tg_nm 7 ND)) (fun _ _ _ _ _ C => tts_nil) (fun _ _ _ _ _ C => (tr_call C (IH.o_0.mono (Nat.le_add_right _ 2)) V.g_0 V.d_0.kp (b_0 V) (tar_v (tr_var 7) (tar_v tr_int (tar_v tr_int tar_nil)))))) tra_nil)))) (tw_or1 (tt_not (tt_val (tr_call C (IH.o_2.mono (Nat.le_add_right _ 2)) V.g_2 V.d_2.kp (b_2 V) (tar_v (tr_var 4) tar_nil)))))))) (ts_one (tr_ret tr_bl)) ts_nil) (ts_one (tr_ret (tr_and (tr_call C (IH.o_0.mono (Nat.le_add_right _ 2)) V.g_0 V.d_0.kp (b_0 V) (tar_v (tr_var 5) (tar_v tr_int (tar_v (C_MOST_PENCE V) tar_nil)))) (tr_one (tr_call C (IH.o_0.mono (Nat.le_add_right _ 2)) V.g_0 V.d_0.kp (b_0 V) (tar_v (tr_var 6) (tar_v (tr_var 5) (tar_v (C_MOST_PENCE V) tar_nil))))))))))))
theorem sc_5 : FnScope ["thing", "rule"] ["thing"] (defScope (top 24)) := ⟨rfl, rfl, rfl, by decide +kernel, rfl, by decide +kernel, by decide +kernel⟩
theorem ok_5 (V : EV K mg fd w) (IH : OKS P w K mg base fd k) : FnOk P w K mg base (L2N.CX P w) (3 * (k + 1)) (a_5 K) (fd 5) ["thing"] (spF (Gc K w) 1 (rf_5 (callF k))) :=
  fn_ok (P := P) (w := w) (G := Gc K w) (mg := mg) (base := base) (k := 3 * k + 2) (N := ["thing", "rule"]) (ps := ["thing"]) (m := mb_5 (callF k)) [] V.d_5 sc_5 (by rfl) fun cdv A outer s H E σ (C : Cok (cxF P w K mg base ["thing", "rule"] "is_book" (defScope (top 24)) (a_5 K) cdv A outer s H E) (pinG (Gc K w) [] σ) _ (3 * k + 2)) =>
    (ts_one (tr_ret (tr_and (tr_isi .tuple C (tr_var 0) V.n_isinstance V.n_tuple (by rfl)) (tr_and (tr_LtE C (tr_b_len C V.n_len rfl (tra_cons (tr_var 0) tra_nil)) (C_MOST_RULES V)) (tr_one (tr_b_all C V.n_all rfl (tra_cons (tr_lc (own := [("rule", 1)]) C (ti_seq C (tr_var 0)) (blkOk_by (by rfl)) (fun _ _ _ _ _ => have ND := C.nd; (tg_nm 1 ND)) (fun _ _ _ _ _ C => tts_nil) (fun _ _ _ _ _ C => (tr_call C (IH.o_4.mono (Nat.le_add_right _ 2)) V.g_4 V.d_4.kp (b_4 V) (tar_v (tr_var 1) tar_nil)))) tra_nil)))))))
theorem sc_6 : FnScope ["_law_script", "_law_k", "_law_cell"] ["_law_script", "_law_k"] (defScope (top 46)) := ⟨rfl, rfl, rfl, by decide +kernel, rfl, by decide +kernel, by decide +kernel⟩
theorem ok_6 (V : EV K mg fd w) (IH : OKS P w K mg base fd k) : FnOk P w K mg base (L2N.CX P w) (3 * (k + 1)) (a_6 K) (fd 6) ["_law_script", "_law_k"] (spF (Gc K w) 2 (rf_6 (callF k))) :=
  fn_ok (P := P) (w := w) (G := Gc K w) (mg := mg) (base := base) (k := 3 * k + 2) (N := ["_law_script", "_law_k", "_law_cell"]) (ps := ["_law_script", "_law_k"]) (m := mb_6 (callF k)) [] V.d_6 sc_6 (by rfl) fun cdv A outer s H E σ (C : Cok (cxF P w K mg base ["_law_script", "_law_k", "_law_cell"] "_law_draws" (defScope (top 46)) (a_6 K) cdv A outer s H E) (pinG (Gc K w) [] σ) _ (3 * k + 2)) =>
    (ts_cons (tr_set 2 C (tr_fr (tr_Mult C tr_int (tr_var 1)))) (ts_cons (tr_ifS (tt_Lt C (tr_var 1) (tr_b_len C V.n_len rfl (tra_cons (tr_var 0) tra_nil))) (ts_one (tr_set 2 C (tr_Mod C (tr_Ix C (tr_var 0) (tr_var 1)) (tr_Mult C (tr_Pow C tr_int tr_int) (tr_Pow C tr_int tr_int))))) (ts_one (tr_ifS (tt_Gt C (tr_b_len C V.n_len rfl (tra_cons (tr_var 0) tra_nil)) tr_int) (ts_one (tr_set 2 C (tr_fr (tr_Add C (tr_Mod C (tr_Ix C (tr_var 0) (tr_Mod C (tr_var 1) (tr_b_len C V.n_len rfl (tra_cons (tr_var 0) tra_nil)))) (tr_Pow C tr_int tr_int)) (tr_Mult C tr_int (tr_var 1)))))) ts_nil))) (ts_one (tr_ret (tr_lst (tra_cons (tr_Mult C (tr_var 2) (tr_b_int C V.n_int rfl (tra_cons (tr_GtE C (tr_var 2) (tr_Pow C tr_int tr_int)) tra_nil))) (tra_cons (tr_Add C tr_int (tr_Mod C (tr_Add C (tr_Mult C (tr_var 2) tr_int) (tr_Mult C tr_int (tr_Add C (tr_var 1) tr_int))) tr_int)) tra_nil)))))))
theorem sc_7 : FnScope ["_law_draws_here", "_law_many", "_law_found", "_law_wide"] ["_law_draws_here", "_law_many"] (defScope (top 47)) := ⟨rfl, rfl, rfl, by decide +kernel, rfl, by decide +kernel, by decide +kernel⟩
theorem ok_7 (V : EV K mg fd w) (IH : OKS P w K mg base fd k) : FnOk P w K mg base (L2N.CX P w) (3 * (k + 1)) (a_7 K) (fd 7) ["_law_draws_here", "_law_many"] (spF (Gc K w) 2 (rf_7 (callF k))) :=
  fn_ok (P := P) (w := w) (G := Gc K w) (mg := mg) (base := base) (k := 3 * k + 2) (N := ["_law_draws_here", "_law_many", "_law_found", "_law_wide"]) (ps := ["_law_draws_here", "_law_many"]) (m := mb_7 (callF k)) [0] V.d_7 sc_7 (by rfl) fun cdv A outer s H E σ (C : Cok (cxF P w K mg base ["_law_draws_here", "_law_many", "_law_found", "_law_wide"] "_law_draw" (defScope (top 47)) (a_7 K) cdv A outer s H E) (pinG (Gc K w) [0] σ) _ (3 * k + 2)) =>
    (ts_cons (tr_ifS (tt_Gt C (tr_ixO 0 tr_int) tr_int) (ts_cons (tr_set 2 C (tr_Mod C (tr_ixO 0 tr_int) (tr_var 1))) (ts_cons (tr_setIx 0 (tr_FloorDiv C (tr_ixO 0 tr_int) (tr_var 1)) tr_int) (ts_one (tr_ret (tr_var 2))))) ts_nil) (ts_cons (tr_set 2 C tr_int) (ts_cons (tr_set 3 C tr_int) (ts_cons (tr_while 64 C (tt_Lt C (tr_var 3) (tr_var 1)) (ts_cons (tr_setIx 0 (tr_Mod C (tr_Mult C (tr_ixO 0 tr_int) tr_int) tr_int) tr_int) (ts_cons (tr_set 2 C (tr_fr (tr_Add C (tr_Mult C (tr_var 2) tr_int) (tr_FloorDiv C (tr_Mod C (tr_Mult C (tr_ixO 0 tr_int) (tr_Add C (tr_FloorDiv C (tr_ixO 0 tr_int) tr_int) tr_int)) tr_int) tr_int)))) (ts_one (tr_set 3 C (tr_fr (tr_Mult C (tr_var 3) tr_int))))))) (ts_one (tr_ret (tr_Mod C (tr_var 2) (tr_var 1))))))))
theorem sc_8 : FnScope ["_law_draws_here", "_law_names_here", "_law_most", "_law_found", "_law_k"] ["_law_draws_here", "_law_names_here", "_law_most"] (defScope (top 48)) := ⟨rfl, rfl, rfl, by decide +kernel, rfl, by decide +kernel, by decide +kernel⟩
theorem ok_8 (V : EV K mg fd w) (IH : OKS P w K mg base fd k) : FnOk P w K mg base (L2N.CX P w) (3 * (k + 1)) (a_8 K) (fd 8) ["_law_draws_here", "_law_names_here", "_law_most"] (spF (Gc K w) 3 (rf_8 (callF k))) :=
  fn_ok (P := P) (w := w) (G := Gc K w) (mg := mg) (base := base) (k := 3 * k + 2) (N := ["_law_draws_here", "_law_names_here", "_law_most", "_law_found", "_law_k"]) (ps := ["_law_draws_here", "_law_names_here", "_law_most"]) (m := mb_8 (callF k)) [0] V.d_8 sc_8 (by rfl) fun cdv A outer s H E σ (C : Cok (cxF P w K mg base ["_law_draws_here", "_law_names_here", "_law_most", "_law_found", "_law_k"] "_law_some" (defScope (top 48)) (a_8 K) cdv A outer s H E) (pinG (Gc K w) [0] σ) _ (3 * k + 2)) =>
    (ts_cons (tr_set 3 C tr_dnew) (ts_cons (tr_for C (ti_range1 (tr_call C (IH.o_7.mono (Nat.le_add_right _ 2)) V.g_7 V.d_7.kp (b_7 V) (tar_b 0 (tar_v (tr_Add C (tr_var 2) tr_int) tar_nil))) V.n_range) (tg_nm 4 C.nd) (ts_one (tr_dput 3 C tr_bl (tr_Ix C (tr_var 1) (tr_call C (IH.o_7.mono (Nat.le_add_right _ 2)) V.g_7 V.d_7.kp (b_7 V) (tar_b 0 (tar_v (tr_b_len C V.n_len rfl (tra_cons (tr_var 1) tra_nil)) tar_nil))))))) (ts_one (tr_ret (tr_b_tuple C V.n_tuple rfl (tra_cons (tr_b_sorted C V.n_sorted rfl (tra_cons (tr_peekL (W' := _) (tr_b_list C V.n_list rfl (tra_cons (tr_var 3) tra_nil))) tra_nil)) tra_nil))))))
theorem sc_9 : FnScope ["_law_draws_here", "_law_kinds", "_law_pupils", "_law_far", "_law_low", "_law_high", "_law_days", "_law_word"] ["_law_draws_here", "_law_kinds", "_law_pupils", "_law_far"] (defScope (top 49)) := ⟨rfl, rfl, rfl, by decide +kernel, rfl, by decide +kernel, by decide +kernel⟩
theorem ok_9 (V : EV K mg fd w) (IH : OKS P w K mg base fd k) : FnOk P w K mg base (L2N.CX P w) (3 * (k + 1)) (a_9 K) (fd 9) ["_law_draws_here", "_law_kinds", "_law_pupils", "_law_far"] (spF (Gc K w) 4 (rf_9 (callF k))) :=
  fn_ok (P := P) (w := w) (G := Gc K w) (mg := mg) (base := base) (k := 3 * k + 2) (N := ["_law_draws_here", "_law_kinds", "_law_pupils", "_law_far", "_law_low", "_law_high", "_law_days", "_law_word"]) (ps := ["_law_draws_here", "_law_kinds", "_law_pupils", "_law_far"]) (m := mb_9 (callF k)) [0] V.d_9 sc_9 (by rfl) fun cdv A outer s H E σ (C : Cok (cxF P w K mg base ["_law_draws_here", "_law_kinds", "_law_pupils", "_law_far", "_law_low", "_law_high", "_law_days", "_law_word"] "_law_rule" (defScope (top 49)) (a_9 K) cdv A outer s H E) (pinG (Gc K w) [0] σ) _ (3 * k + 2)) =>
    (ts_cons (tr_set 4 C (tr_fr (tr_Add C tr_int (tr_Ix C (tr_lst (tra_cons tr_int (tra_cons (tr_call C (IH.o_7.mono (Nat.le_add_right _ 2)) V.g_7 V.d_7.kp (b_7 V) (tar_b 0 (tar_v tr_int tar_nil))) (tra_cons (tr_call C (IH.o_7.mono (Nat.le_add_right _ 2)) V.g_7 V.d_7.kp (b_7 V) (tar_b 0 (tar_v (tr_var 3) tar_nil))) tra_nil)))) (tr_call C (IH.o_7.mono (Nat.le_add_right _ 2)) V.g_7 V.d_7.kp (b_7 V) (tar_b 0 (tar_v tr_int tar_nil))))))) (ts_cons (tr_set 5 C (tr_b_min C V.n_min rfl (tra_cons (tr_Pow C tr_int tr_int) (tra_cons (tr_Add C (tr_var 4) (tr_Ix C (tr_lst (tra_cons tr_int (tra_cons (tr_call C (IH.o_7.mono (Nat.le_add_right _ 2)) V.g_7 V.d_7.kp (b_7 V) (tar_b 0 (tar_v tr_int tar_nil))) (tra_cons (tr_call C (IH.o_7.mono (Nat.le_add_right _ 2)) V.g_7 V.d_7.kp (b_7 V) (tar_b 0 (tar_v (tr_var 3) tar_nil))) (tra_cons (tr_Pow C tr_int tr_int) tra_nil))))) (tr_call C (IH.o_7.mono (Nat.le_add_right _ 2)) V.g_7 V.d_7.kp (b_7 V) (tar_b 0 (tar_v tr_int tar_nil))))) tra_nil)))) (ts_cons (tr_set 6 C (tr_call C (IH.o_8.mono (Nat.le_add_right _ 2)) V.g_8 V.d_8.kp (b_8 V) (tar_b 0 (tar_v (tr_listRg1 C tr_int V.n_list V.n_range) (tar_v (tr_Ix C (tr_lst (tra_cons tr_int (tra_cons tr_int (tra_cons tr_int tra_nil)))) (tr_call C (IH.o_7.mono (Nat.le_add_right _ 2)) V.g_7 V.d_7.kp (b_7 V) (tar_b 0 (tar_v tr_int tar_nil)))) tar_nil))))) (ts_cons (tr_set 7 C (tr_Ix C (tr_lst (tra_cons (tr_str [98, 97, 114]) (tra_cons (tr_str [108, 101, 116]) tra_nil))) (tr_FloorDiv C (tr_call C (IH.o_7.mono (Nat.le_add_right _ 2)) V.g_7 V.d_7.kp (b_7 V) (tar_b 0 (tar_v tr_int tar_nil))) tr_int))) (ts_one (tr_ret (tr_tup (tra_cons (tr_var 7) (tra_cons (tr_call C (IH.o_8.mono (Nat.le_add_right _ 2)) V.g_8 V.d_8.kp (b_8 V) (tar_b 0 (tar_v (tr_var 1) (tar_v tr_int tar_nil)))) (tra_cons (tr_call C (IH.o_8.mono (Nat.le_add_right _ 2)) V.g_8 V.d_8.kp (b_8 V) (tar_b 0 (tar_v (tr_var 2) (tar_v tr_int tar_nil)))) (tra_cons (tr_var 6) (tra_cons (tr_var 4) (tra_cons (tr_var 5) tra_nil)))))))))))))
theorem sc_10 : FnScope ["_law_draws_here", "_law_kinds", "_law_pupils", "_law_far", "_law_k"] ["_law_draws_here", "_law_kinds", "_law_pupils"] (defScope (top 50)) := ⟨rfl, rfl, rfl, by decide +kernel, rfl, by decide +kernel, by decide +kernel⟩
theorem ok_10 (V : EV K mg fd w) (IH : OKS P w K mg base fd k) : FnOk P w K mg base (L2N.CX P w) (3 * (k + 1)) (a_10 K) (fd 10) ["_law_draws_here", "_law_kinds", "_law_pupils"] (spF (Gc K w) 3 (rf_10 (callF k))) :=
  fn_ok (P := P) (w := w) (G := Gc K w) (mg := mg) (base := base) (k := 3 * k + 2) (N := ["_law_draws_here", "_law_kinds", "_law_pupils", "_law_far", "_law_k"]) (ps := ["_law_draws_here", "_law_kinds", "_law_pupils"]) (m := mb_10 (callF k)) [0] V.d_10 sc_10 (by rfl) fun cdv A outer s H E σ (C : Cok (cxF P w K mg base ["_law_draws_here", "_law_kinds", "_law_pupils", "_law_far", "_law_k"] "_law_book" (defScope (top 50)) (a_10 K) cdv A outer s H E) (pinG (Gc K w) [0] σ) _ (3 * k + 2)) =>
    (ts_cons (tr_set 3 C (tr_Ix C (tr_lst (tra_cons tr_int (tra_cons (tr_Pow C tr_int tr_int) tra_nil))) (tr_FloorDiv C (tr_call C (IH.o_7.mono (Nat.le_add_right _ 2)) V.g_7 V.d_7.kp (b_7 V) (tar_b 0 (tar_v tr_int tar_nil))) tr_int))) (ts_one (tr_ret (tr_b_tuple C V.n_tuple rfl (tra_cons (tr_lc (own := [("_law_k", 4)]) C (ti_range1 (tr_call C (IH.o_7.mono (Nat.le_add_right _ 2)) V.g_7 V.d_7.kp (b_7 V) (tar_b 0 (tar_v tr_int tar_nil))) V.n_range) (blkOk_by (by rfl)) (fun _ _ _ _ _ => have ND := C.nd; (tg_nm 4 ND)) (fun _ _ _ _ _ C => tts_nil) (fun _ _ _ _ _ C => (tr_call C (IH.o_9.mono (Nat.le_add_right _ 2)) V.g_9 V.d_9.kp (b_9 V) (tar_b 0 (tar_v (tr_var 1) (tar_v (tr_var 2) (tar_v (tr_var 3) tar_nil))))))) tra_nil)))))
theorem sc_14 : FnScope ["_law_thing", "_law_sign"] ["_law_thing"] (defScope (top 40)) := ⟨rfl, rfl, rfl, by decide +kernel, rfl, by decide +kernel, by decide +kernel⟩
theorem ok_14 (V : EV K mg fd w) (IH : OKS P w K mg base fd k) : FnOk P w K mg base (L2N.CX P w) (3 * (k + 1)) (a_14 K) (fd 14) ["_law_thing"] (spF (Gc K w) 1 (rf_14 (callF k))) :=
  fn_ok (P := P) (w := w) (G := Gc K w) (mg := mg) (base := base) (k := 3 * k + 2) (N := ["_law_thing", "_law_sign"]) (ps := ["_law_thing"]) (m := mb_14 (callF k)) [] V.d_14 sc_14 (by rfl) fun cdv A outer s H E σ (C : Cok (cxF P w K mg base ["_law_thing", "_law_sign"] "_law_is_name" (defScope (top 40)) (a_14 K) cdv A outer s H E) (pinG (Gc K w) [] σ) _ (3 * k + 2)) =>
    (ts_cons (tr_ifS (tt_w (tw_or (tt_not (tt_val (tr_isi .str C (tr_var 0) V.n_isinstance V.n_str (by rfl)))) (tw_or (tt_Lt C (tr_b_len C V.n_len rfl (tra_cons (tr_var 0) tra_nil)) tr_int) (tw_or1 (tt_Gt C (tr_b_len C V.n_len rfl (tra_cons (tr_var 0) tra_nil)) tr_int))))) (ts_one (tr_ret tr_bl)) ts_nil) (ts_one (tr_ret (tr_Eq C (tr_lc (own := [("_law_sign", 1)]) C (ti_str (tr_var 0)) (blkOk_by (by rfl)) (fun _ _ _ _ _ => have ND := C.nd; (tg_nm 1 ND)) (fun _ _ _ _ _ C => (tts_one (tt_NotIn C (tr_var 1) (tr_str [97, 98, 99, 100, 101, 102, 103, 104, 105, 106, 107, 108, 109, 110, 111, 112, 113, 114, 115, 116, 117, 118, 119, 120, 121, 122])))) (fun _ _ _ _ _ C => (tr_var 1))) (tr_lst tra_nil)))))
theorem sc_15 : FnScope ["_law_thing", "_law_few", "_law_many", "_law_k"] ["_law_thing", "_law_few", "_law_many"] (defScope (top 41)) := ⟨rfl, rfl, rfl, by decide +kernel, rfl, by decide +kernel, by decide +kernel⟩
theorem ok_15 (V : EV K mg fd w) (IH : OKS P w K mg base fd k) : FnOk P w K mg base (L2N.CX P w) (3 * (k + 1)) (a_15 K) (fd 15) ["_law_thing", "_law_few", "_law_many"] (spF (Gc K w) 3 (rf_15 (callF k))) :=
  fn_ok (P := P) (w := w) (G := Gc K w) (mg := mg) (base := base) (k := 3 * k + 2) (N := ["_law_thing", "_law_few", "_law_many", "_law_k"]) (ps := ["_law_thing", "_law_few", "_law_many"]) (m := mb_15 (callF k)) [] V.d_15 sc_15 (by rfl) fun cdv A outer s H E σ (C : Cok (cxF P w K mg base ["_law_thing", "_law_few", "_law_many", "_law_k"] "_law_are_rising" (defScope (top 41)) (a_15 K) cdv A outer s H E) (pinG (Gc K w) [] σ) _ (3 * k + 2)) =>
    (ts_cons (tr_ifS (tt_w (tw_or (tt_not (tt_val (tr_isi .tuple C (tr_var 0) V.n_isinstance V.n_tuple (by rfl)))) (tw_or (tt_Lt C (tr_b_len C V.n_len rfl (tra_cons (tr_var 0) tra_nil)) (tr_var 1)) (tw_or1 (tt_Gt C (tr_b_len C V.n_len rfl (tra_cons (tr_var 0) tra_nil)) (tr_var 2)))))) (ts_one (tr_ret tr_bl)) ts_nil) (ts_one (tr_ret (tr_Eq C (tr_lc (own := [("_law_k", 3)]) C (ti_range2 tr_int (tr_b_len C V.n_len rfl (tra_cons (tr_var 0) tra_nil)) V.n_range) (blkOk_by (by rfl)) (fun _ _ _ _ _ => have ND := C.nd; (tg_nm 3 ND)) (fun _ _ _ _ _ C => (tts_one (tt_GtE C (tr_Ix C (tr_var 0) (tr_Sub C (tr_var 3) tr_int)) (tr_Ix C (tr_var 0) (tr_var 3))))) (fun _ _ _ _ _ C => (tr_var 3))) (tr_lst tra_nil)))))
theorem sc_16 : FnScope ["_law_thing", "_law_few", "_law_many", "_law_name"] ["_law_thing", "_law_few", "_law_many"] (defScope (top 42)) := ⟨rfl, rfl, rfl, by decide +kernel, rfl, by decide +kernel, by decide +kernel⟩
theorem ok_16 (V : EV K mg fd w) (IH : OKS P w K mg base fd k) : FnOk P w K mg base (L2N.CX P w) (3 * (k + 1)) (a_16 K) (fd 16) ["_law_thing", "_law_few", "_law_many"] (spF (Gc K w) 3 (rf_16 (callF k))) :=
  fn_ok (P := P) (w := w) (G := Gc K w) (mg := mg) (base := base) (k := 3 * k + 2) (N := ["_law_thing", "_law_few", "_law_many", "_law_name"]) (ps := ["_law_thing", "_law_few", "_law_many"]) (m := mb_16 (callF k)) [] V.d_16 sc_16 (by rfl) fun cdv A outer s H E σ (C : Cok (cxF P w K mg base ["_law_thing", "_law_few", "_law_many", "_law_name"] "_law_are_names" (defScope (top 42)) (a_16 K) cdv A outer s H E) (pinG (Gc K w) [] σ) _ (3 * k + 2)) =>
    (ts_cons (tr_ifS (tt_w (tw_or (tt_not (tt_val (tr_isi .tuple C (tr_var 0) V.n_isinstance V.n_tuple (by rfl)))) (tw_or1 (tt_NotEq C (tr_lc (own := [("_law_name", 3)]) C (ti_seq C (tr_var 0)) (blkOk_by (by rfl)) (fun _ _ _ _ _ => have ND := C.nd; (tg_nm 3 ND)) (fun _ _ _ _ _ C => (tts_one (tt_not (tt_val (tr_call C (IH.o_14.mono (Nat.le_add_right _ 2)) V.g_14 V.d_14.kp (b_14 V) (tar_v (tr_var 3) tar_nil)))))) (fun _ _ _ _ _ C => (tr_var 3))) (tr_lst tra_nil))))) (ts_one (tr_ret tr_bl)) ts_nil) (ts_one (tr_ret (tr_call C (IH.o_15.mono (Nat.le_add_right _ 2)) V.g_15 V.d_15.kp (b_15 V) (tar_v (tr_var 0) (tar_v (tr_var 1) (tar_v (tr_var 2) tar_nil)))))))
theorem sc_17 : FnScope ["_law_thing", "_law_low", "_law_high"] ["_law_thing", "_law_low", "_law_high"] (defScope (top 43)) := ⟨rfl, rfl, rfl, by decide +kernel, rfl, by decide +kernel, by decide +kernel⟩
theorem ok_17 (V : EV K mg fd w) (IH : OKS P w K mg base fd k) : FnOk P w K mg base (L2N.CX P w) (3 * (k + 1)) (a_17 K) (fd 17) ["_law_thing", "_law_low", "_law_high"] (spF (Gc K w) 3 (rf_17 (callF k))) :=
  fn_ok (P := P) (w := w) (G := Gc K w) (mg := mg) (base := base) (k := 3 * k + 2) (N := ["_law_thing", "_law_low", "_law_high"]) (ps := ["_law_thing", "_law_low", "_law_high"]) (m := mb_17 (callF k)) [] V.d_17 sc_17 (by rfl) fun cdv A outer s H E σ (C : Cok (cxF P w K mg base ["_law_thing", "_law_low", "_law_high"] "_law_within" (defScope (top 43)) (a_17 K) cdv A outer s H E) (pinG (Gc K w) [] σ) _ (3 * k + 2)) =>
    (ts_one (tr_ret (tr_and (tr_isi .int C (tr_var 0) V.n_isinstance V.n_int (by rfl)) (tr_and (tr_not (tr_isi .bool C (tr_var 0) V.n_isinstance V.n_bool (by rfl))) (tr_and (tr_LtE C (tr_var 1) (tr_var 0)) (tr_one (tr_LtE C (tr_var 0) (tr_var 2))))))))
theorem sc_18 : FnScope ["_law_thing", "_law_day"] ["_law_thing"] (defScope (top 44)) := ⟨rfl, rfl, rfl, by decide +kernel, rfl, by decide +kernel, by decide +kernel⟩
theorem ok_18 (V : EV K mg fd w) (IH : OKS P w K mg base fd k) : FnOk P w K mg base (L2N.CX P w) (3 * (k + 1)) (a_18 K) (fd 18) ["_law_thing"] (spF (Gc K w) 1 (rf_18 (callF k))) :=
  fn_ok (P := P) (w := w) (G := Gc K w) (mg := mg) (base := base) (k := 3 * k + 2) (N := ["_law_thing", "_law_day"]) (ps := ["_law_thing"]) (m := mb_18 (callF k)) [] V.d_18 sc_18 (by rfl) fun cdv A outer s H E σ (C : Cok (cxF P w K mg base ["_law_thing", "_law_day"] "_law_is_rule" (defScope (top 44)) (a_18 K) cdv A outer s H E) (pinG (Gc K w) [] σ) _ (3 * k + 2)) =>
    (ts_cons (tr_ifS (tt_w (tw_or (tt_not (tt_val (tr_isi .tuple C (tr_var 0) V.n_isinstance V.n_tuple (by rfl)))) (tw_or (tt_NotEq C (tr_b_len C V.n_len rfl (tra_cons (tr_var 0) tra_nil)) tr_int) (tw_or1 (tt_not (tt_val (tr_isi .str C (tr_Ix C (tr_var 0) tr_int) V.n_isinstance V.n_str (by rfl)))))))) (ts_one (tr_ret tr_bl)) ts_nil) (ts_cons (tr_ifS (tt_NotIn C (tr_Ix C (tr_var 0) tr_int) (tr_tup (tra_cons (tr_str [108, 101, 116]) (tra_cons (tr_str [98, 97, 114]) tra_nil)))) (ts_one (tr_ret tr_bl)) ts_nil) (ts_cons (tr_ifS (tt_w (tw_or (tt_not (tt_val (tr_call C (IH.o_16.mono (Nat.le_add_right _ 2)) V.g_16 V.d_16.kp (b_16 V) (tar_v (tr_Ix C (tr_var 0) tr_int) (tar_v tr_int (tar_v tr_int tar_nil)))))) (tw_or (tt_not (tt_val (tr_call C (IH.o_16.mono (Nat.le_add_right _ 2)) V.g_16 V.d_16.kp (b_16 V) (tar_v (tr_Ix C (tr_var 0) tr_int) (tar_v tr_int (tar_v tr_int tar_nil)))))) (tw_or1 (tt_not (tt_val (tr_isi .tuple C (tr_Ix C (tr_var 0) tr_int) V.n_isinstance V.n_tuple (by rfl)))))))) (ts_one (tr_ret tr_bl)) ts_nil) (ts_cons (tr_ifS (tt_w (tw_or (tt_NotEq C (tr_lc (own := [("_law_day", 1)]) C (ti_seq C (tr_Ix C (tr_var 0) tr_int)) (blkOk_by (by rfl)) (fun _ _ _ _ _ => have ND := C.nd; (tg_nm 1 ND)) (fun _ _ _ _ _ C => (tts_one (tt_not (tt_val (tr_call C (IH.o_17.mono (Nat.le_add_right _ 2)) V.g_17 V.d_17.kp (b_17 V) (tar_v (tr_var 1) (tar_v tr_int (tar_v tr_int tar_nil)))))))) (fun _ _ _ _ _ C => (tr_var 1))) (tr_lst tra_nil)) (tw_or1 (tt_not (tt_val (tr_call C (IH.o_15.mono (Nat.le_add_right _ 2)) V.g_15 V.d_15.kp (b_15 V) (tar_v (tr_Ix C (tr_var 0) tr_int) (tar_v tr_int (tar_v tr_int tar_nil))))))))) (ts_one (tr_ret tr_bl)) ts_nil) (ts_one (tr_ret (tr_andV C (tr_call C (IH.o_17.mono (Nat.le_add_right _ 2)) V.g_17 V.d_17.kp (b_17 V) (tar_v (tr_Ix C (tr_var 0) tr_int) (tar_v tr_int (tar_v (tr_Pow C tr_int tr_int) tar_nil)))) (tr_one (tr_call C (IH.o_17.mono (Nat.le_add_right _ 2)) V.g_17 V.d_17.kp (b_17 V) (tar_v (tr_Ix C (tr_var 0) tr_int) (tar_v (tr_Ix C (tr_var 0) tr_int) (tar_v (tr_Pow C tr_int tr_int) tar_nil))))))))))))
theorem sc_19 : FnScope ["_law_thing", "_law_rule_here"] ["_law_thing"] (defScope (top 45)) := ⟨rfl, rfl, rfl, by decide +kernel, rfl, by decide +kernel, by decide +kernel⟩
theorem ok_19 (V : EV K mg fd w) (IH : OKS P w K mg base fd k) : FnOk P w K mg base (L2N.CX P w) (3 * (k + 1)) (a_19 K) (fd 19) ["_law_thing"] (spF (Gc K w) 1 (rf_19 (callF k))) :=
  fn_ok (P := P) (w := w) (G := Gc K w) (mg := mg) (base := base) (k := 3 * k + 2) (N := ["_law_thing", "_law_rule_here"]) (ps := ["_law_thing"]) (m := mb_19 (callF k)) [] V.d_19 sc_19 (by rfl) fun cdv A outer s H E σ (C : Cok (cxF P w K mg base ["_law_thing", "_law_rule_here"] "_law_is_book" (defScope (top 45)) (a_19 K) cdv A outer s H E) (pinG (Gc K w) [] σ) _ (3 * k + 2)) =>
    (ts_cons (tr_ifS (tt_w (tw_or (tt_not (tt_val (tr_isi .tuple C (tr_var 0) V.n_isinstance V.n_tuple (by rfl)))) (tw_or1 (tt_Gt C (tr_b_len C V.n_len rfl (tra_cons (tr_var 0) tra_nil)) tr_int)))) (ts_one (tr_ret tr_bl)) ts_nil) (ts_one (tr_ret (tr_Eq C (tr_lc (own := [("_law_rule_here", 1)]) C (ti_seq C (tr_var 0)) (blkOk_by (by rfl)) (fun _ _ _ _ _ => have ND := C.nd; (tg_nm 1 ND)) (fun _ _ _ _ _ C => (tts_one (tt_not (tt_val (tr_call C (IH.o_18.mono (Nat.le_add_right _ 2)) V.g_18 V.d_18.kp (b_18 V) (tar_v (tr_var 1) tar_nil)))))) (fun _ _ _ _ _ C => (tr_var 1))) (tr_lst tra_nil)))))
theorem sc_23 : FnScope ["book"] ["book"] (defScope (top 25)) := ⟨rfl, rfl, rfl, by decide +kernel, rfl, by decide +kernel, by decide +kernel⟩
theorem ok_23 (V : EV K mg fd w) (IH : OKS P w K mg base fd k) : FnOk P w K mg base (L2N.CX P w) (3 * (k + 1)) (a_23 K) (fd 23) ["book"] (spF (Gc K w) 1 (rf_23 (callF k))) :=
  fn_ok (P := P) (w := w) (G := Gc K w) (mg := mg) (base := base) (k := 3 * k + 2) (N := ["book"]) (ps := ["book"]) (m := mb_23 (callF k)) [] V.d_23 sc_23 (by rfl) fun cdv A outer s H E σ (C : Cok (cxF P w K mg base ["book"] "need_book" (defScope (top 25)) (a_23 K) cdv A outer s H E) (pinG (Gc K w) [] σ) _ (3 * k + 2)) =>
    (ts_one (tr_ifS (tt_not (tt_val (tr_call C (IH.o_5.mono (Nat.le_add_right _ 2)) V.g_5 V.d_5.kp (b_5 V) (tar_v (tr_var 0) tar_nil)))) (ts_one (tr_raise 13 C V.xr_NoBook V.gx_NoBook)) ts_nil))
theorem sc_33 : FnScope ["some", "one"] ["some"] (defScope (top 31)) := ⟨rfl, rfl, rfl, by decide +kernel, rfl, by decide +kernel, by decide +kernel⟩
theorem ok_33 (V : EV K mg fd w) (IH : OKS P w K mg base fd k) : FnOk P w K mg base (L2N.CX P w) (3 * (k + 1)) (a_33 K) (fd 33) ["some"] (spF (Gc K w) 1 (rf_33 (callF k))) :=
  fn_ok (P := P) (w := w) (G := Gc K w) (mg := mg) (base := base) (k := 3 * k + 2) (N := ["some", "one"]) (ps := ["some"]) (m := mb_33 (callF k)) [] V.d_33 sc_33 (by rfl) fun cdv A outer s H E σ (C : Cok (cxF P w K mg base ["some", "one"] "some_text" (defScope (top 31)) (a_33 K) cdv A outer s H E) (pinG (Gc K w) [] σ) _ (3 * k + 2)) =>
    (ts_one (tr_ret (tr_orV C (tr_join (tr_str [44]) (tr_lc (own := [("one", 1)]) C (ti_seq C (tr_var 0)) (blkOk_by (by rfl)) (fun _ _ _ _ _ => have ND := C.nd; (tg_nm 1 ND)) (fun _ _ _ _ _ C => tts_nil) (fun _ _ _ _ _ C => (tr_strA V.n_str (tra_cons (tr_var 1) tra_nil))))) (tr_one (tr_str [42])))))
theorem sc_34 : FnScope ["rule", "words", "some"] ["rule"] (defScope (top 32)) := ⟨rfl, rfl, rfl, by decide +kernel, rfl, by decide +kernel, by decide +kernel⟩
theorem ok_34 (V : EV K mg fd w) (IH : OKS P w K mg base fd k) : FnOk P w K mg base (L2N.CX P w) (3 * (k + 1)) (a_34 K) (fd 34) ["rule"] (spF (Gc K w) 1 (rf_34 (callF k))) :=
  fn_ok (P := P) (w := w) (G := Gc K w) (mg := mg) (base := base) (k := 3 * k + 2) (N := ["rule", "words", "some"]) (ps := ["rule"]) (m := mb_34 (callF k)) [] V.d_34 sc_34 (by rfl) fun cdv A outer s H E σ (C : Cok (cxF P w K mg base ["rule", "words", "some"] "rule_text" (defScope (top 32)) (a_34 K) cdv A outer s H E) (pinG (Gc K w) [] σ) _ (3 * k + 2)) =>
    (ts_cons (tr_set 1 C (tr_fr (tr_Add C (tr_Add C (tr_lst (tra_cons (tr_Ix C (tr_var 0) tr_int) tra_nil)) (tr_lc (own := [("some", 2)]) C (ti_seq C (tr_sl C (tr_var 0) (to_some tr_int) (to_some tr_int))) (blkOk_by (by rfl)) (fun _ _ _ _ _ => have ND := C.nd; (tg_nm 2 ND)) (fun _ _ _ _ _ C => tts_nil) (fun _ _ _ _ _ C => (tr_call C (IH.o_33.mono (Nat.le_add_right _ 2)) V.g_33 V.d_33.kp (b_33 V) (tar_v (tr_var 2) tar_nil))))) (tr_lst (tra_cons (tr_strA V.n_str (tra_cons (tr_Ix C (tr_var 0) tr_int) tra_nil)) (tra_cons (tr_strA V.n_str (tra_cons (tr_Ix C (tr_var 0) tr_int) tra_nil)) tra_nil)))))) (ts_one (tr_ret (tr_join (tr_str [32]) (tr_var 1)))))
theorem sc_35 : FnScope ["book", "rule"] ["book"] (defScope (top 33)) := ⟨rfl, rfl, rfl, by decide +kernel, rfl, by decide +kernel, by decide +kernel⟩
theorem ok_35 (V : EV K mg fd w) (IH : OKS P w K mg base fd k) : FnOk P w K mg base (L2N.CX P w) (3 * (k + 1)) (a_35 K) (fd 35) ["book"] (spF (Gc K w) 1 (rf_35 (callF k))) :=
  fn_ok (P := P) (w := w) (G := Gc K w) (mg := mg) (base := base) (k := 3 * k + 2) (N := ["book", "rule"]) (ps := ["book"]) (m := mb_35 (callF k)) [] V.d_35 sc_35 (by rfl) fun cdv A outer s H E σ (C : Cok (cxF P w K mg base ["book", "rule"] "book_text" (defScope (top 33)) (a_35 K) cdv A outer s H E) (pinG (Gc K w) [] σ) _ (3 * k + 2)) =>
    (ts_cons (tr_drop (tr_call C (IH.o_23.mono (Nat.le_add_right _ 2)) V.g_23 V.d_23.kp (b_23 V) (tar_v (tr_var 0) tar_nil))) (ts_one (tr_ret (tr_join (tr_str [10]) (tr_lc (own := [("rule", 1)]) C (ti_seq C (tr_var 0)) (blkOk_by (by rfl)) (fun _ _ _ _ _ => have ND := C.nd; (tg_nm 1 ND)) (fun _ _ _ _ _ C => tts_nil) (fun _ _ _ _ _ C => (tr_call C (IH.o_34.mono (Nat.le_add_right _ 2)) V.g_34 V.d_34.kp (b_34 V) (tar_v (tr_var 1) tar_nil))))))))
theorem sc_37 : FnScope ["_law_draws_here", "_law_many", "_law_letters", "_law_stem", "_law_first", "_law_step", "_law_k"] ["_law_draws_here", "_law_many"] (defScope (top 51)) := ⟨rfl, rfl, rfl, by decide +kernel, rfl, by decide +kernel, by decide +kernel⟩
theorem ok_37 (V : EV K mg fd w) (IH : OKS P w K mg base fd k) : FnOk P w K mg base (L2N.CX P w) (3 * (k + 1)) (a_37 K) (fd 37) ["_law_draws_here", "_law_many"] (spF (Gc K w) 2 (rf_37 (callF k))) :=
  fn_ok (P := P) (w := w) (G := Gc K w) (mg := mg) (base := base) (k := 3 * k + 2) (N := ["_law_draws_here", "_law_many", "_law_letters", "_law_stem", "_law_first", "_law_step", "_law_k"]) (ps := ["_law_draws_here", "_law_many"]) (m := mb_37 (callF k)) [0] V.d_37 sc_37 (by rfl) fun cdv A outer s H E σ (C : Cok (cxF P w K mg base ["_law_draws_here", "_law_many", "_law_letters", "_law_stem", "_law_first", "_law_step", "_law_k"] "_law_names" (defScope (top 51)) (a_37 K) cdv A outer s H E) (pinG (Gc K w) [0] σ) _ (3 * k + 2)) =>
    (ts_cons (tr_set 2 C (tr_str [97, 98, 99, 100, 101, 102, 103, 104, 105, 106, 107, 108, 109, 110, 111, 112, 113, 114, 115, 116, 117, 118, 119, 120, 121, 122])) (ts_cons (tr_set 3 C (tr_join (tr_str []) (tr_lc (own := [("_law_k", 6)]) C (ti_range1 (tr_Ix C (tr_lst (tra_cons tr_int (tra_cons tr_int (tra_cons tr_int (tra_cons tr_int tra_nil))))) (tr_call C (IH.o_7.mono (Nat.le_add_right _ 2)) V.g_7 V.d_7.kp (b_7 V) (tar_b 0 (tar_v tr_int tar_nil)))) V.n_range) (blkOk_by (by rfl)) (fun _ _ _ _ _ => have ND := C.nd; (tg_nm 6 ND)) (fun _ _ _ _ _ C => tts_nil) (fun _ _ _ _ _ C => (tr_Ix C (tr_var 2) (tr_call C (IH.o_7.mono (Nat.le_add_right _ 2)) V.g_7 V.d_7.kp (b_7 V) (tar_b 0 (tar_v tr_int tar_nil)))))))) (ts_cons (tr_set 4 C (tr_call C (IH.o_7.mono (Nat.le_add_right _ 2)) V.g_7 V.d_7.kp (b_7 V) (tar_b 0 (tar_v tr_int tar_nil)))) (ts_cons (tr_set 5 C (tr_Ix C (tr_lst (tra_cons tr_int (tra_cons tr_int (tra_cons tr_int (tra_cons tr_int tra_nil))))) (tr_call C (IH.o_7.mono (Nat.le_add_right _ 2)) V.g_7 V.d_7.kp (b_7 V) (tar_b 0 (tar_v tr_int tar_nil))))) (ts_one (tr_ret (tr_fr (tr_b_sorted C V.n_sorted rfl (tra_cons (tr_lc (own := [("_law_k", 6)]) C (ti_range1 (tr_var 1) V.n_range) (blkOk_by (by rfl)) (fun _ _ _ _ _ => have ND := C.nd; (tg_nm 6 ND)) (fun _ _ _ _ _ C => tts_nil) (fun _ _ _ _ _ C => (tr_Add C (tr_var 3) (tr_Ix C (tr_var 2) (tr_Mod C (tr_Add C (tr_var 4) (tr_Mult C (tr_var 5) (tr_var 6))) tr_int))))) tra_nil)))))))))
theorem sc_280 : FnScope ["word", "sign"] ["word"] (defScope (top 29)) := ⟨rfl, rfl, rfl, by decide +kernel, rfl, by decide +kernel, by decide +kernel⟩
theorem ok_280 (V : EV K mg fd w) (IH : OKS P w K mg base fd k) : FnOk P w K mg base (L2N.CX P w) (3 * (k + 1)) (a_280 K) (fd 280) ["word"] (spF (Gc K w) 1 (rf_280 (callF k))) :=
  fn_ok (P := P) (w := w) (G := Gc K w) (mg := mg) (base := base) (k := 3 * k + 2) (N := ["word", "sign"]) (ps := ["word"]) (m := mb_280 (callF k)) [] V.d_280 sc_280 (by rfl) fun cdv A outer s H E σ (C : Cok (cxF P w K mg base ["word", "sign"] "number_in" (defScope (top 29)) (a_280 K) cdv A outer s H E) (pinG (Gc K w) [] σ) _ (3 * k + 2)) =>
    (ts_cons (tr_ifS (tt_w (tw_or (tt_not (tt_LtE_LtE C tr_int (tr_b_len C V.n_len rfl (tra_cons (tr_var 0) tra_nil)) (C_MOST_FIGURES V))) (tw_or1 (tt_not (tt_val (tr_b_all C V.n_all rfl (tra_cons (tr_lc (own := [("sign", 1)]) C (ti_str (tr_var 0)) (blkOk_by (by rfl)) (fun _ _ _ _ _ => have ND := C.nd; (tg_nm 1 ND)) (fun _ _ _ _ _ C => tts_nil) (fun _ _ _ _ _ C => (tr_In C (tr_var 1) (C_FIGURES V)))) tra_nil))))))) (ts_one (tr_ret tr_non)) ts_nil) (ts_cons (tr_ifS (tt_w (tw_and (tt_Eq C (tr_Ix C (tr_var 0) tr_int) (tr_str [48])) (tw_and1 (tt_Gt C (tr_b_len C V.n_len rfl (tra_cons (tr_var 0) tra_nil)) tr_int)))) (ts_one (tr_ret tr_non)) ts_nil) (ts_one (tr_ret (tr_b_intS C V.n_int rfl (tra_cons (tr_var 0) tra_nil))))))
theorem sc_281 : FnScope ["text"] ["text"] (defScope (top 30)) := ⟨rfl, rfl, rfl, by decide +kernel, rfl, by decide +kernel, by decide +kernel⟩
theorem ok_281 (V : EV K mg fd w) (IH : OKS P w K mg base fd k) : FnOk P w K mg base (L2N.CX P w) (3 * (k + 1)) (a_281 K) (fd 281) ["text"] (spF (Gc K w) 1 (rf_281 (callF k))) :=
  fn_ok (P := P) (w := w) (G := Gc K w) (mg := mg) (base := base) (k := 3 * k + 2) (N := ["text"]) (ps := ["text"]) (m := mb_281 (callF k)) [] V.d_281 sc_281 (by rfl) fun cdv A outer s H E σ (C : Cok (cxF P w K mg base ["text"] "lines_of" (defScope (top 30)) (a_281 K) cdv A outer s H E) (pinG (Gc K w) [] σ) _ (3 * k + 2)) =>
    (ts_cons (tr_ifS (tt_not (tt_val (tr_isi .str C (tr_var 0) V.n_isinstance V.n_str (by rfl)))) (ts_one (tr_raiseI 22 C (by omega) V.in_NoText (ini_NoText V) (bi_NoText V) V.gx_NoText rfl tr_int)) ts_nil) (ts_cons (tr_ifS (tt_Eq C (tr_var 0) (tr_str [])) (ts_one (tr_ret (tr_fr (tr_lst tra_nil)))) ts_nil) (ts_one (tr_ret (tr_fr (tr_split (tr_var 0) (tr_str [10])))))))
theorem sc_282 : FnScope ["word"] ["word"] (defScope (top 34)) := ⟨rfl, rfl, rfl, by decide +kernel, rfl, by decide +kernel, by decide +kernel⟩
theorem ok_282 (V : EV K mg fd w) (IH : OKS P w K mg base fd k) : FnOk P w K mg base (L2N.CX P w) (3 * (k + 1)) (a_282 K) (fd 282) ["word"] (spF (Gc K w) 1 (rf_282 (callF k))) :=
  fn_ok (P := P) (w := w) (G := Gc K w) (mg := mg) (base := base) (k := 3 * k + 2) (N := ["word"]) (ps := ["word"]) (m := mb_282 (callF k)) [] V.d_282 sc_282 (by rfl) fun cdv A outer s H E σ (C : Cok (cxF P w K mg base ["word"] "some_in" (defScope (top 34)) (a_282 K) cdv A outer s H E) (pinG (Gc K w) [] σ) _ (3 * k + 2)) =>
    (ts_cons (tr_ifS (tt_Eq C (tr_var 0) (tr_str [42])) (ts_one (tr_ret (tr_tup tra_nil))) ts_nil) (ts_one (tr_ret (tr_b_tuple C V.n_tuple rfl (tra_cons (tr_split (tr_var 0) (tr_str [44])) tra_nil)))))
theorem sc_283 : FnScope ["text", "words", "days", "rule", "day"] ["text"] (defScope (top 35)) := ⟨rfl, rfl, rfl, by decide +kernel, rfl, by decide +kernel, by decide +kernel⟩
theorem ok_283 (V : EV K mg fd w) (IH : OKS P w K mg base fd k) : FnOk P w K mg base (L2N.CX P w) (3 * (k + 1)) (a_283 K) (fd 283) ["text"] (spF (Gc K w) 1 (rf_283 (callF k))) :=
  fn_ok (P := P) (w := w) (G := Gc K w) (mg := mg) (base := base) (k := 3 * k + 2) (N := ["text", "words", "days", "rule", "day"]) (ps := ["text"]) (m := mb_283 (callF k)) [] V.d_283 sc_283 (by rfl) fun cdv A outer s H E σ (C : Cok (cxF P w K mg base ["text", "words", "days", "rule", "day"] "rule_in" (defScope (top 35)) (a_283 K) cdv A outer s H E) (pinG (Gc K w) [] σ) _ (3 * k + 2)) =>
    (ts_cons (tr_set 1 C (tr_fr (tr_split (tr_var 0) (tr_str [32])))) (ts_cons (tr_ifS (tt_NotEq C (tr_b_len C V.n_len rfl (tra_cons (tr_var 1) tra_nil)) tr_int) (ts_one (tr_ret tr_non)) ts_nil) (ts_cons (tr_set 2 C (tr_b_tuple C V.n_tuple rfl (tra_cons (tr_lc (own := [("day", 4)]) C (ti_seq C (tr_call C (IH.o_282.mono (Nat.le_add_right _ 2)) V.g_282 V.d_282.kp (b_282 V) (tar_v (tr_Ix C (tr_var 1) tr_int) tar_nil))) (blkOk_by (by rfl)) (fun _ _ _ _ _ => have ND := C.nd; (tg_nm 4 ND)) (fun _ _ _ _ _ C => tts_nil) (fun _ _ _ _ _ C => (tr_call C (IH.o_280.mono (Nat.le_add_right _ 2)) V.g_280 V.d_280.kp (b_280 V) (tar_v (tr_var 4) tar_nil)))) tra_nil))) (ts_cons (tr_set 3 C (tr_tup (tra_cons (tr_Ix C (tr_var 1) tr_int) (tra_cons (tr_call C (IH.o_282.mono (Nat.le_add_right _ 2)) V.g_282 V.d_282.kp (b_282 V) (tar_v (tr_Ix C (tr_var 1) tr_int) tar_nil)) (tra_cons (tr_call C (IH.o_282.mono (Nat.le_add_right _ 2)) V.g_282 V.d_282.kp (b_282 V) (tar_v (tr_Ix C (tr_var 1) tr_int) tar_nil)) (tra_cons (tr_var 2) (tra_cons (tr_call C (IH.o_280.mono (Nat.le_add_right _ 2)) V.g_280 V.d_280.kp (b_280 V) (tar_v (tr_Ix C (tr_var 1) tr_int) tar_nil)) (tra_cons (tr_call C (IH.o_280.mono (Nat.le_add_right _ 2)) V.g_280 V.d_280.kp (b_280 V) (tar_v (tr_Ix C (tr_var 1) tr_int) tar_nil)) tra_nil)))))))) (ts_cons (tr_ifS (tt_val (tr_call C (IH.o_4.mono (Nat.le_add_right _ 2)) V.g_4 V.d_4.kp (b_4 V) (tar_v (tr_var 3) tar_nil))) (ts_one (tr_ret (tr_var 3))) ts_nil) (ts_one (tr_ret tr_non)))))))
theorem sc_284 : FnScope ["text", "found", "line", "words", "rule"] ["text"] (defScope (top 36)) := ⟨rfl, rfl, rfl, by decide +kernel, rfl, by decide +kernel, by decide +kernel⟩
theorem ok_284 (V : EV K mg fd w) (IH : OKS P w K mg base fd k) : FnOk P w K mg base (L2N.CX P w) (3 * (k + 1)) (a_284 K) (fd 284) ["text"] (spF (Gc K w) 1 (rf_284 (callF k))) :=
  fn_ok (P := P) (w := w) (G := Gc K w) (mg := mg) (base := base) (k := 3 * k + 2) (N := ["text", "found", "line", "words", "rule"]) (ps := ["text"]) (m := mb_284 (callF k)) [] V.d_284 sc_284 (by rfl) fun cdv A outer s H E σ (C : Cok (cxF P w K mg base ["text", "found", "line", "words", "rule"] "read_book" (defScope (top 36)) (a_284 K) cdv A outer s H E) (pinG (Gc K w) [] σ) _ (3 * k + 2)) =>
    (ts_cons (tr_set 1 C (tr_lst tra_nil)) (ts_cons (tr_for C (ti_enum C (tr_call C (IH.o_281.mono (Nat.le_add_right _ 2)) V.g_281 V.d_281.kp (b_281 V) (tar_v (tr_var 0) tar_nil)) V.n_enumerate) (tg_tup C (tg_cons (tg_nm 2 C.nd) (tg_cons (tg_nm 3 C.nd) tg_nil))) (ts_cons (tr_set 4 C (tr_call C (IH.o_283.mono (Nat.le_add_right _ 2)) V.g_283 V.d_283.kp (b_283 V) (tar_v (tr_var 3) tar_nil))) (ts_cons (tr_ifS (tt_w (tw_or (tt_Is C (tr_var 4) tr_non) (tw_or1 (tt_Eq C (tr_var 2) (C_MOST_RULES V))))) (ts_one (tr_raiseI 22 C (by omega) V.in_NoText (ini_NoText V) (bi_NoText V) V.gx_NoText rfl (tr_var 2))) ts_nil) (ts_one (tr_drop (tr_append 1 (tr_var 4))))))) (ts_one (tr_ret (tr_peekI (W' := _) (tr_b_tuple C V.n_tuple rfl (tra_cons (tr_var 1) tra_nil)))))))
theorem sc_304 : FnScope ["_law_word", "_law_sign"] ["_law_word"] (defScope (top 39)) := ⟨rfl, rfl, rfl, by decide +kernel, rfl, by decide +kernel, by decide +kernel⟩
theorem ok_304 (V : EV K mg fd w) (IH : OKS P w K mg base fd k) : FnOk P w K mg base (L2N.CX P w) (3 * (k + 1)) (a_304 K) (fd 304) ["_law_word"] (spF (Gc K w) 1 (rf_304 (callF k))) :=
  fn_ok (P := P) (w := w) (G := Gc K w) (mg := mg) (base := base) (k := 3 * k + 2) (N := ["_law_word", "_law_sign"]) (ps := ["_law_word"]) (m := mb_304 (callF k)) [] V.d_304 sc_304 (by rfl) fun cdv A outer s H E σ (C : Cok (cxF P w K mg base ["_law_word", "_law_sign"] "_law_number_in" (defScope (top 39)) (a_304 K) cdv A outer s H E) (pinG (Gc K w) [] σ) _ (3 * k + 2)) =>
    (ts_cons (tr_ifS (tt_w (tw_or (tt_Lt C (tr_b_len C V.n_len rfl (tra_cons (tr_var 0) tra_nil)) tr_int) (tw_or (tt_Gt C (tr_b_len C V.n_len rfl (tra_cons (tr_var 0) tra_nil)) tr_int) (tw_or1 (tt_NotEq C (tr_lc (own := [("_law_sign", 1)]) C (ti_str (tr_var 0)) (blkOk_by (by rfl)) (fun _ _ _ _ _ => have ND := C.nd; (tg_nm 1 ND)) (fun _ _ _ _ _ C => (tts_one (tt_NotIn C (tr_var 1) (tr_str [48, 49, 50, 51, 52, 53, 54, 55, 56, 57])))) (fun _ _ _ _ _ C => (tr_var 1))) (tr_lst tra_nil)))))) (ts_one (tr_ret tr_non)) ts_nil) (ts_one (tr_ret (tr_fr (tr_if (tt_w (tw_and (tt_Eq C (tr_Ix C (tr_var 0) tr_int) (tr_str [48])) (tw_and1 (tt_NotEq C (tr_var 0) (tr_str [48]))))) tr_non (tr_b_intS C V.n_int rfl (tra_cons (tr_var 0) tra_nil)))))))
theorem sc_312 : FnScope ["_law_draws_here", "_law_text", "_law_signs", "_law_sign", "_law_at", "_law_way", "_law_between", "_law_words", "_law_other"] ["_law_draws_here", "_law_text"] (defScope (top 52)) := ⟨rfl, rfl, rfl, by decide +kernel, rfl, by decide +kernel, by decide +kernel⟩
theorem ok_312 (V : EV K mg fd w) (IH : OKS P w K mg base fd k) : FnOk P w K mg base (L2N.CX P w) (3 * (k + 1)) (a_312 K) (fd 312) ["_law_draws_here", "_law_text"] (spF (Gc K w) 2 (rf_312 (callF k))) :=
  fn_ok (P := P) (w := w) (G := Gc K w) (mg := mg) (base := base) (k := 3 * k + 2) (N := ["_law_draws_here", "_law_text", "_law_signs", "_law_sign", "_law_at", "_law_way", "_law_between", "_law_words", "_law_other"]) (ps := ["_law_draws_here", "_law_text"]) (m := mb_312 (callF k)) [0] V.d_312 sc_312 (by rfl) fun cdv A outer s H E σ (C : Cok (cxF P w K mg base ["_law_draws_here", "_law_text", "_law_signs", "_law_sign", "_law_at", "_law_way", "_law_between", "_law_words", "_law_other"] "_law_spoilt" (defScope (top 52)) (a_312 K) cdv A outer s H E) (pinG (Gc K w) [0] σ) _ (3 * k + 2)) =>
    (ts_cons (tr_set 2 C (tr_str [32, 33, 34, 35, 36, 38, 39, 40, 41, 42, 43, 44, 45, 46, 47, 48, 49, 50, 51, 52, 53, 54, 55, 56, 57, 58, 59, 60, 61, 62, 63, 64, 65, 66, 67, 68, 69, 70, 71, 72, 73, 74, 75, 76, 77, 78, 79, 80, 81, 82, 83, 84, 85, 86, 87, 88, 89, 90, 91, 92, 93, 94, 95, 96, 97, 98, 99, 100, 101, 102, 103, 104, 105, 106, 107, 108, 109, 110, 111, 112, 113, 114, 115, 116, 117, 118, 119, 120, 121, 122, 123, 124, 125, 126, 10])) (ts_cons (tr_set 3 C (tr_Ix C (tr_lst (tra_cons (tr_Ix C (tr_var 2) (tr_call C (IH.o_7.mono (Nat.le_add_right _ 2)) V.g_7 V.d_7.kp (b_7 V) (tar_b 0 (tar_v (tr_b_len C V.n_len rfl (tra_cons (tr_var 2) tra_nil)) tar_nil)))) (tra_cons (tr_Ix C (tr_str [32, 48, 49, 44, 43, 97, 10, 42]) (tr_call C (IH.o_7.mono (Nat.le_add_right _ 2)) V.g_7 V.d_7.kp (b_7 V) (tar_b 0 (tar_v tr_int tar_nil)))) tra_nil))) (tr_call C (IH.o_7.mono (Nat.le_add_right _ 2)) V.g_7 V.d_7.kp (b_7 V) (tar_b 0 (tar_v tr_int tar_nil))))) (ts_cons (tr_set 4 C (tr_call C (IH.o_7.mono (Nat.le_add_right _ 2)) V.g_7 V.d_7.kp (b_7 V) (tar_b 0 (tar_v (tr_Add C (tr_b_len C V.n_len rfl (tra_cons (tr_var 1) tra_nil)) tr_int) tar_nil)))) (ts_cons (tr_set 5 C (tr_call C (IH.o_7.mono (Nat.le_add_right _ 2)) V.g_7 V.d_7.kp (b_7 V) (tar_b 0 (tar_v tr_int tar_nil)))) (ts_cons (tr_ifS (tt_Eq C (tr_var 5) tr_int) (ts_one (tr_ret (tr_fr (tr_Add C (tr_Add C (tr_sl C (tr_var 1) to_none (to_some (tr_var 4))) (tr_var 3)) (tr_sl C (tr_var 1) (to_some (tr_var 4)) to_none))))) ts_nil) (ts_cons (tr_ifS (tt_Eq C (tr_var 5) tr_int) (ts_one (tr_ret (tr_fr (tr_Add C (tr_Add C (tr_sl C (tr_var 1) to_none (to_some (tr_var 4))) (tr_var 3)) (tr_sl C (tr_var 1) (to_some (tr_Add C (tr_var 4) tr_int)) to_none))))) ts_nil) (ts_cons (tr_ifS (tt_Eq C (tr_var 5) tr_int) (ts_one (tr_ret (tr_fr (tr_Add C (tr_sl C (tr_var 1) to_none (to_some (tr_var 4))) (tr_sl C (tr_var 1) (to_some (tr_Add C (tr_var 4) tr_int)) to_none))))) ts_nil) (ts_cons (tr_ifS (tt_Eq C (tr_var 5) tr_int) (ts_one (tr_ret (tr_fr (tr_Add C (tr_sl C (tr_var 1) to_none (to_some (tr_Add C (tr_var 4) tr_int))) (tr_sl C (tr_var 1) (to_some (tr_var 4)) to_none))))) ts_nil) (ts_cons (tr_set 6 C (tr_Ix C (tr_lst (tra_cons (tr_str [32]) (tra_cons (tr_str [10]) tra_nil))) (tr_FloorDiv C (tr_var 5) tr_int))) (ts_cons (tr_set 7 C (tr_fr (tr_split (tr_var 1) (tr_var 6)))) (ts_cons (tr_set 4 C (tr_call C (IH.o_7.mono (Nat.le_add_right _ 2)) V.g_7 V.d_7.kp (b_7 V) (tar_b 0 (tar_v (tr_b_len C V.n_len rfl (tra_cons (tr_var 7) tra_nil)) tar_nil)))) (ts_cons (tr_set 8 C (tr_Ix C (tr_var 7) (tr_call C (IH.o_7.mono (Nat.le_add_right _ 2)) V.g_7 V.d_7.kp (b_7 V) (tar_b 0 (tar_v (tr_b_len C V.n_len rfl (tra_cons (tr_var 7) tra_nil)) tar_nil))))) (ts_one (tr_ret (tr_join (tr_var 6) (tr_Add C (tr_Add C (tr_sl C (tr_var 7) to_none (to_some (tr_var 4))) (tr_Ix C (tr_lst (tra_cons (tr_lst tra_nil) (tra_cons (tr_Mult C (tr_lst (tra_cons (tr_Ix C (tr_var 7) (tr_var 4)) tra_nil)) tr_int) (tra_cons (tr_lst (tra_cons (tr_var 8) tra_nil)) tra_nil)))) (tr_Mod C (tr_var 5) tr_int))) (tr_sl C (tr_var 7) (to_some (tr_Add C (tr_var 4) tr_int)) to_none)))))))))))))))))
theorem sc_319 : FnScope ["_law_text", "_law_found", "_law_kind", "_law_e"] ["_law_text"] (defScope (top 53)) := ⟨rfl, rfl, rfl, by decide +kernel, rfl, by decide +kernel, by decide +kernel⟩
theorem ok_319 (V : EV K mg fd w) (IH : OKS P w K mg base fd k) : FnOk P w K mg base (L2N.CX P w) (3 * (k + 1)) (a_319 K) (fd 319) ["_law_text"] (spF (Gc K w) 1 (rf_319 (callF k))) :=
  fn_ok (P := P) (w := w) (G := Gc K w) (mg := mg) (base := base) (k := 3 * k + 2) (N := ["_law_text", "_law_found", "_law_kind", "_law_e"]) (ps := ["_law_text"]) (m := mb_319 (callF k)) [] V.d_319 sc_319 (by rfl) fun cdv A outer s H E σ (C : Cok (cxF P w K mg base ["_law_text", "_law_found", "_law_kind", "_law_e"] "_law_read" (defScope (top 53)) (a_319 K) cdv A outer s H E) (pinG (Gc K w) [] σ) _ (3 * k + 2)) =>
    (ts_cons (tr_set 1 C tr_non) (ts_cons (tr_set 2 C (tr_str [])) (ts_cons (tr_try C V.xf (fun _ _ _ C => (ts_one (tr_set 1 C (tr_call C (IH.o_284.mono (Nat.le_add_right _ 2)) V.g_284 V.d_284.kp (b_284 V) (tar_v (tr_var 0) tar_nil))))) (.cons (by rfl) (by rfl) ⟨by rfl, by decide, .inl V.gx_NoText⟩ (by decide) (by rfl) (by rfl) (fun a oe cls d pn x hz hf hx hs ok => rs_txtF ok fun n en zn => rs_one C.nd (qx_add (qx_add (q_kind (kind_ok V) C.room (by omega) hz hf hx V.g_kind V.d_kind.kp (b_kind V) (by rfl)) qx_str (txt_len1 x.c)) (qx_strI (qx_fld (by rw [sub_22 hs]; exact V.in_NoText.xf) (by rw [sub_22 hs]; exact V.in_NoText.no) hz hf en (by rw [sub_22 hs]; rfl) (by rfl)) zn V.n_str) (txt_len2 x.c zn)) (fun _ => rep_txt) (by rfl)) (.cons (by rfl) (by rfl) ⟨by rfl, by decide, .inl V.gx_TuckError⟩ (by decide) (by rfl) (by rfl) (fun a oe cls d pn x hz hf hx hs ok => rs_one C.nd (q_kind (kind_ok V) C.room (by omega) hz hf hx V.g_kind V.d_kind.kp (b_kind V) (by rfl)) (fun _ => rep_strOf _) (by rfl)) .nil))) (ts_one (tr_ret (tr_tup (tra_cons (tr_var 1) (tra_cons (tr_var 2) tra_nil))))))))
theorem sc_320 : FnScope ["_law_some_here", "_law_one"] ["_law_some_here"] (defScope (top 54)) := ⟨rfl, rfl, rfl, by decide +kernel, rfl, by decide +kernel, by decide +kernel⟩
theorem ok_320 (V : EV K mg fd w) (IH : OKS P w K mg base fd k) : FnOk P w K mg base (L2N.CX P w) (3 * (k + 1)) (a_320 K) (fd 320) ["_law_some_here"] (spF (Gc K w) 1 (rf_320 (callF k))) :=
  fn_ok (P := P) (w := w) (G := Gc K w) (mg := mg) (base := base) (k := 3 * k + 2) (N := ["_law_some_here", "_law_one"]) (ps := ["_law_some_here"]) (m := mb_320 (callF k)) [] V.d_320 sc_320 (by rfl) fun cdv A outer s H E σ (C : Cok (cxF P w K mg base ["_law_some_here", "_law_one"] "_law_some_text" (defScope (top 54)) (a_320 K) cdv A outer s H E) (pinG (Gc K w) [] σ) _ (3 * k + 2)) =>
    (ts_one (tr_ret (tr_orV C (tr_join (tr_str [44]) (tr_lc (own := [("_law_one", 1)]) C (ti_seq C (tr_var 0)) (blkOk_by (by rfl)) (fun _ _ _ _ _ => have ND := C.nd; (tg_nm 1 ND)) (fun _ _ _ _ _ C => tts_nil) (fun _ _ _ _ _ C => (tr_strA V.n_str (tra_cons (tr_var 1) tra_nil))))) (tr_one (tr_str [42])))))
theorem sc_321 : FnScope ["_law_word"] ["_law_word"] (defScope (top 55)) := ⟨rfl, rfl, rfl, by decide +kernel, rfl, by decide +kernel, by decide +kernel⟩
theorem ok_321 (V : EV K mg fd w) (IH : OKS P w K mg base fd k) : FnOk P w K mg base (L2N.CX P w) (3 * (k + 1)) (a_321 K) (fd 321) ["_law_word"] (spF (Gc K w) 1 (rf_321 (callF k))) :=
  fn_ok (P := P) (w := w) (G := Gc K w) (mg := mg) (base := base) (k := 3 * k + 2) (N := ["_law_word"]) (ps := ["_law_word"]) (m := mb_321 (callF k)) [] V.d_321 sc_321 (by rfl) fun cdv A outer s H E σ (C : Cok (cxF P w K mg base ["_law_word"] "_law_some_in" (defScope (top 55)) (a_321 K) cdv A outer s H E) (pinG (Gc K w) [] σ) _ (3 * k + 2)) =>
    (ts_one (tr_ret (tr_fr (tr_if (tt_Eq C (tr_var 0) (tr_str [42])) (tr_tup tra_nil) (tr_b_tuple C V.n_tuple rfl (tra_cons (tr_split (tr_var 0) (tr_str [44])) tra_nil))))))
theorem sc_322 : FnScope ["_law_text", "_law_found", "_law_line", "_law_row", "_law_words", "_law_rule_here", "_law_days", "_law_day"] ["_law_text"] (defScope (top 56)) := ⟨rfl, rfl, rfl, by decide +kernel, rfl, by decide +kernel, by decide +kernel⟩
theorem ok_322 (V : EV K mg fd w) (IH : OKS P w K mg base fd k) : FnOk P w K mg base (L2N.CX P w) (3 * (k + 1)) (a_322 K) (fd 322) ["_law_text"] (spF (Gc K w) 1 (rf_322 (callF k))) :=
  fn_ok (P := P) (w := w) (G := Gc K w) (mg := mg) (base := base) (k := 3 * k + 2) (N := ["_law_text", "_law_found", "_law_line", "_law_row", "_law_words", "_law_rule_here", "_law_days", "_law_day"]) (ps := ["_law_text"]) (m := mb_322 (callF k)) [] V.d_322 sc_322 (by rfl) fun cdv A outer s H E σ (C : Cok (cxF P w K mg base ["_law_text", "_law_found", "_law_line", "_law_row", "_law_words", "_law_rule_here", "_law_days", "_law_day"] "_law_due" (defScope (top 56)) (a_322 K) cdv A outer s H E) (pinG (Gc K w) [] σ) _ (3 * k + 2)) =>
    (ts_cons (tr_set 1 C (tr_lst tra_nil)) (ts_cons (tr_for C (ti_enum C (tr_if (tt_NotEq C (tr_var 0) (tr_str [])) (tr_split (tr_var 0) (tr_str [10])) (tr_lst tra_nil)) V.n_enumerate) (tg_tup C (tg_cons (tg_nm 2 C.nd) (tg_cons (tg_nm 3 C.nd) tg_nil))) (ts_cons (tr_set 4 C (tr_fr (tr_split (tr_var 3) (tr_str [32])))) (ts_cons (tr_set 5 C tr_non) (ts_cons (tr_ifS (tt_Eq C (tr_b_len C V.n_len rfl (tra_cons (tr_var 4) tra_nil)) tr_int) (ts_cons (tr_set 6 C (tr_b_tuple C V.n_tuple rfl (tra_cons (tr_lc (own := [("_law_day", 7)]) C (ti_seq C (tr_call C (IH.o_321.mono (Nat.le_add_right _ 2)) V.g_321 V.d_321.kp (b_321 V) (tar_v (tr_Ix C (tr_var 4) tr_int) tar_nil))) (blkOk_by (by rfl)) (fun _ _ _ _ _ => have ND := C.nd; (tg_nm 7 ND)) (fun _ _ _ _ _ C => tts_nil) (fun _ _ _ _ _ C => (tr_call C (IH.o_304.mono (Nat.le_add_right _ 2)) V.g_304 V.d_304.kp (b_304 V) (tar_v (tr_var 7) tar_nil)))) tra_nil))) (ts_cons (tr_set 5 C (tr_tup (tra_cons (tr_Ix C (tr_var 4) tr_int) (tra_cons (tr_call C (IH.o_321.mono (Nat.le_add_right _ 2)) V.g_321 V.d_321.kp (b_321 V) (tar_v (tr_Ix C (tr_var 4) tr_int) tar_nil)) (tra_cons (tr_call C (IH.o_321.mono (Nat.le_add_right _ 2)) V.g_321 V.d_321.kp (b_321 V) (tar_v (tr_Ix C (tr_var 4) tr_int) tar_nil)) (tra_cons (tr_var 6) tra_nil)))))) (ts_one (tr_set 5 C (tr_fr (tr_Add C (tr_var 5) (tr_tup (tra_cons (tr_call C (IH.o_304.mono (Nat.le_add_right _ 2)) V.g_304 V.d_304.kp (b_304 V) (tar_v (tr_Ix C (tr_var 4) tr_int) tar_nil)) (tra_cons (tr_call C (IH.o_304.mono (Nat.le_add_right _ 2)) V.g_304 V.d_304.kp (b_304 V) (tar_v (tr_Ix C (tr_var 4) tr_int) tar_nil)) tra_nil))))))))) ts_nil) (ts_cons (tr_ifS (tt_w (tw_or (tt_Eq C (tr_var 2) tr_int) (tw_or1 (tt_not (tt_val (tr_call C (IH.o_19.mono (Nat.le_add_right _ 2)) V.g_19 V.d_19.kp (b_19 V) (tar_v (tr_tup (tra_cons (tr_var 5) tra_nil)) tar_nil))))))) (ts_one (tr_ret (tr_tup (tra_cons tr_non (tra_cons (tr_Add C (tr_str [78, 111, 70, 111, 114, 109, 32, 78, 111, 84, 101, 120, 116, 32, 43, 32]) (tr_strI V.n_str (tra_cons (tr_var 2) tra_nil))) tra_nil))))) ts_nil) (ts_one (tr_drop (tr_append 1 (tr_var 5))))))))) (ts_one (tr_ret (tr_peekI (W' := _) (tr_tup (tra_cons (tr_b_tuple C V.n_tuple rfl (tra_cons (tr_var 1) tra_nil)) (tra_cons (tr_str []) tra_nil))))))))
theorem sc_323 : FnScope ["_law_script", "_law_wide", "_law_k", "_law_draws_here", "_law_book_here", "_law_lines", "_law_rule_here", "_law_text", "_law_turn", "_law_thing", "_law_words", "_law_due_here", "_law_some_here", "_law_one"] ["_law_script"] (defScope (top 57)) := ⟨rfl, rfl, rfl, by decide +kernel, rfl, by decide +kernel, by decide +kernel⟩
theorem ok_323 (V : EV K mg fd w) (IH : OKS P w K mg base fd k) : FnOk P w K mg base (L2N.CX P w) (3 * (k + 1)) (a_323 K) (fd 323) ["_law_script"] (spF (Gc K w) 1 (rf_323 (callF k))) :=
  fn_ok (P := P) (w := w) (G := Gc K w) (mg := mg) (base := base) (k := 3 * k + 2) (N := ["_law_script", "_law_wide", "_law_k", "_law_draws_here", "_law_book_here", "_law_lines", "_law_rule_here", "_law_text", "_law_turn", "_law_thing", "_law_words", "_law_due_here", "_law_some_here", "_law_one"]) (ps := ["_law_script"]) (m := mb_323 (callF k)) [] V.d_323 sc_323 (by rfl) fun cdv A outer s H E σ (C : Cok (cxF P w K mg base ["_law_script", "_law_wide", "_law_k", "_law_draws_here", "_law_book_here", "_law_lines", "_law_rule_here", "_law_text", "_law_turn", "_law_thing", "_law_words", "_law_due_here", "_law_some_here", "_law_one"] "law" (defScope (top 57)) (a_323 K) cdv A outer s H E) (pinG (Gc K w) [] σ) _ (3 * k + 2)) =>
    (ts_cons (tr_set 1 C (tr_fr (tr_Mult C (tr_lst (tra_cons (tr_str [98, 97, 114, 32, 97, 44, 98, 32, 42, 32, 48, 44, 49, 44, 50, 44, 51, 44, 52, 44, 53, 44, 54, 32, 49, 32, 49, 48, 48, 48, 48, 48, 48]) tra_nil)) tr_int))) (ts_cons (tr_ifS (tt_w (tw_or (tt_NotEq C (tr_call C (IH.o_319.mono (Nat.le_add_right _ 2)) V.g_319 V.d_319.kp (b_319 V) (tar_v (tr_join (tr_str [10]) (tr_var 1)) tar_nil)) (tr_tup (tra_cons tr_non (tra_cons (tr_str [78, 111, 70, 111, 114, 109, 32, 78, 111, 84, 101, 120, 116, 32, 43, 32, 54]) tra_nil)))) (tw_or1 (tt_NotEq C (tr_b_len C V.n_len rfl (tra_cons (tr_call C (IH.o_284.mono (Nat.le_add_right _ 2)) V.g_284 V.d_284.kp (b_284 V) (tar_v (tr_join (tr_str [10]) (tr_sl C (tr_var 1) to_none (to_some tr_int))) tar_nil)) tra_nil)) tr_int)))) (ts_one (tr_ret tr_bl)) ts_nil) (ts_cons (tr_for C (ti_range1 (tr_b_max C V.n_max rfl (tra_cons tr_int (tra_cons (tr_b_min C V.n_min rfl (tra_cons tr_int (tra_cons (tr_b_len C V.n_len rfl (tra_cons (tr_var 0) tra_nil)) tra_nil))) tra_nil))) V.n_range) (tg_nm 2 C.nd) (ts_cons (tr_set 3 C (tr_call C (IH.o_6.mono (Nat.le_add_right _ 2)) V.g_6 V.d_6.kp (b_6 V) (tar_v (tr_var 0) (tar_v (tr_var 2) tar_nil)))) (ts_cons (tr_set 4 C (tr_call C (IH.o_10.mono (Nat.le_add_right _ 2)) V.g_10 V.d_10.kp (b_10 V) (tar_b 3 (tar_v (tr_call C (IH.o_37.mono (Nat.le_add_right _ 2)) V.g_37 V.d_37.kp (b_37 V) (tar_b 3 (tar_v tr_int tar_nil))) (tar_v (tr_call C (IH.o_37.mono (Nat.le_add_right _ 2)) V.g_37 V.d_37.kp (b_37 V) (tar_b 3 (tar_v tr_int tar_nil))) tar_nil))))) (ts_cons (tr_set 5 C (tr_lst tra_nil)) (ts_cons (tr_for C (ti_seq C (tr_var 4)) (tg_nm 6 C.nd) (ts_cons (tr_set 10 C (tr_fr (tr_Add C (tr_lst (tra_cons (tr_Ix C (tr_var 6) tr_int) tra_nil)) (tr_lc (own := [("_law_some_here", 12)]) C (ti_seq C (tr_sl C (tr_var 6) (to_some tr_int) (to_some tr_int))) (blkOk_by (by rfl)) (fun _ _ _ _ _ => have ND := C.nd; (tg_nm 12 ND)) (fun _ _ _ _ _ C => tts_nil) (fun _ _ _ _ _ C => (tr_call C (IH.o_320.mono (Nat.le_add_right _ 2)) V.g_320 V.d_320.kp (b_320 V) (tar_v (tr_var 12) tar_nil))))))) (ts_one (tr_drop (tr_append 5 (tr_join (tr_str [32]) (tr_Add C (tr_var 10) (tr_lc (own := [("_law_one", 13)]) C (ti_seq C (tr_sl C (tr_var 6) (to_some tr_int) to_none)) (blkOk_by (by rfl)) (fun _ _ _ _ _ => have ND := C.nd; (tg_nm 13 ND)) (fun _ _ _ _ _ C => tts_nil) (fun _ _ _ _ _ C => (tr_strA V.n_str (tra_cons (tr_var 13) tra_nil))))))))))) (ts_cons (tr_set 7 C (tr_peekI (W' := TB.W0) (tr_join (tr_str [10]) (tr_var 5)))) (ts_cons (tr_ifS (tt_w (tw_or (tt_NotEq C (tr_call C (IH.o_35.mono (Nat.le_add_right _ 2)) V.g_35 V.d_35.kp (b_35 V) (tar_v (tr_var 4) tar_nil)) (tr_var 7)) (tw_or1 (tt_NotEq C (tr_call C (IH.o_319.mono (Nat.le_add_right _ 2)) V.g_319 V.d_319.kp (b_319 V) (tar_v (tr_var 7) tar_nil)) (tr_tup (tra_cons (tr_var 4) (tra_cons (tr_str []) tra_nil))))))) (ts_one (tr_ret tr_bl)) ts_nil) (ts_cons (tr_for C (ti_range1 tr_int V.n_range) (tg_nm 8 C.nd) (ts_cons (tr_ifS (tt_NotEq C (tr_call C (IH.o_319.mono (Nat.le_add_right _ 2)) V.g_319 V.d_319.kp (b_319 V) (tar_v (tr_var 7) tar_nil)) (tr_call C (IH.o_322.mono (Nat.le_add_right _ 2)) V.g_322 V.d_322.kp (b_322 V) (tar_v (tr_var 7) tar_nil))) (ts_one (tr_ret tr_bl)) ts_nil) (ts_one (tr_set 7 C (tr_call C (IH.o_312.mono (Nat.le_add_right _ 2)) V.g_312 V.d_312.kp (b_312 V) (tar_b 3 (tar_v (tr_var 7) tar_nil))))))) (ts_one (tr_for C (ti_seq C (tr_lst (tra_cons tr_non (tra_cons tr_int (tra_cons tr_bl (tra_cons (tr_var 4) (tra_cons (tr_lst (tra_cons (tr_var 7) tra_nil)) (tra_cons (tr_str [32]) (tra_cons (tr_str [10]) (tra_cons (tr_str [108, 101, 116, 32, 42, 32, 42, 32, 42, 32, 49, 32, 53, 32]) (tra_cons (tr_str [108, 101, 116, 32, 42, 32, 42, 32, 32, 49, 32, 53]) (tra_cons (tr_str [108, 101, 116, 32, 42, 42, 32, 42, 32, 42, 32, 49, 32, 53]) tra_nil)))))))))))) (tg_nm 9 C.nd) (ts_cons (tr_set 11 C (tr_fr (tr_if (tt_val (tr_isi .str C (tr_var 9) V.n_isinstance V.n_str (by rfl))) (tr_call C (IH.o_322.mono (Nat.le_add_right _ 2)) V.g_322 V.d_322.kp (b_322 V) (tar_v (tr_var 9) tar_nil)) (tr_tup (tra_cons tr_non (tra_cons (tr_str [78, 111, 70, 111, 114, 109, 32, 78, 111, 84, 101, 120, 116, 32, 43, 32, 48]) tra_nil)))))) (ts_one (tr_ifS (tt_NotEq C (tr_call C (IH.o_319.mono (Nat.le_add_right _ 2)) V.g_319 V.d_319.kp (b_319 V) (tar_v (tr_var 9) tar_nil)) (tr_var 11)) (ts_one (tr_ret tr_bl)) ts_nil))))))))))))) (ts_one (tr_ret tr_bl)))))
end
end LW
namespace LW
open PySem PySem.Spec PyProof.Rows L2 TB
def d_0 : He.DefD := ⟨("is_within", none), "is_within", "is_within", defArgs (top 19), defBody (top 19), defScope (top 19), [], []⟩
def d_1 : He.DefD := ⟨("is_name", none), "is_name", "is_name", defArgs (top 20), defBody (top 20), defScope (top 20), [], []⟩
def d_2 : He.DefD := ⟨("are_rising", none), "are_rising", "are_rising", defArgs (top 21), defBody (top 21), defScope (top 21), [], []⟩
def d_3 : He.DefD := ⟨("are_names", none), "are_names", "are_names", defArgs (top 22), defBody (top 22), defScope (top 22), [], []⟩
def d_4 : He.DefD := ⟨("is_rule", none), "is_rule", "is_rule", defArgs (top 23), defBody (top 23), defScope (top 23), [], []⟩
def d_5 : He.DefD := ⟨("is_book", none), "is_book", "is_book", defArgs (top 24), defBody (top 24), defScope (top 24), [], []⟩
def d_6 : He.DefD := ⟨("_law_draws", none), "_law_draws", "_law_draws", defArgs (top 46), defBody (top 46), defScope (top 46), [], []⟩
def d_7 : He.DefD := ⟨("_law_draw", none), "_law_draw", "_law_draw", defArgs (top 47), defBody (top 47), defScope (top 47), [], []⟩
def d_8 : He.DefD := ⟨("_law_some", none), "_law_some", "_law_some", defArgs (top 48), defBody (top 48), defScope (top 48), [], []⟩
def d_9 : He.DefD := ⟨("_law_rule", none), "_law_rule", "_law_rule", defArgs (top 49), defBody (top 49), defScope (top 49), [], []⟩
def d_10 : He.DefD := ⟨("_law_book", none), "_law_book", "_law_book", defArgs (top 50), defBody (top 50), defScope (top 50), [], []⟩
def d_14 : He.DefD := ⟨("_law_is_name", none), "_law_is_name", "_law_is_name", defArgs (top 40), defBody (top 40), defScope (top 40), [], []⟩
def d_15 : He.DefD := ⟨("_law_are_rising", none), "_law_are_rising", "_law_are_rising", defArgs (top 41), defBody (top 41), defScope (top 41), [], []⟩
def d_16 : He.DefD := ⟨("_law_are_names", none), "_law_are_names", "_law_are_names", defArgs (top 42), defBody (top 42), defScope (top 42), [], []⟩
def d_17 : He.DefD := ⟨("_law_within", none), "_law_within", "_law_within", defArgs (top 43), defBody (top 43), defScope (top 43), [], []⟩
def d_18 : He.DefD := ⟨("_law_is_rule", none), "_law_is_rule", "_law_is_rule", defArgs (top 44), defBody (top 44), defScope (top 44), [], []⟩
def d_19 : He.DefD := ⟨("_law_is_book", none), "_law_is_book", "_law_is_book", defArgs (top 45), defBody (top 45), defScope (top 45), [], []⟩
def d_23 : He.DefD := ⟨("need_book", none), "need_book", "need_book", defArgs (top 25), defBody (top 25), defScope (top 25), [], []⟩
def d_33 : He.DefD := ⟨("some_text", none), "some_text", "some_text", defArgs (top 31), defBody (top 31), defScope (top 31), [], []⟩
def d_34 : He.DefD := ⟨("rule_text", none), "rule_text", "rule_text", defArgs (top 32), defBody (top 32), defScope (top 32), [], []⟩
def d_35 : He.DefD := ⟨("book_text", none), "book_text", "book_text", defArgs (top 33), defBody (top 33), defScope (top 33), [], []⟩
def d_37 : He.DefD := ⟨("_law_names", none), "_law_names", "_law_names", defArgs (top 51), defBody (top 51), defScope (top 51), [], []⟩
def d_280 : He.DefD := ⟨("number_in", none), "number_in", "number_in", defArgs (top 29), defBody (top 29), defScope (top 29), [], []⟩
def d_281 : He.DefD := ⟨("lines_of", none), "lines_of", "lines_of", defArgs (top 30), defBody (top 30), defScope (top 30), [], []⟩
def d_282 : He.DefD := ⟨("some_in", none), "some_in", "some_in", defArgs (top 34), defBody (top 34), defScope (top 34), [], []⟩
def d_283 : He.DefD := ⟨("rule_in", none), "rule_in", "rule_in", defArgs (top 35), defBody (top 35), defScope (top 35), [], []⟩
def d_284 : He.DefD := ⟨("read_book", none), "read_book", "read_book", defArgs (top 36), defBody (top 36), defScope (top 36), [], []⟩
def d_304 : He.DefD := ⟨("_law_number_in", none), "_law_number_in", "_law_number_in", defArgs (top 39), defBody (top 39), defScope (top 39), [], []⟩
def d_312 : He.DefD := ⟨("_law_spoilt", none), "_law_spoilt", "_law_spoilt", defArgs (top 52), defBody (top 52), defScope (top 52), [], []⟩
def d_319 : He.DefD := ⟨("_law_read", none), "_law_read", "_law_read", defArgs (top 53), defBody (top 53), defScope (top 53), [], []⟩
def d_320 : He.DefD := ⟨("_law_some_text", none), "_law_some_text", "_law_some_text", defArgs (top 54), defBody (top 54), defScope (top 54), [], []⟩
def d_321 : He.DefD := ⟨("_law_some_in", none), "_law_some_in", "_law_some_in", defArgs (top 55), defBody (top 55), defScope (top 55), [], []⟩
def d_322 : He.DefD := ⟨("_law_due", none), "_law_due", "_law_due", defArgs (top 56), defBody (top 56), defScope (top 56), [], []⟩
def d_323 : He.DefD := ⟨("law", none), "law", "law", defArgs (top 57), defBody (top 57), defScope (top 57), [], []⟩
def d_kind : He.DefD := ⟨("_law_kind_of", none), "_law_kind_of", "_law_kind_of", defArgs (top 38), defBody (top 38), defScope (top 38), [], []⟩
def di_NoText : He.DefD := ⟨("NoText", some "__init__"), "__init__", "NoText.__init__", defArgs (inClass (top 13) 0), defBody (inClass (top 13) 0), defScope (inClass (top 13) 0), [], []⟩
def fn : List He.DefD := [d_0, d_1, d_2, d_3, d_4, d_5, d_6, d_7, d_8, d_9, d_10, d_14, d_15, d_16, d_17, d_18, d_19, d_23, d_33, d_34, d_35, d_37, d_280, d_281, d_282, d_283, d_284, d_304, d_312, d_319, d_320, d_321, d_322, d_323, d_kind, di_NoText]
def fa : List He.Fa := [.glo "is_within", .glo "is_name", .glo "are_rising", .glo "are_names", .glo "is_rule", .glo "is_book", .glo "_law_draws", .glo "_law_draw", .glo "_law_some", .glo "_law_rule", .glo "_law_book", .glo "_law_is_name", .glo "_law_are_rising", .glo "_law_are_names", .glo "_law_within", .glo "_law_is_rule", .glo "_law_is_book", .glo "need_book", .glo "some_text", .glo "rule_text", .glo "book_text", .glo "_law_names", .glo "number_in", .glo "lines_of", .glo "some_in", .glo "rule_in", .glo "read_book", .glo "_law_number_in", .glo "_law_spoilt", .glo "_law_read", .glo "_law_some_text", .glo "_law_some_in", .glo "_law_due", .glo "law", .glo "TuckError", .glo "NoForm", .glo "NotNow", .glo "NoBook", .glo "NoShop", .glo "NoRows", .glo "NoRow", .glo "NoDebts", .glo "NoLine", .glo "Twice", .glo "NotThere", .glo "NothingLeft", .glo "NoText", .glo "TooMany", .glo "_law_kind_of", .free "ValueError", .free "all", .free "bool", .free "enumerate", .free "int", .free "isinstance", .free "len", .free "list", .free "max", .free "min", .free "range", .free "sorted", .free "str", .free "tuple", .str "FIGURES" "0123456789", .str "LETTERS" "abcdefghijklmnopqrstuvwxyz", .int "MOST_FIGURES" 20, .int "MOST_PENCE" 1000000, .int "MOST_RULES" 6]
def ts : List He.Tab := []
def ex (K : PySem.W.Frag) : Bool := (raiseB K (He.ga K "NoBook")) && (iniB K (He.ga K "NoText") (He.ma K (He.ga K "NoText") "__init__") "line") && (baseB K (He.ga K "NoForm")) && (xFactsB K (clsA K) [13, 22])
def loose0 : List Str := ["__name__", "TuckError", "NoForm", "NotNow", "NoBook", "NoShop", "NoRows", "NoRow", "NoDebts", "NoLine", "Twice", "NotThere", "NothingLeft", "NoText", "TooMany", "MOST_PENCE", "MOST_RULES", "LETTERS", "is_within", "is_name", "are_rising", "are_names", "is_rule", "is_book", "need_book", "FIGURES", "MOST_FIGURES", "number_in", "lines_of", "some_text"]
def loose1 : List Str := ["rule_text", "book_text", "some_in", "rule_in", "read_book", "_law_kind_of", "_law_number_in", "_law_is_name", "_law_are_rising", "_law_are_names", "_law_within", "_law_is_rule", "_law_is_book", "_law_draws", "_law_draw", "_law_some", "_law_rule", "_law_book", "_law_names", "_law_spoilt", "_law_read", "_law_some_text", "_law_some_in", "_law_due"]
def loose : List Str := loose0 ++ loose1
abbrev R : PySem.W.OpenRow := PySem.W.OpenLaw.row PySem.Challenge.rw_tuckbook_k62_books_as_texts
def as0 : List Nat := [2, 3, 204, 209, 214, 219, 224, 229, 331, 338, 345, 352, 357, 297, 302, 307, 314, 319, 324, 236, 253, 258, 263, 362, 241, 248, 270, 275, 282, 292, 369, 376, 381, 388, 393, 398, 24, 37, 49, 61]
def as1 : List Nat := [73, 85, 97, 109, 121, 133, 145, 157, 176, 195, 287, 203, 208, 213, 218, 223, 228, 330, 337, 344, 351, 356, 296, 301, 306, 313, 318, 323, 235, 252, 257, 262, 361, 240, 247, 269, 274, 281, 291, 368]
def as2 : List Nat := [375, 380, 387, 392, 397, 23, 36, 48, 60, 72, 84, 96, 108, 120, 132, 144, 156, 175, 194, 286, 198, 199, 200, 201, 202, 205, 206, 207, 210, 211, 212, 215, 216, 217, 220, 221, 222, 225, 226, 227]
def as3 : List Nat := [325, 326, 327, 328, 329, 332, 333, 334, 335, 336, 339, 340, 341, 342, 343, 346, 347, 348, 349, 350, 353, 354, 355, 293, 294, 295, 298, 299, 300, 303, 304, 305, 308, 309, 310, 311, 312, 315, 316, 317]
def as4 : List Nat := [320, 321, 322, 230, 231, 232, 233, 234, 249, 250, 251, 254, 255, 256, 259, 260, 261, 358, 359, 360, 237, 238, 239, 242, 243, 244, 245, 246, 264, 265, 266, 267, 268, 271, 272, 273, 276, 277, 278, 279]
def as5 : List Nat := [280, 288, 289, 290, 363, 364, 365, 366, 367, 370, 371, 372, 373, 374, 377, 378, 379, 382, 383, 384, 385, 386, 389, 390, 391, 394, 395, 396, 22, 25, 35, 47, 59, 71, 83, 95, 107, 119, 131, 143]
def as6 : List Nat := [155, 173, 174, 192, 193, 283, 284, 285, 172, 191, 167, 168, 169, 170, 171, 186, 187, 188, 189, 190]
def asL : List Nat := as0 ++ (as1 ++ (as2 ++ (as3 ++ (as4 ++ (as5 ++ (as6))))))
abbrev hk : PySem.W.Hook := TBH.hookA asL fa fn ts ex
def ob (s : PySem.W.SharedT) : He.AlT × Bool := TBH.obsA asL fa fn ts ex (HandSHeadRun.getT s)
theorem ob_eq (s : PySem.W.SharedT) : ob s = hk.obs s.abs := TBH.obsA_eq (HandSHeadRun.getT_eq s)
abbrev qv : Program := PySem.W.view R.prog [57]
theorem run (w : World) : HandSHeadRun.RunEq R qv hk ob 9000 loose w := by
  intro os
  kernel_rfl
section
variable {P : Program} {w : World} {K : PySem.W.Frag} {mg : Str → Option Value} {base : Heap} {fd : Nat → FuncData}
theorem fn_zero {a : Addr} {fdv : FuncData} {ps : List Str} {n : Nat} {f : Nat} : FnOk P w K mg base (L2N.CX P w) (3 * 0) a fdv ps (spF (Gc K w) n (callF 0 f)) :=
  ⟨fun vs H Q E ⟨_, _, _, _, _, _, _, _, h⟩ => h.elim, fun _ _ _ _ _ _ _ _ _ _ _ _ _ ⟨_, _, _, _, _, _, _, _, h⟩ => h.elim⟩
theorem ok_all (V : EV K mg fd w) : ∀ k, OKS P w K mg base fd k
  | 0 => ⟨fn_zero, fn_zero, fn_zero, fn_zero, fn_zero, fn_zero, fn_zero, fn_zero, fn_zero, fn_zero, fn_zero, fn_zero, fn_zero, fn_zero, fn_zero, fn_zero, fn_zero, fn_zero, fn_zero, fn_zero, fn_zero, fn_zero, fn_zero, fn_zero, fn_zero, fn_zero, fn_zero, fn_zero, fn_zero, fn_zero, fn_zero, fn_zero, fn_zero, fn_zero⟩
  | k + 1 => have IH := ok_all V k; ⟨ok_0 V IH, ok_1 V IH, ok_2 V IH, ok_3 V IH, ok_4 V IH, ok_5 V IH, ok_6 V IH, ok_7 V IH, ok_8 V IH, ok_9 V IH, ok_10 V IH, ok_14 V IH, ok_15 V IH, ok_16 V IH, ok_17 V IH, ok_18 V IH, ok_19 V IH, ok_23 V IH, ok_33 V IH, ok_34 V IH, ok_35 V IH, ok_37 V IH, ok_280 V IH, ok_281 V IH, ok_282 V IH, ok_283 V IH, ok_284 V IH, ok_304 V IH, ok_312 V IH, ok_319 V IH, ok_320 V IH, ok_321 V IH, ok_322 V IH, ok_323 V IH⟩
end
theorem facts {P : Program} {w : World} {K : PySem.W.Frag} {h : Heap} {mg : Str → Option Value} {f : Addr} (X : K.In h) (G : h.Ns mainGlobals mg) (hfa : mg ("law" : Str) = some (.ref f)) (c : He.SaysX fa fn ts [] ex w h K) :
    ∃ fd : FuncData, (∀ (s : Shared) (v : Value), BindsTo s fd ⟨[v], []⟩ [("_law_script", v)]) ∧ ∀ base : Heap, K.In base → base.Ns mainGlobals mg → FnOk P w K mg base (L2N.CX P w) 120 f fd ["_law_script"] (spF (Gc K w) 1 (callF 40 323)) := by
  have cd := c.t.d
  have cx := c.more
  simp only [ex, Bool.and_eq_true] at cx
  obtain ⟨fd0, F0⟩ := cd.def_ 0 (d := d_0) rfl
  obtain ⟨fd1, F1⟩ := cd.def_ 1 (d := d_1) rfl
  obtain ⟨fd2, F2⟩ := cd.def_ 2 (d := d_2) rfl
  obtain ⟨fd3, F3⟩ := cd.def_ 3 (d := d_3) rfl
  obtain ⟨fd4, F4⟩ := cd.def_ 4 (d := d_4) rfl
  obtain ⟨fd5, F5⟩ := cd.def_ 5 (d := d_5) rfl
  obtain ⟨fd6, F6⟩ := cd.def_ 6 (d := d_6) rfl
  obtain ⟨fd7, F7⟩ := cd.def_ 7 (d := d_7) rfl
  obtain ⟨fd8, F8⟩ := cd.def_ 8 (d := d_8) rfl
  obtain ⟨fd9, F9⟩ := cd.def_ 9 (d := d_9) rfl
  obtain ⟨fd10, F10⟩ := cd.def_ 10 (d := d_10) rfl
  obtain ⟨fd14, F14⟩ := cd.def_ 11 (d := d_14) rfl
  obtain ⟨fd15, F15⟩ := cd.def_ 12 (d := d_15) rfl
  obtain ⟨fd16, F16⟩ := cd.def_ 13 (d := d_16) rfl
  obtain ⟨fd17, F17⟩ := cd.def_ 14 (d := d_17) rfl
  obtain ⟨fd18, F18⟩ := cd.def_ 15 (d := d_18) rfl
  obtain ⟨fd19, F19⟩ := cd.def_ 16 (d := d_19) rfl
  obtain ⟨fd23, F23⟩ := cd.def_ 17 (d := d_23) rfl
  obtain ⟨fd33, F33⟩ := cd.def_ 18 (d := d_33) rfl
  obtain ⟨fd34, F34⟩ := cd.def_ 19 (d := d_34) rfl
  obtain ⟨fd35, F35⟩ := cd.def_ 20 (d := d_35) rfl
  obtain ⟨fd37, F37⟩ := cd.def_ 21 (d := d_37) rfl
  obtain ⟨fd280, F280⟩ := cd.def_ 22 (d := d_280) rfl
  obtain ⟨fd281, F281⟩ := cd.def_ 23 (d := d_281) rfl
  obtain ⟨fd282, F282⟩ := cd.def_ 24 (d := d_282) rfl
  obtain ⟨fd283, F283⟩ := cd.def_ 25 (d := d_283) rfl
  obtain ⟨fd284, F284⟩ := cd.def_ 26 (d := d_284) rfl
  obtain ⟨fd304, F304⟩ := cd.def_ 27 (d := d_304) rfl
  obtain ⟨fd312, F312⟩ := cd.def_ 28 (d := d_312) rfl
  obtain ⟨fd319, F319⟩ := cd.def_ 29 (d := d_319) rfl
  obtain ⟨fd320, F320⟩ := cd.def_ 30 (d := d_320) rfl
  obtain ⟨fd321, F321⟩ := cd.def_ 31 (d := d_321) rfl
  obtain ⟨fd322, F322⟩ := cd.def_ 32 (d := d_322) rfl
  obtain ⟨fd323, F323⟩ := cd.def_ 33 (d := d_323) rfl
  obtain ⟨fdk, Fk⟩ := cd.def_ 34 (d := d_kind) rfl
  obtain ⟨fdiNoText, FiNoText⟩ := cd.def_ 35 (d := di_NoText) rfl
  have e := hfa.symm.trans (He.glo_ok X G (cd.fact 33 (f := .glo "law") rfl))
  cases e
  have V : EV K mg (fun | 0 => fd0 | 1 => fd1 | 2 => fd2 | 3 => fd3 | 4 => fd4 | 5 => fd5 | 6 => fd6 | 7 => fd7 | 8 => fd8 | 9 => fd9 | 10 => fd10 | 14 => fd14 | 15 => fd15 | 16 => fd16 | 17 => fd17 | 18 => fd18 | 19 => fd19 | 23 => fd23 | 33 => fd33 | 34 => fd34 | 35 => fd35 | 37 => fd37 | 280 => fd280 | 281 => fd281 | 282 => fd282 | 283 => fd283 | 284 => fd284 | 304 => fd304 | 312 => fd312 | 319 => fd319 | 320 => fd320 | 321 => fd321 | 322 => fd322 | 323 => fd323 | 36 => fdk | 21 => fdiNoText | _ => fd0) w := ⟨F0, He.glo_ok X G (cd.fact 0 (f := .glo "is_within") rfl), F1, He.glo_ok X G (cd.fact 1 (f := .glo "is_name") rfl), F2, He.glo_ok X G (cd.fact 2 (f := .glo "are_rising") rfl), F3, He.glo_ok X G (cd.fact 3 (f := .glo "are_names") rfl), F4, He.glo_ok X G (cd.fact 4 (f := .glo "is_rule") rfl), F5, He.glo_ok X G (cd.fact 5 (f := .glo "is_book") rfl), F6, He.glo_ok X G (cd.fact 6 (f := .glo "_law_draws") rfl), F7, He.glo_ok X G (cd.fact 7 (f := .glo "_law_draw") rfl), F8, He.glo_ok X G (cd.fact 8 (f := .glo "_law_some") rfl), F9, He.glo_ok X G (cd.fact 9 (f := .glo "_law_rule") rfl), F10, He.glo_ok X G (cd.fact 10 (f := .glo "_law_book") rfl), F14, He.glo_ok X G (cd.fact 11 (f := .glo "_law_is_name") rfl), F15, He.glo_ok X G (cd.fact 12 (f := .glo "_law_are_rising") rfl), F16, He.glo_ok X G (cd.fact 13 (f := .glo "_law_are_names") rfl), F17, He.glo_ok X G (cd.fact 14 (f := .glo "_law_within") rfl), F18, He.glo_ok X G (cd.fact 15 (f := .glo "_law_is_rule") rfl), F19, He.glo_ok X G (cd.fact 16 (f := .glo "_law_is_book") rfl), F23, He.glo_ok X G (cd.fact 17 (f := .glo "need_book") rfl), F33, He.glo_ok X G (cd.fact 18 (f := .glo "some_text") rfl), F34, He.glo_ok X G (cd.fact 19 (f := .glo "rule_text") rfl), F35, He.glo_ok X G (cd.fact 20 (f := .glo "book_text") rfl), F37, He.glo_ok X G (cd.fact 21 (f := .glo "_law_names") rfl), F280, He.glo_ok X G (cd.fact 22 (f := .glo "number_in") rfl), F281, He.glo_ok X G (cd.fact 23 (f := .glo "lines_of") rfl), F282, He.glo_ok X G (cd.fact 24 (f := .glo "some_in") rfl), F283, He.glo_ok X G (cd.fact 25 (f := .glo "rule_in") rfl), F284, He.glo_ok X G (cd.fact 26 (f := .glo "read_book") rfl), F304, He.glo_ok X G (cd.fact 27 (f := .glo "_law_number_in") rfl), F312, He.glo_ok X G (cd.fact 28 (f := .glo "_law_spoilt") rfl), F319, He.glo_ok X G (cd.fact 29 (f := .glo "_law_read") rfl), F320, He.glo_ok X G (cd.fact 30 (f := .glo "_law_some_text") rfl), F321, He.glo_ok X G (cd.fact 31 (f := .glo "_law_some_in") rfl), F322, He.glo_ok X G (cd.fact 32 (f := .glo "_law_due") rfl), F323, He.glo_ok X G (cd.fact 33 (f := .glo "law") rfl), He.glo_ok X G (cd.fact 34 (f := .glo "TuckError") rfl), He.glo_ok X G (cd.fact 35 (f := .glo "NoForm") rfl), He.glo_ok X G (cd.fact 36 (f := .glo "NotNow") rfl), He.glo_ok X G (cd.fact 37 (f := .glo "NoBook") rfl), He.glo_ok X G (cd.fact 38 (f := .glo "NoShop") rfl), He.glo_ok X G (cd.fact 39 (f := .glo "NoRows") rfl), He.glo_ok X G (cd.fact 40 (f := .glo "NoRow") rfl), He.glo_ok X G (cd.fact 41 (f := .glo "NoDebts") rfl), He.glo_ok X G (cd.fact 42 (f := .glo "NoLine") rfl), He.glo_ok X G (cd.fact 43 (f := .glo "Twice") rfl), He.glo_ok X G (cd.fact 44 (f := .glo "NotThere") rfl), He.glo_ok X G (cd.fact 45 (f := .glo "NothingLeft") rfl), He.glo_ok X G (cd.fact 46 (f := .glo "NoText") rfl), He.glo_ok X G (cd.fact 47 (f := .glo "TooMany") rfl), raiseB_ok cx.1.1.1, FiNoText, iniB_ok cx.1.1.2, baseB_ok cx.1.2, xFactsB_ok cx.2, Fk, He.glo_ok X G (cd.fact 48 (f := .glo "_law_kind_of") rfl), He.free_ok X G (cd.fact 49 (f := .free "ValueError") rfl), He.free_ok X G (cd.fact 50 (f := .free "all") rfl), He.free_ok X G (cd.fact 51 (f := .free "bool") rfl), He.free_ok X G (cd.fact 52 (f := .free "enumerate") rfl), He.free_ok X G (cd.fact 53 (f := .free "int") rfl), He.free_ok X G (cd.fact 54 (f := .free "isinstance") rfl), He.free_ok X G (cd.fact 55 (f := .free "len") rfl), He.free_ok X G (cd.fact 56 (f := .free "list") rfl), He.free_ok X G (cd.fact 57 (f := .free "max") rfl), He.free_ok X G (cd.fact 58 (f := .free "min") rfl), He.free_ok X G (cd.fact 59 (f := .free "range") rfl), He.free_ok X G (cd.fact 60 (f := .free "sorted") rfl), He.free_ok X G (cd.fact 61 (f := .free "str") rfl), He.free_ok X G (cd.fact 62 (f := .free "tuple") rfl), He.str_ok X G (cd.fact 63 (f := .str "FIGURES" "0123456789") rfl), He.str_ok X G (cd.fact 64 (f := .str "LETTERS" "abcdefghijklmnopqrstuvwxyz") rfl), He.int_ok X G (cd.fact 65 (f := .int "MOST_FIGURES" 20) rfl), He.int_ok X G (cd.fact 66 (f := .int "MOST_PENCE" 1000000) rfl), He.int_ok X G (cd.fact 67 (f := .int "MOST_RULES" 6) rfl)⟩
  have b := FunD.bindsA (ps := ["_law_script"]) F323 fun _ _ _ _ _ _ us hl => match us, hl with | [_], _ => rfl
  exact ⟨fd323, fun s v => b s [v] rfl, fun base _ _ => (ok_all V 40).o_323⟩
theorem sp_law {K : PySem.W.Frag} {w : World} (H : Hp) (a : Addr) (ns : List Int) (hl : ns.length ≤ 63) (hS : SqL K H a (ns.map V.int)) : spF (Gc K w) 1 (LW.callF 40 323) [.ref a] H (fun v _ => v = .bl true) fun _ _ _ => False := by
  refine ⟨H, add nil0 nil0, [(.fz, .scr ns)], rfl, Same.refl H, .cons (.fz (.scr hS)) .nil, fun a => by simp [add, nil0], fun a _ => rfl, ?_⟩
  rw [LW.law_true ns hl]
  intro v F' H' T' f s1 s2 ou o le di
  cases o with
  | fz r => cases r; rfl
end LW
open PySem PySem.W PySem.Calls PyProof.Rows
theorem PySem.Challenge.cw_tuckbook_k62_books_as_texts_holds : PySem.Challenge.rw_tuckbook_k62_books_as_texts.Holds := by
  w_on; o_law
  refine HandSHeadRun.head_any (r := LW.R) (q := LW.qv) (H := LW.hk) (ob := LW.ob) (M := 9000) (loose := LW.loose) (d := HandSHeadRun.topDef LW.R.prog 57) (kwd := []) LW.ob_eq
    (by kernel_rfl) (fun s => by kernel_rfl) LW.run (by kernel_rfl) (by kernel_rfl) (by kernel_rfl) (by rfl) (by first | assumption | decide +kernel) (by decide +kernel) ⟨rfl, rfl, rfl, rfl, rfl, by decide +kernel⟩ ?hw ?hc
  case hw => w_witness2
  case hc =>
    refine L2.walk_ofEw (l := PySem.Challenge.rw_tuckbook_k62_books_as_texts) (n := 63) (k := 120) (x := "_law_script") (CX := fun w => L2N.CX PySem.Challenge.rw_tuckbook_k62_books_as_texts.prog w) rfl (by decide) (by kernel_rfl) ⟨rfl, by decide, by decide⟩ ?F ?X
    case X =>
      intro w H s e s' z
      obtain ⟨_, _, _, _, _, _, _, _, _, _, _, _, z⟩ := z
      exact z
    intro w mg fa h Y G hmg0
    obtain ⟨K, KX, c⟩ := Y
    have hmg : mg ("law" : PySem.Str) = some (.ref fa) := by
      have e : (HandSHeadRun.topDef LW.R.prog 57).name = ("law" : PySem.Str) := by kernel_rfl
      rw [← e]
      exact hmg0
    obtain ⟨fd, hb, hF⟩ := LW.facts (P := (PySem.Challenge.rw_tuckbook_k62_books_as_texts).prog) (w := w) KX G hmg c
    exact ⟨K, fd, _, KX, hb, fun H a ns hl hS => LW.sp_law H a ns hl hS, hF⟩
