import PyProof.Rows.All
import Wide.All
import OpenK.AllK
import Wide.FinOn
import HandS.ForMost
import HandS.ForExc
import KE.KDictKeyed
import HandS.Walk
import HandS.Defaults
import HandS.More
import HandS.Wide
import HandS.IsInst
import HandS.TupAny
import HandS.TupMul
import HandS.Style
import HandS.Conv
import HandS.SortInts
import KE.KStateDown
import HandS.HeadEnd
import KE.SortData
import KE.DataCmp
import KE.DataMinMax
import KE.KDictCopyH
import KE.KDictSum
import HandS.TupSets
import HandS.Deep
import HandS.Flow
import HandS.Strs
import HandS.ListItems
import KE.KDictItemsList
import Lean
import HandS.Head0
import HandS.Head1
import HandS.Head2
import HandS.HeadHook1
import HandS.HeadHook2
import HandS.HeadHook3
import HandS.HeadHook4
import PySem.Challenge.RW_tuckbook_k07_the_course_of_rows
set_option Elab.async false
set_option linter.all false
set_option maxRecDepth 100000
set_option maxHeartbeats 0
/-! TbM: the mirror. Data, kinds of ownership, slots, the meanings of constructs; core Lean alone. -/
namespace TB

/-- data -/
inductive D where
  | non | bl (b : Bool) | int (i : Int) | str (s : List Nat)
  | scr (xs : List Int) | tup (xs : List D) | lst (xs : List D) | dic (kvs : List (D × D)) | dit (kvs : List (D × D)) | ob (c : Nat) (fs : List D) | fn (k : Nat)
  deriving Inhabited

/-- who may change it: fz nobody; else it is owned by the slot (or the temporary) that holds it -/
inductive Kd where
  | fz | li (k : Kd) | dK (k : Kd) | dT (k : Kd) | dR (ks : List Kd) | dN | ob (ks : List Kd)
  deriving Inhabited

abbrev KD := Kd × D
abbrev Slot := Option KD
/-- an exception: its class, what its field (or its text) is -/
structure Xc where
  c : Nat
  arg : D
inductive R (α : Type) where
  | ok (a : α) (S : List Slot) | exc (x : Xc) (S : List Slot) | bad
abbrev M (α : Type) := List Slot → R α

def R.bind {α β : Type} : R α → (α → M β) → R β
  | .ok a S, f => f a S
  | .exc x S, _ => .exc x S
  | .bad, _ => .bad
def M.pure {α : Type} (a : α) : M α := fun S => .ok a S
def M.bind {α β : Type} (m : M α) (f : α → M β) : M β := fun S => (m S).bind f

/-! ### expressions -/
abbrev E := M KD
/-- a frozen slot -/
def eVar (i : Nat) : E := fun S => match S[i]? with
  | some (some (.fz, d)) => .ok (.fz, d) S
  | _ => .bad
/-- a slot moved out -/
def eMv (i : Nat) : E := fun S => match S[i]? with
  | some (some kd) => .ok kd (S.set i none)
  | _ => .bad
def eCon (d : D) : E := fun S => .ok (.fz, d) S
/-- what is owned is frozen from here on -/
def eFr (e : E) : E := M.bind e fun kd => M.pure (.fz, kd.2)
/-- data without references -/
def D.flat : D → Bool
  | .non => true
  | .bl _ => true
  | .int _ => true
  | .str _ => true
  | _ => false
def frz (s : Slot) : Slot := s.map fun kd => (.fz, kd.2)
/-- a look at owned things that gives flat data -/
def ePeek (e : E) : E := fun S => match e (S.map frz) with
  | .ok (_, d) _ => if d.flat then .ok (.fz, d) S else .bad
  | _ => .bad
/-- frozen data of an expression: what it makes is frozen -/
def eDat (e : E) : M D := M.bind e fun kd => M.pure kd.2
def eAll : List E → M (List D)
  | [] => M.pure []
  | e :: es => M.bind (eDat e) fun d => M.bind (eAll es) fun ds => M.pure (d :: ds)
/-- what an operation gives; no answer: not promised -/
def ofO : Option KD → E
  | some kd => M.pure kd
  | none => fun _ => .bad
def eApp (f : List D → Option KD) (es : List E) : E := M.bind (eAll es) fun ds => ofO (f ds)
def eOp (f : D → D → Option KD) (a b : E) : E := M.bind (eDat a) fun x => M.bind (eDat b) fun y => ofO (f x y)
def eUn (f : D → Option KD) (a : E) : E := M.bind (eDat a) fun x => ofO (f x)
def eBool (e : E) : M Bool := M.bind e fun kd => match kd.2 with
  | .bl b => M.pure b
  | _ => fun _ => .bad
def eAnd (a b : E) : E := M.bind (eBool a) fun c => if c then b else M.pure (.fz, .bl false)
def eOr (a b : E) : E := M.bind (eBool a) fun c => if c then M.pure (.fz, .bl true) else b
def eNot (a : E) : E := M.bind (eBool a) fun c => M.pure (.fz, .bl (!c))
/-! tests -/
abbrev T := M Bool
def tAnd (a b : T) : T := M.bind a fun c => if c then b else M.pure false
def tOr (a b : T) : T := M.bind a fun c => if c then M.pure true else b
def tNot (a : T) : T := M.bind a fun c => M.pure (!c)
/-- a test that looks at owned things -/
def tPeek (c : T) : T := fun S => match c (S.map frz) with
  | .ok b _ => .ok b S
  | _ => .bad
def eIf (c : T) (a b : E) : E := M.bind c fun x => if x then a else b
/-- a < b < c -/
def chain2 (g : D → D → Option KD) (c : E) (y : D) : Option KD → E
  | some (.fz, .bl b) => if b then M.bind (eDat c) fun z => ofO (g y z) else M.pure (.fz, .bl false)
  | _ => fun _ => .bad
def eChain (f g : D → D → Option KD) (a b c : E) : E := M.bind (eDat a) fun x => M.bind (eDat b) fun y => chain2 g c y (f x y)
def sizeMax : Nat := 16777216
def fTup (ds : List D) : Option KD := if ds.length ≤ sizeMax then some (.fz, .tup ds) else none
def fLst (ds : List D) : Option KD := if ds.length ≤ sizeMax then some (.li .fz, .lst ds) else none
/-- the items of what is walked -/
def itemsOf (d : D) : Option (List D) := match d with
  | .lst xs => some xs
  | .tup xs => some xs
  | _ => none
abbrev It := M (List D)
def itSeq (e : E) : It := M.bind (eDat e) fun d => match itemsOf d with
  | some xs => M.pure xs
  | none => fun _ => .bad
/-- a text, sign by sign -/
def itStr (e : E) : It := M.bind (eDat e) fun d => match d with
  | .str s => M.pure (s.map fun c => .str [c])
  | _ => fun _ => .bad
def rangeL (lo : Int) (n : Nat) : List D := (List.range n).map fun (i : Nat) => D.int (lo + (i : Int))
/-- (naturals on the left: what is compared so does not run off by itself) -/
def limN : Nat := 4611686018427387904
def itRange1 (e : E) : It := M.bind (eDat e) fun d => match d with
  | .int j => if j.natAbs < limN then M.pure (rangeL 0 j.toNat) else fun _ => .bad
  | _ => fun _ => .bad
def itRange2 (a b : E) : It := M.bind (eDat a) fun x => M.bind (eDat b) fun y => match x, y with
  | .int i, .int j => if i.natAbs < limN ∧ j.natAbs < limN then M.pure (rangeL i (j - i).toNat) else fun _ => .bad
  | _, _ => fun _ => .bad
/-! targets -/
inductive Tg where
  | nm (i : Nat) | tp (is : List Tg)
mutual
def Tg.put : Tg → D → List Slot → Option (List Slot)
  | .nm i, d, S => if i < S.length then some (S.set i (some (.fz, d))) else none
  | .tp is, d, S => match d with
    | .tup xs => Tg.puts is xs S
    | _ => none
def Tg.puts : List Tg → List D → List Slot → Option (List Slot)
  | [], [], S => some S
  | g :: gs, d :: ds, S => (Tg.put g d S).bind fun S => Tg.puts gs ds S
  | _, _, _ => none
end
/-! ### statements -/
inductive Fl where
  | nx | rt (r : KD) | bk | ct
abbrev St := M Fl
def sNx : St := M.pure .nx
def sSet (i : Nat) (e : E) : St := M.bind e fun kd S => if i < S.length then .ok .nx (S.set i (some kd)) else .bad
/-- a new tuple laid out -/
def sPut (g : Tg) (e : E) : St := M.bind (eDat e) fun d S => match g.put d S with
  | some S' => .ok .nx S'
  | none => .bad
def sSeq (a b : St) : St := M.bind a fun f => match f with
  | .nx => b
  | f => M.pure f
def sRet (e : E) : St := M.bind e fun kd => M.pure (.rt kd)
def sRetN : St := M.pure (.rt (.fz, .non))
def sDrop (e : E) : St := M.bind e fun _ => M.pure .nx
def sIf (c : T) (a b : St) : St := M.bind c fun x => if x then a else b
def sBrk : St := M.pure .bk
def sCont : St := M.pure .ct
def sWhile : Nat → T → St → St
  | 0, _, _ => fun _ => .bad
  | n + 1, c, b => M.bind c fun x => if x then M.bind b fun f => match f with
      | .nx => sWhile n c b
      | .ct => sWhile n c b
      | .bk => M.pure .nx
      | .rt r => M.pure (.rt r)
    else M.pure .nx
def loop (g : Tg) (b : St) : List D → St
  | [] => M.pure .nx
  | d :: ds => fun S => match g.put d S with
    | none => .bad
    | some S => (b S).bind fun f => match f with
      | .nx => loop g b ds
      | .ct => loop g b ds
      | .bk => M.pure .nx
      | .rt r => M.pure (.rt r)
def sFor (it : It) (g : Tg) (b : St) : St := M.bind it fun ds => loop g b ds
/-! comprehensions: vs the block's own slots -/
def wipeS (S : List Slot) : List Nat → List Slot
  | [] => S
  | v :: vs => (wipeS S vs).set v none
/-- the own slots as they were ahead -/
def backS (S0 : List Slot) : List Slot → List Nat → List Slot
  | S, [] => S
  | S, v :: vs => backS S0 (S.set v (S0.getD v none)) vs
def noDup : List Nat → Bool
  | [] => true
  | v :: vs => !vs.contains v && noDup vs
mutual
def Tg.sl : Tg → List Nat
  | .nm i => [i]
  | .tp ts => Tg.sls ts
def Tg.sls : List Tg → List Nat
  | [] => []
  | t :: ts => Tg.sl t ++ Tg.sls ts
end
def cLoop (g : Tg) (vs : List Nat) (c : T) (e : E) : List D → List D → M (List D)
  | [], acc => M.pure acc
  | d :: ds, acc => fun S => match g.put d S with
    | none => .bad
    | some S => (c S).bind fun b => if b then M.bind (eDat e) fun y S => if acc.length < sizeMax then cLoop g vs c e ds (acc ++ [y]) (wipeS S vs) else .bad
      else fun S => cLoop g vs c e ds acc (wipeS S vs)
def fzAt (S : List Slot) (v : Nat) : Bool := match S[v]? with
  | some none => true
  | some (some (.fz, _)) => true
  | _ => false
def eLc (it : It) (g : Tg) (vs : List Nat) (c : T) (e : E) : E := M.bind it fun ds S0 => if (vs.all (fzAt S0) && noDup vs && g.sl.all vs.contains) = true then
    match cLoop g vs c e ds [] (wipeS S0 vs) with
    | .ok acc S => .ok (.li .fz, .lst acc) (backS S0 S vs)
    | _ => .bad
  else .bad
def tTrue : T := M.pure true
def normIx (n : Nat) (i : Int) : Option Nat := if 0 ≤ i then (if i < n then some i.toNat else none) else if -(n : Int) ≤ i then some (i + n).toNat else none
/-! ### operations on data -/
def kz (d : D) : Option KD := some (.fz, d)
def D.toB : Bool → D := .bl
/-- below 2^500 -/
abbrev small (i : Int) : Prop := i.natAbs < 3273390607896141870013189696827599152216642046043064789483291368096133796404674554883270092325904157150886684127560071009217256545885393053328527589376
def fAdd : D → D → Option KD
  | .int i, .int j => kz (.int (i + j))
  | .str a, .str b => if a.length + b.length ≤ sizeMax then kz (.str (a ++ b)) else none
  | .lst a, .lst b => if a.length + b.length ≤ sizeMax then some (.li .fz, .lst (a ++ b)) else none
  | .tup a, .tup b => if a.length + b.length ≤ sizeMax then kz (.tup (a ++ b)) else none
  | _, _ => none
def fSub : D → D → Option KD
  | .int i, .int j => kz (.int (i - j))
  | _, _ => none
def fMul : D → D → Option KD
  | .int i, .int j => if small i ∧ small j then kz (.int (i * j)) else none
  | .tup a, .int j => if a ≠ [] ∧ 2 ≤ j ∧ j.natAbs ≤ 1000 ∧ a.length ≤ 1000 then kz (.tup (List.replicate j.toNat a).flatten) else none
  | .lst a, .int j => if 0 ≤ j ∧ j.natAbs ≤ 1000 ∧ a.length ≤ 1000 then some (.li .fz, .lst (List.replicate j.toNat a).flatten) else none
  | _, _ => none
def fMod : D → D → Option KD
  | .int i, .int j => if 0 < j then kz (.int (i % j)) else none
  | _, _ => none
def fDiv : D → D → Option KD
  | .int i, .int j => if 0 < j ∧ small j then kz (.int (i / j)) else none
  | _, _ => none
def fNeg : D → Option KD
  | .int i => kz (.int (-i))
  | _ => none
def fPow : D → D → Option KD
  | .int i, .int j => if 0 ≤ j ∧ j.natAbs ≤ 1000000 ∧ i.natAbs < 2 ^ 64 then kz (.int (i ^ j.toNat)) else none
  | _, _ => none
def fLt : D → D → Option KD
  | .int i, .int j => kz (.bl (decide (i < j)))
  | .str a, .str b => kz (.bl (decide (a < b)))
  | _, _ => none
def fLe : D → D → Option KD
  | .int i, .int j => kz (.bl (decide (i ≤ j)))
  | .str a, .str b => kz (.bl (!decide (b < a)))
  | _, _ => none
def fGt : D → D → Option KD
  | .int i, .int j => kz (.bl (decide (j < i)))
  | .str a, .str b => kz (.bl (decide (b < a)))
  | _, _ => none
def fGe : D → D → Option KD
  | .int i, .int j => kz (.bl (decide (j ≤ i)))
  | .str a, .str b => kz (.bl (!decide (a < b)))
  | _, _ => none
def fIx : D → D → Option KD
  | .scr xs, .int i => (normIx xs.length i).bind fun n => xs[n]?.bind fun j => kz (.int j)
  | .lst xs, .int i => (normIx xs.length i).bind fun n => xs[n]?.bind kz
  | .tup xs, .int i => (normIx xs.length i).bind fun n => xs[n]?.bind kz
  | .str s, .int i => if s.length ≤ sizeMax then (normIx s.length i).bind fun n => s[n]?.bind fun c => kz (.str [c]) else none
  | _, _ => none
def fLen : List D → Option KD
  | [.scr xs] => kz (.int xs.length)
  | [.lst xs] => kz (.int xs.length)
  | [.tup xs] => kz (.int xs.length)
  | [.str s] => if s.length ≤ sizeMax then kz (.int s.length) else none
  | _ => none
def fIsN : D → D → Option KD
  | x, .non => kz (.bl (match x with | .non => true | _ => false))
  | _, _ => none
def fNotN : D → D → Option KD
  | x, .non => kz (.bl (match x with | .non => false | _ => true))
  | _, _ => none
def fIsB : D → D → Option KD
  | .bl a, .bl b => kz (.bl (decide (a = b)))
  | _, _ => none
def fNotB : D → D → Option KD
  | .bl a, .bl b => kz (.bl (!decide (a = b)))
  | _, _ => none
def fIntB : List D → Option KD
  | [.int i] => kz (.int i)
  | [.bl b] => kz (.int (if b then 1 else 0))
  | _ => none
def fMin2 : List D → Option KD
  | [.int i, .int j] => kz (.int (if j < i then j else i))
  | _ => none
def fMax2 : List D → Option KD
  | [.int i, .int j] => kz (.int (if j > i then j else i))
  | _ => none
def fList : List D → Option KD
  | [.lst xs] => some (.li .fz, .lst xs)
  | [.tup xs] => some (.li .fz, .lst xs)
  | [.dic kvs] => some (.li .fz, .lst (kvs.map (·.1)))
  | _ => none
def fTuple : List D → Option KD
  | [.lst xs] => kz (.tup xs)
  | [.tup xs] => kz (.tup xs)
  | _ => none
def boolsOf : List D → Option (List Bool)
  | [] => some []
  | .bl b :: ds => (boolsOf ds).map (b :: ·)
  | _ => none
def fAllB : List D → Option KD
  | [.lst xs] => (boolsOf xs).bind fun bs => kz (.bl (bs.all id))
  | _ => none
/-- c in a text, c one sign -/
def fInS : D → D → Option KD
  | .str [c], .str s => kz (.bl (decide (c ∈ s)))
  | _, _ => none
def fNotInS : D → D → Option KD
  | .str [c], .str s => kz (.bl (!decide (c ∈ s)))
  | _, _ => none
/-! == of data -/
mutual
def D.eqv : D → D → Bool
  | .non, .non => true
  | .bl a, .bl b => a == b
  | .bl a, .int j => (if a then 1 else 0) == j
  | .int i, .bl b => i == (if b then 1 else 0)
  | .int i, .int j => i == j
  | .str a, .str b => a == b
  | .lst xs, .lst ys => D.eqvs xs ys
  | .tup xs, .tup ys => D.eqvs xs ys
  | _, _ => false
def D.eqvs : List D → List D → Bool
  | [], [] => true
  | x :: xs, y :: ys => D.eqv x y && D.eqvs xs ys
  | _, _ => false
end
mutual
/-- made of numbers, truths, None, texts, lists, tuples, at most n within one another -/
def D.lay : Nat → D → Bool
  | _, .non => true
  | _, .bl _ => true
  | _, .int _ => true
  | _, .str s => s.all (· < 1114112)
  | n + 1, .lst xs => D.lays n xs
  | n + 1, .tup xs => D.lays n xs
  | _, _ => false
def D.lays : Nat → List D → Bool
  | _, [] => true
  | n, x :: xs => D.lay n x && D.lays n xs
end
def eqOk (x y : D) : Bool := (x.flat && y.flat) || (x.lay 60 && y.lay 60)
def fEq (x y : D) : Option KD := if eqOk x y = true then kz (.bl (D.eqv x y)) else none
def fNe (x y : D) : Option KD := if eqOk x y = true then kz (.bl (!D.eqv x y)) else none
/-- x in xs, xs of flat data -/
def fIn (x y : D) : Option KD := match itemsOf y with
  | some ys => if x.flat && ys.all D.flat then kz (.bl (ys.any fun y => D.eqv y x)) else none
  | none => none
def fNotIn (x y : D) : Option KD := match itemsOf y with
  | some ys => if x.flat && ys.all D.flat then kz (.bl (!ys.any fun y => D.eqv y x)) else none
  | none => none
def fOr (f g : D → D → Option KD) (x y : D) : Option KD := match f x y with
  | some a => some a
  | none => g x y
def fInA : D → D → Option KD := fOr fIn fInS
def fNotInA : D → D → Option KD := fOr fNotIn fNotInS
def fIsA : D → D → Option KD := fOr fIsN fIsB
def fIsNotA : D → D → Option KD := fOr fNotN fNotB
/-! isinstance -/
inductive Ty where
  | int | bool | str | list | tuple
def D.isTy : Ty → D → Option Bool
  | .int, .int _ => some true
  | .int, .bl _ => some true
  | .bool, .bl _ => some true
  | .str, .str _ => some true
  | .list, .lst _ => some true
  | .tuple, .tup _ => some true
  | _, .scr _ => none
  | _, .dic _ => none
  | _, .dit _ => none
  | _, .ob _ _ => none
  | _, .fn _ => none
  | _, _ => some false
def fIsi (t : Ty) (d : D) : Option KD := (d.isTy t).bind fun b => kz (.bl b)
def eIsi (t : Ty) (e : E) : E := eUn (fIsi t) e
/-! slices -/
def ixS (n d : Nat) : Option Int → Nat
  | none => d
  | some v => if v < 0 then (v + (n : Int)).toNat else min v.toNat n
def cutL {α : Type} (xs : List α) (lo hi : Option Int) : List α := (xs.drop (ixS xs.length 0 lo)).take (ixS xs.length xs.length hi - ixS xs.length 0 lo)
def fSl (d : D) (lo hi : Option Int) : Option KD := match d with
  | .lst xs => some (.li .fz, .lst (cutL xs lo hi))
  | .tup xs => kz (.tup (cutL xs lo hi))
  | .str s => if s.length ≤ sizeMax then kz (.str (cutL s lo hi)) else none
  | _ => none
def eOpt : Option E → M (Option Int)
  | none => M.pure none
  | some e => M.bind (eDat e) fun d => match d with
    | .int i => M.pure (some i)
    | _ => fun _ => .bad
def eSl (a : E) (lo hi : Option E) : E := M.bind (eDat a) fun x => M.bind (eOpt lo) fun l => M.bind (eOpt hi) fun h => ofO (fSl x l h)
def fRev : D → Option KD
  | .lst xs => some (.li .fz, .lst xs.reverse)
  | _ => none
/-! sorted, join -/
def intsOf : List D → Option (List Int)
  | [] => some []
  | .int i :: ds => (intsOf ds).map (i :: ·)
  | _ => none
def strsOf : List D → Option (List (List Nat))
  | [] => some []
  | .str i :: ds => (strsOf ds).map (i :: ·)
  | _ => none
def sortI (xs : List Int) : List Int := xs.mergeSort fun a b => decide (a ≤ b)
def sortT (xs : List (List Nat)) : List (List Nat) := xs.mergeSort fun a b => !decide (b < a)
def fSorted : List D → Option KD
  | [.lst xs] => match intsOf xs with
    | some is => some (.li .fz, .lst ((sortI is).map D.int))
    | none => match strsOf xs with
      | some ss => if ss.length < 64 then some (.li .fz, .lst ((sortT ss).map D.str)) else none
      | none => none
  | _ => none
def joinD (s : List Nat) : List (List Nat) → List Nat
  | [] => []
  | [p] => p
  | p :: q :: r => p ++ (s ++ joinD s (q :: r))
def fJoin (s : List Nat) (d : D) : Option KD := match d with
  | .lst xs => (strsOf xs).bind fun ss => if (ss.map (·.length)).sum + ss.length * s.length ≤ sizeMax then kz (.str (joinD s ss)) else none
  | _ => none
def eJoin (a b : E) : E := M.bind (eDat a) fun x => match x with
  | .str s => M.bind (eDat b) fun y => ofO (fJoin s y)
  | _ => fun _ => .bad
/-- a look at owned things that gives a new list of flat data -/
def ePeekL (e : E) : E := fun S => match e (S.map frz) with
  | .ok (.li .fz, .lst ds) _ => if ds.all D.flat then .ok (.li .fz, .lst ds) S else .bad
  | _ => .bad
/-- list(range(n)) -/
def eLRg1 (a : E) : E := M.bind (eDat a) fun d => match d with
  | .int j => if j.natAbs ≤ sizeMax then M.pure (.li .fz, .lst (rangeL 0 j.toNat)) else fun _ => .bad
  | _ => fun _ => .bad
/-! ### owned things changed -/
/-- the own list of slot i -/
def ownL (S : List Slot) (i : Nat) : Option (List D) := match S[i]? with
  | some (some (.li .fz, .lst xs)) => some xs
  | _ => none
def hasL (i : Nat) : M Unit := fun S => match ownL S i with
  | some _ => .ok () S
  | none => .bad
/-- the own dict of slot i -/
def ownK (S : List Slot) (i : Nat) : Option (List (D × D)) := match S[i]? with
  | some (some (.dK .fz, .dic xs)) => some xs
  | _ => none
def hasK (i : Nat) : M Unit := fun S => match ownK S i with
  | some _ => .ok () S
  | none => .bad
/-- xs[k] = e -/
def sSetIx (i : Nat) (k e : E) : St := M.bind (eDat e) fun y => M.bind (hasL i) fun _ => M.bind (eDat k) fun x S => match ownL S i, x with
  | some xs, .int j => match normIx xs.length j with
    | some n => .ok .nx (S.set i (some (.li .fz, .lst (xs.set n y))))
    | none => .bad
  | _, _ => .bad
/-- xs[k] of an own list: its items are frozen -/
def eIxO (i : Nat) (k : E) : E := M.bind (hasL i) fun _ => M.bind (eDat k) fun x S => match ownL S i, x with
  | some xs, .int j => match (normIx xs.length j).bind fun n => xs[n]? with
    | some d => .ok (.fz, d) S
    | none => .bad
  | _, _ => .bad
/-- the slot i, frozen where it stands -/
def eFzV (i : Nat) : E := fun S => match S[i]? with
  | some (some (_, d)) => .ok (.fz, d) (S.set i (some (.fz, d)))
  | _ => .bad
/-- xs.m(..): what comes, what becomes of xs -/
def eMth (f : List D → List D → Option (D × List D)) (i : Nat) (es : List E) : E := M.bind (hasL i) fun _ => M.bind (eAll es) fun ds S => match ownL S i with
  | some xs => match f xs ds with
    | some (r, ys) => .ok (.fz, r) (S.set i (some (.li .fz, .lst ys)))
    | none => .bad
  | none => .bad
def fAppend : List D → List D → Option (D × List D)
  | xs, [y] => if xs.length < sizeMax then some (.non, xs ++ [y]) else none
  | _, _ => none
def fPopAt : List D → List D → Option (D × List D)
  | xs, [.int i] => if i.natAbs < limN then (normIx xs.length i).bind fun n => xs[n]?.map fun d => (d, xs.eraseIdx n) else none
  | _, _ => none
def fInsert : List D → List D → Option (D × List D)
  | xs, [.int i, y] => if 0 ≤ i ∧ i.natAbs < limN ∧ xs.length < sizeMax then some (.non, xs.take i.toNat ++ [y] ++ xs.drop i.toNat) else none
  | _, _ => none
/-- xs[a:b] = ys -/
def sSetSl (i : Nat) (a b e : E) : St := M.bind (eDat e) fun y => M.bind (hasL i) fun _ => M.bind (eDat a) fun p => match p with
  | .int l => M.bind (eDat b) fun q => match q with
    | .int h => match y with
      | .lst ys => fun S => match ownL S i with
        | some xs => if 0 ≤ l ∧ l ≤ h ∧ l ≤ xs.length ∧ xs.length + ys.length ≤ sizeMax then .ok .nx (S.set i (some (.li .fz, .lst (xs.take l.toNat ++ ys ++ xs.drop h.toNat)))) else .bad
        | none => .bad
      | _ => fun _ => .bad
    | _ => fun _ => .bad
  | _ => fun _ => .bad
/-- xs[a:b] of an own list -/
def eSlO (i : Nat) (lo hi : Option E) : E := M.bind (hasL i) fun _ => M.bind (eOpt lo) fun l => M.bind (eOpt hi) fun h S => match ownL S i with
  | some xs => .ok (.li .fz, .lst (cutL xs l h)) S
  | none => .bad
/-- {} -/
def eDnew : E := M.pure (.dK .fz, .dic [])
def isKey : D → Bool
  | .int _ => true
  | .str _ => true
  | _ => false
def putD (kvs : List (D × D)) (k v : D) : List (D × D) := if (kvs.any fun p => D.eqv p.1 k) = true then kvs.map (fun p => if D.eqv p.1 k = true then (p.1, v) else p) else kvs ++ [(k, v)]
def valD (kvs : List (D × D)) (k : D) : Option D := (kvs.find? fun p => D.eqv p.1 k).map (·.2)
/-- d[k], d.get(k, z), k in d, of an own dict -/
def eGetO (i : Nat) (k : E) : E := M.bind (hasK i) fun _ => M.bind (eDat k) fun x S => match ownK S i with
  | some kvs => (match isKey x, valD kvs x with
    | true, some d => .ok (.fz, d) S
    | _, _ => .bad)
  | none => .bad
def eGet2O (i : Nat) (k z : E) : E := M.bind (hasK i) fun _ => M.bind (eDat k) fun x => M.bind (eDat z) fun w S => match ownK S i with
  | some kvs => if isKey x = true then .ok (.fz, (valD kvs x).getD w) S else .bad
  | none => .bad
/-- .. of a frozen one -/
def fGet : D → D → Option KD
  | .dic kvs, x => if isKey x = true then (valD kvs x).bind kz else none
  | _, _ => none
def fInD : D → D → Option KD
  | x, .dic kvs => if isKey x = true then kz (.bl (valD kvs x).isSome) else none
  | _, _ => none
def fNotInD : D → D → Option KD
  | x, .dic kvs => if isKey x = true then kz (.bl (!(valD kvs x).isSome)) else none
  | _, _ => none
/-- d[k] = e -/
def sDput (i : Nat) (k e : E) : St := M.bind (eDat e) fun y => M.bind (hasK i) fun _ => M.bind (eDat k) fun x S => match ownK S i with
  | some kvs => if isKey x = true ∧ kvs.length < sizeMax then .ok .nx (S.set i (some (.dK .fz, .dic (putD kvs x y)))) else .bad
  | none => .bad
/-! ### functions -/
inductive FR where
  | ret (r : KD) (outs : List KD) | exc (x : Xc) (outs : List KD) | bad
abbrev Fn := List KD → FR
def Kd.isF : Kd → Bool
  | .fz => true
  | _ => false
/-- what stands in the owned parameters' slots at the end -/
def outsOf : List KD → List Slot → Option (List KD)
  | [], _ => some []
  | (k, _) :: as, s :: S => if k.isF then outsOf as S else match s with
    | some kd => if kd.1.isF then none else (outsOf as S).map (kd :: ·)
    | none => none
  | _ :: _, [] => none
/-- the owned arguments stand in slots that the body leaves to them -/
def pinned (pk : List Nat) : Nat → List KD → Bool
  | _, [] => true
  | i, (k, _) :: as => (k.isF || pk.contains i) && pinned pk (i + 1) as
def frOf (as : List KD) (r : KD) (S : List Slot) : FR := match outsOf as S with
  | some o => .ret r o
  | none => .bad
def runF (n : Nat) (pk : List Nat) (body : St) : Fn := fun as => if pinned pk 0 as = true then match body (as.map some ++ List.replicate (n - as.length) none) with
    | .ok (.rt r) S => frOf as r S
    | .ok .nx S => frOf as (.fz, .non) S
    | .exc x S => (match outsOf as S with | some o => .exc x o | none => .bad)
    | _ => .bad
  else .bad
/-- an argument: frozen data, an owned temporary, a slot lent -/
inductive Ar where
  | v (e : E) | o (e : E) | b (i : Nat)
inductive AV where
  | v (d : D) | o (kd : KD) | b (i : Nat)
def arEv : List Ar → M (List AV)
  | [] => M.pure []
  | .v e :: as => M.bind (eDat e) fun d => M.bind (arEv as) fun r => M.pure (.v d :: r)
  | .o e :: as => M.bind e fun kd => M.bind (arEv as) fun r => if kd.1.isF then fun _ => .bad else M.pure (.o kd :: r)
  | .b i :: as => fun S => match S[i]? with
    | some (some _) => M.bind (arEv as) (fun r => M.pure (.b i :: r)) S
    | _ => .bad
/-- the arguments as the callee has them; lent slots are empty meanwhile -/
def arIn : List AV → List Slot → Option (List KD × List Slot)
  | [], S => some ([], S)
  | .v d :: as, S => (arIn as S).map fun r => ((.fz, d) :: r.1, r.2)
  | .o kd :: as, S => (arIn as S).map fun r => (kd :: r.1, r.2)
  | .b i :: as, S => match S[i]? with
    | some (some kd) => if kd.1.isF then none else (arIn as (S.set i none)).map fun r => (kd :: r.1, r.2)
    | _ => none
/-- lent slots come back -/
def arOut : List AV → List KD → List Slot → Option (List Slot)
  | [], [], S => some S
  | .v _ :: as, os, S => arOut as os S
  | .o _ :: as, _ :: os, S => arOut as os S
  | .b i :: as, o :: os, S => arOut as os (S.set i (some o))
  | _, _, _ => none
def eCall (F : Fn) (as : List Ar) : E := M.bind (arEv as) fun vs S => match arIn vs S with
  | none => .bad
  | some (ks, S1) => match F ks with
    | .ret r os => (match arOut vs os S1 with | some S2 => .ok r S2 | none => .bad)
    | .exc x os => (match arOut vs os S1 with | some S2 => .exc x S2 | none => .bad)
    | .bad => .bad
end TB

/-! TbM2: order of nested data, what is sorted, the greatest and the least; core Lean alone. -/
namespace TB
mutual
/-- can be compared, place by place -/
def D.alk : D → D → Bool
  | .bl _, .bl _ => true
  | .int _, .int _ => true
  | .str _, .str _ => true
  | .tup xs, .tup ys => D.alks xs ys
  | _, _ => false
def D.alks : List D → List D → Bool
  | x :: xs, y :: ys => D.alk x y && D.alks xs ys
  | [], _ => true
  | _ :: _, [] => true
end
mutual
def D.lt : D → D → Bool
  | .bl a, .bl b => !a && b
  | .int i, .int j => decide (i < j)
  | .str a, .str b => decide (a < b)
  | .tup xs, .tup ys => D.lts xs ys
  | _, _ => false
def D.lts : List D → List D → Bool
  | x :: xs, y :: ys => if D.eqv x y = true then D.lts xs ys else D.lt x y
  | [], _ :: _ => true
  | _, _ => false
end
def leD (x y : D) : Bool := !D.lt y x
def D.isTup1 : D → Bool
  | .tup (_ :: _) => true
  | _ => false
def D.isTup : D → Bool
  | .tup _ => true
  | _ => false
/-- all of one form -/
def alkAll (ds : List D) : Bool := ds.all fun x => ds.all fun y => D.alk x y
/-- tuples, none of them empty, all of one form -/
def sortOk (ds : List D) : Bool := ds.all D.isTup1 && alkAll ds && D.lays 60 ds
def sortD (ds : List D) : List D := ds.mergeSort leD
def fSortD : List D → Option KD
  | [.lst xs] => if sortOk xs = true ∧ xs.length ≤ sizeMax then some (.li .fz, .lst (sortD xs)) else none
  | _ => none
def fOr1 (f g : List D → Option KD) (xs : List D) : Option KD := match f xs with
  | some a => some a
  | none => g xs
def fSortedT : List D → Option KD
  | [.lst xs] => match strsOf xs with
    | some ss => if ss.length ≤ sizeMax then some (.li .fz, .lst ((sortT ss).map D.str)) else none
    | none => none
  | _ => none
def fSortedA : List D → Option KD := fOr1 fSorted (fOr1 fSortedT fSortD)
def cmpOk (x y : D) : Bool := x.isTup && D.alk x y && x.lay 60 && y.lay 60
def fLtD (x y : D) : Option KD := if cmpOk x y = true then kz (.bl (D.lt x y)) else none
def fGtD (x y : D) : Option KD := if cmpOk x y = true then kz (.bl (D.lt y x)) else none
def fLeD (x y : D) : Option KD := if cmpOk x y = true then kz (.bl (!D.lt y x)) else none
def fGeD (x y : D) : Option KD := if cmpOk x y = true then kz (.bl (!D.lt x y)) else none
def fLtA : D → D → Option KD := fOr fLt fLtD
def fGtA : D → D → Option KD := fOr fGt fGtD
def fLeA : D → D → Option KD := fOr fLe fLeD
def fGeA : D → D → Option KD := fOr fGe fGeD
def minD (x : D) (xs : List D) : D := xs.foldl (fun a y => if D.lt y a = true then y else a) x
def maxD (x : D) (xs : List D) : D := xs.foldl (fun a y => if D.lt a y = true then y else a) x
def fMinL : List D → Option KD
  | [.lst (x :: xs)] => if alkAll (x :: xs) = true ∧ D.lays 60 (x :: xs) = true ∧ (x :: xs).length ≤ sizeMax then kz (minD x xs) else none
  | _ => none
def fMaxL : List D → Option KD
  | [.lst (x :: xs)] => if alkAll (x :: xs) = true ∧ D.lays 60 (x :: xs) = true ∧ (x :: xs).length ≤ sizeMax then kz (maxD x xs) else none
  | _ => none
end TB

/-! TbM3: the mirror of objects and of paths into what is owned; core Lean alone. -/
namespace TB
mutual
/-- numbers, truths, texts, None, tuples of such -/
def D.imm : D → Bool
  | .non => true
  | .bl _ => true
  | .int _ => true
  | .str _ => true
  | .tup xs => D.imms xs
  | _ => false
def D.imms : List D → Bool
  | [] => true
  | x :: xs => D.imm x && D.imms xs
end
/-- looks at owned things -/
def ePeekI (e : E) : E := fun S => match e (S.map frz) with
  | .ok (_, d) _ => if d.imm = true then .ok (.fz, d) S else .bad
  | _ => .bad
def ePeekLI (e : E) : E := fun S => match e (S.map frz) with
  | .ok (.li .fz, .lst ds) _ => if D.imms ds = true then .ok (.li .fz, .lst ds) S else .bad
  | _ => .bad
mutual
def Kd.beq : Kd → Kd → Bool
  | .fz, .fz => true
  | .li a, .li b => Kd.beq a b
  | .dK a, .dK b => Kd.beq a b
  | .dT a, .dT b => Kd.beq a b
  | .dR a, .dR b => Kd.beqs a b
  | .dN, .dN => true
  | .ob a, .ob b => Kd.beqs a b
  | _, _ => false
def Kd.beqs : List Kd → List Kd → Bool
  | [], [] => true
  | a :: as, b :: bs => Kd.beq a b && Kd.beqs as bs
  | _, _ => false
end
/-- a step of a path, as it came out -/
inductive PV where
  | fld (c n : Nat) | key (d : D) | ix (i : Int)
def keyAt (kvs : List (D × D)) (k : D) : Option Nat := kvs.findIdx? fun p => D.eqv p.1 k
def getKD : List PV → Kd → D → Option KD
  | [], k, d => some (k, d)
  | .fld c n :: p, .ob ks, .ob c' ds => if c' = c then (match ks[n]?, ds[n]? with
    | some k, some d => getKD p k d
    | _, _ => none) else none
  | .key x :: p, .dK k, .dic kvs => if isKey x = true then (keyAt kvs x).bind fun n => kvs[n]?.bind fun q => getKD p k q.2 else none
  | .key x :: p, .dR ks, .dic kvs => if isKey x = true then (keyAt kvs x).bind fun n => match ks[n]?, kvs[n]? with
    | some k, some q => getKD p k q.2
    | _, _ => none else none
  | .ix i :: p, .li k, .lst ds => (normIx ds.length i).bind fun n => ds[n]?.bind fun d => getKD p k d
  | _, _, _ => none
def setKD : List PV → Kd → D → KD → Option KD
  | [], _, _, kd => some kd
  | .fld c n :: p, .ob ks, .ob c' ds, kd => if c' = c then (match ks[n]?, ds[n]? with
    | some k, some d => (setKD p k d kd).bind fun r => some (.ob (ks.set n r.1), .ob c' (ds.set n r.2))
    | _, _ => none) else none
  | .key x :: p, .dK k, .dic kvs, kd => if isKey x = true then (keyAt kvs x).bind fun n => kvs[n]?.bind fun q => (setKD p k q.2 kd).bind fun r => if Kd.beq r.1 k = true then some (.dK k, .dic (kvs.set n (q.1, r.2))) else none else none
  | .key x :: p, .dR ks, .dic kvs, kd => if isKey x = true then (keyAt kvs x).bind fun n => match ks[n]?, kvs[n]? with
    | some k, some q => (setKD p k q.2 kd).bind fun r => some (.dR (ks.set n r.1), .dic (kvs.set n (q.1, r.2)))
    | _, _ => none else none
  | .ix i :: p, .li k, .lst ds, kd => (normIx ds.length i).bind fun n => ds[n]?.bind fun d => (setKD p k d kd).bind fun r => if Kd.beq r.1 k = true then some (.li k, .lst (ds.set n r.2)) else none
  | _, _, _, _ => none
/-- a step of a path, written -/
inductive PS where
  | fld (c n : Nat) | key (e : E) | ix (e : E)
def eFzD (e : E) (S : List Slot) : Option D := match e S with
  | .ok (.fz, d) _ => some d
  | _ => none
def pEv : List PS → List Slot → Option (List PV)
  | [], _ => some []
  | .fld c n :: ps, S => (pEv ps S).map (.fld c n :: ·)
  | .key e :: ps, S => (eFzD e S).bind fun d => (pEv ps S).map (.key d :: ·)
  | .ix e :: ps, S => match eFzD e S with
    | some (.int i) => (pEv ps S).map (.ix i :: ·)
    | _ => none
/-- what stands at the path -/
structure Tgt where
  pv : List PV
  rk : Kd
  rd : D
  k : Kd
  d : D
def tgt (i : Nat) (ps : List PS) (S : List Slot) : Option Tgt := match S[i]?, pEv ps S with
  | some (some (rk, rd)), some pv => (getKD pv rk rd).map fun kd => ⟨pv, rk, rd, kd.1, kd.2⟩
  | _, _ => none
/-- something else there -/
def Tgt.put (t : Tgt) (i : Nat) (kd : KD) (S : List Slot) : Option (List Slot) := (setKD t.pv t.rk t.rd kd).map fun r => S.set i (some r)
/-- read: what is frozen there -/
def pRd (i : Nat) (ps : List PS) : E := fun S => match tgt i ps S with
  | some ⟨_, _, _, .fz, d⟩ => .ok (.fz, d) S
  | _ => .bad
def pOk {α : Type} (a : α) : Option (List Slot) → R α
  | some S => .ok a S
  | none => .bad
/-- o.f = e: the field n of the object there, a new one behind the others -/
def fldPut (ks : List Kd) (ds : List D) (n : Nat) (kd : KD) : Option (List Kd × List D) :=
  if n < ds.length ∧ ds.length < 900 then some (ks.set n kd.1, ds.set n kd.2) else if n = ds.length ∧ n < 900 then some (ks ++ [kd.1], ds ++ [kd.2]) else none
def pFld (i : Nat) (ps : List PS) (c n : Nat) (e : E) : St := M.bind e fun kd S => match tgt i ps S with
  | some t => match t.k, t.d with
    | .ob ks, .ob c' ds => if c' = c then (match fldPut ks ds n kd with
      | some r => pOk .nx (t.put i (.ob r.1, .ob c r.2) S)
      | none => .bad) else .bad
    | _, _ => .bad
  | none => .bad
/-- o[k] = e of an own dict, an own list -/
def pDput (i : Nat) (ps : List PS) (k e : E) : St := M.bind e fun kd S => match tgt i ps S, eFzD k S with
  | some t, some x => match t.k, t.d with
    | .dK kk, .dic kvs => if isKey x = true ∧ kvs.length < sizeMax ∧ Kd.beq kd.1 kk = true ∧ (kk.isF || (keyAt kvs x).isNone) = true then pOk .nx (t.put i (.dK kk, .dic (putD kvs x kd.2)) S) else .bad
    | _, _ => .bad
  | _, _ => .bad
def pSetIx (i : Nat) (ps : List PS) (k e : E) : St := M.bind e fun kd S => match tgt i ps S, eFzD k S with
  | some t, some (.int j) => match t.k, t.d with
    | .li kk, .lst xs => match normIx xs.length j with
      | some n => if Kd.beq kd.1 kk = true then pOk .nx (t.put i (.li kk, .lst (xs.set n kd.2)) S) else .bad
      | none => .bad
    | _, _ => .bad
  | _, _ => .bad
/-- o[k] of a dict, o.get(k, z), k in o -/
def pGet2 (i : Nat) (ps : List PS) (k z : E) : E := fun S => match tgt i ps S, eFzD k S, eFzD z S with
  | some t, some x, some w => match t.k, t.d with
    | .dK .fz, .dic kvs => if isKey x = true then .ok (.fz, (valD kvs x).getD w) S else .bad
    | _, _ => .bad
  | _, _, _ => .bad
def pNotIn (i : Nat) (ps : List PS) (k : E) : E := fun S => match tgt i ps S, eFzD k S with
  | some t, some x => match t.k, t.d with
    | .dK _, .dic kvs => if isKey x = true then .ok (.fz, .bl (!(valD kvs x).isSome)) S else .bad
    | _, _ => .bad
  | _, _ => .bad
def pIn (i : Nat) (ps : List PS) (k : E) : E := fun S => match tgt i ps S, eFzD k S with
  | some t, some x => match t.k, t.d with
    | .dK _, .dic kvs => if isKey x = true then .ok (.fz, .bl (valD kvs x).isSome) S else .bad
    | _, _ => .bad
  | _, _ => .bad
def eFzDs : List E → List Slot → Option (List D)
  | [], _ => some []
  | e :: es, S => (eFzD e S).bind fun d => (eFzDs es S).map (d :: ·)
/-- o.m(..) of an own list -/
def pMth (f : List D → List D → Option (D × List D)) (i : Nat) (ps : List PS) (es : List E) : E := fun S => match tgt i ps S, eFzDs es S with
  | some t, some ds => match t.k, t.d with
    | .li .fz, .lst xs => match f xs ds with
      | some (r, ys) => pOk (.fz, r) (t.put i (.li .fz, .lst ys) S)
      | none => .bad
    | _, _ => .bad
  | _, _ => .bad
/-- op= of numbers -/
def augI (s : Bool) (i j : Int) : Int := if s then i - j else i + j
def pAugF (i : Nat) (ps : List PS) (c n : Nat) (s : Bool) (e : E) : St := fun S => match tgt i ps S, eFzD e S with
  | some t, some (.int y) => match t.k, t.d with
    | .ob ks, .ob c' ds => if c' = c then (match ks[n]?, ds[n]? with
      | some .fz, some (.int x) => (match fldPut ks ds n (.fz, .int (augI s x y)) with
        | some r => pOk .nx (t.put i (.ob r.1, .ob c r.2) S)
        | none => .bad)
      | _, _ => .bad) else .bad
    | _, _ => .bad
  | _, _ => .bad
def pAugIx (i : Nat) (ps : List PS) (k : E) (s : Bool) (e : E) : St := fun S => match tgt i ps S, eFzD k S, eFzD e S with
  | some t, some (.int j), some (.int y) => match t.k, t.d with
    | .li .fz, .lst xs => (match normIx xs.length j with
      | some n => (match xs[n]? with
        | some (.int x) => pOk .nx (t.put i (.li .fz, .lst (xs.set n (.int (augI s x y)))) S)
        | _ => .bad)
      | none => .bad)
    | _, _ => .bad
  | _, _, _ => .bad
def pAugD (i : Nat) (ps : List PS) (k : E) (s : Bool) (e : E) : St := fun S => match tgt i ps S, eFzD k S, eFzD e S with
  | some t, some x, some (.int y) => match t.k, t.d with
    | .dK .fz, .dic kvs => if isKey x = true ∧ kvs.length < sizeMax then (match valD kvs x with
      | some (.int v) => pOk .nx (t.put i (.dK .fz, .dic (putD kvs x (.int (augI s v y)))) S)
      | _ => .bad) else .bad
    | _, _ => .bad
  | _, _, _ => .bad
/-- o.f of a frozen object -/
def fFld (c n : Nat) : D → Option KD
  | .ob c' ds => if c' = c then ds[n]?.bind kz else none
  | _ => none
end TB
namespace TB
/-! ### methods, new objects -/
def isObj (c : Nat) : AV → List Slot → Bool
  | .v (.ob c' _), _ => c' == c
  | .o (_, .ob c' _), _ => c' == c
  | .b i, S => match S[i]? with
    | some (some (.ob _, .ob c' _)) => c' == c
    | _ => false
  | _, _ => false
def callAV (F : Fn) (vs : List AV) (S : List Slot) : R KD := match arIn vs S with
  | none => .bad
  | some (ks, S1) => match F ks with
    | .ret r os => (match arOut vs os S1 with | some S2 => .ok r S2 | none => .bad)
    | .exc x os => (match arOut vs os S1 with | some S2 => .exc x S2 | none => .bad)
    | .bad => .bad
/-- o.m(.., its defaults), o of the class c -/
def eMeth (c : Nat) (F : Fn) (r : Ar) (as : List Ar) (ds : List D) : E := M.bind (arEv [r]) fun v1 S => match v1 with
  | [x] => if isObj c x S = true then (M.bind (arEv as) fun vs S => callAV F (x :: (vs ++ ds.map .v)) S) S else .bad
  | _ => .bad
/-- f(.., its defaults) -/
def eCallD (F : Fn) (as : List Ar) (ds : List D) : E := M.bind (arEv as) fun vs S => callAV F (vs ++ ds.map .v) S
/-- C(..) -/
def eMake (c : Nat) (F : Fn) (as : List Ar) : E := M.bind (arEv as) fun vs S => match arIn vs S with
  | none => .bad
  | some (ks, S1) => match F ((.ob [], .ob c []) :: ks) with
    | .ret (_, .non) (o :: os) => (match arOut vs os S1 with | some S2 => .ok o S2 | none => .bad)
    | _ => .bad
/-- o.m(..), o at a path; the arguments do not look at its root -/
def pCall (c : Nat) (F : Fn) (i : Nat) (ps : List PS) (as : List Ar) (ds : List D) : E := fun S => match tgt i ps S with
  | some g => (match g.k, g.d with
    | .ob ks, .ob c' fs => if c' = c then (M.bind (arEv as) fun vs S1 => match arIn (vs ++ ds.map .v) S1 with
      | none => .bad
      | some (ka, S2) => match F ((.ob ks, .ob c' fs) :: ka) with
        | .ret r (o :: os) => (match arOut (vs ++ ds.map .v) os S2, setKD g.pv g.rk g.rd o with
          | some S3, some rt => .ok r (S3.set i (some rt))
          | _, _ => .bad)
        | .exc x (o :: os) => (match arOut (vs ++ ds.map .v) os S2, setKD g.pv g.rk g.rd o with
          | some S3, some rt => .exc x (S3.set i (some rt))
          | _, _ => .bad)
        | _ => .bad) (S.set i none) else .bad
    | _, _ => .bad)
  | none => .bad
end TB

namespace TB
/-! ### dicts whose keys are tuples (of tuples) -/
mutual
def D.nk : Nat → D → Bool
  | _, .int _ => true
  | _, .str _ => true
  | n + 1, .tup xs => D.nks n xs
  | _, _ => false
def D.nks : Nat → List D → Bool
  | _, [] => true
  | n, x :: xs => D.nk n x && D.nks n xs
end
def isNK (d : D) : Bool := d.isTup && d.nk 8
/-- {} of that kind -/
def eNnew : E := M.pure (.dN, .dit [])
def pNput (i : Nat) (ps : List PS) (k e : E) : St := M.bind (eDat e) fun y S => match tgt i ps S, eFzD k S with
  | some t, some x => match t.k, t.d with
    | .dN, .dit kvs => if isNK x = true ∧ kvs.length < sizeMax then pOk .nx (t.put i (.dN, .dit (putD kvs x y)) S) else .bad
    | _, _ => .bad
  | _, _ => .bad
def pNget2 (i : Nat) (ps : List PS) (k z : E) : E := fun S => match tgt i ps S, eFzD k S, eFzD z S with
  | some t, some x, some w => match t.k, t.d with
    | .dN, .dit kvs => if isNK x = true then .ok (.fz, (valD kvs x).getD w) S else .bad
    | _, _ => .bad
  | _, _, _ => .bad
def pNaug (i : Nat) (ps : List PS) (k : E) (s : Bool) (e : E) : St := fun S => match tgt i ps S, eFzD k S, eFzD e S with
  | some t, some x, some (.int y) => match t.k, t.d with
    | .dN, .dit kvs => if isNK x = true ∧ kvs.length < sizeMax then (match valD kvs x with
      | some (.int v) => pOk .nx (t.put i (.dN, .dit (putD kvs x (.int (augI s v y)))) S)
      | _ => .bad) else .bad
    | _, _ => .bad
  | _, _, _ => .bad
/-- d[k] of a frozen one -/
def fNget : D → D → Option KD
  | .dit kvs, x => if isNK x = true then (valD kvs x).bind kz else none
  | _, _ => none
/-- sorted(d): its keys -/
def fSortN : D → Option KD
  | .dit kvs => if sortOk (kvs.map (·.1)) = true then some (.li .fz, .lst (sortD (kvs.map (·.1)))) else none
  | _ => none
end TB

namespace TB
/-- the same, at a slot, the key any expression -/
def ownN (S : List Slot) (i : Nat) : Option (List (D × D)) := match S[i]? with
  | some (some (.dN, .dit xs)) => some xs
  | _ => none
def hasN (i : Nat) : M Unit := fun S => match ownN S i with
  | some _ => .ok () S
  | none => .bad
def sNput (i : Nat) (k e : E) : St := M.bind (eDat e) fun y => M.bind (hasN i) fun _ => M.bind (eDat k) fun x S => match ownN S i with
  | some kvs => if isNK x = true ∧ kvs.length < sizeMax then .ok .nx (S.set i (some (.dN, .dit (putD kvs x y)))) else .bad
  | none => .bad
end TB

namespace TB
/-- the members of a set, as first met -/
def nubD : List D → List D → List D
  | acc, [] => acc
  | acc, x :: xs => if (acc.any fun y => D.eqv y x) = true then nubD acc xs else nubD (acc ++ [x]) xs
def D.isInt : D → Bool
  | .int _ => true
  | _ => false
def setOk (ds : List D) : Bool := (ds.all D.isInt && decide (ds.length < 60)) || (ds.all isNK && decide (ds.length < 76))
/-- len(set(xs)) -/
def fLenSet : D → Option KD
  | .lst ds => if setOk ds = true then kz (.int (nubD [] ds).length) else none
  | _ => none
end TB

namespace TB
/-! ### small ones -/
/-- not promised -/
def eBad : E := fun _ => .bad
def sBad : St := fun _ => .bad
def truD : D → Option Bool
  | .non => some false
  | .bl b => some b
  | .int i => some (i != 0)
  | .str s => if s.length ≤ sizeMax then some ((s.length : Int) != 0) else none
  | .tup xs => some (!xs.isEmpty)
  | .lst xs => some (!xs.isEmpty)
  | _ => none
/-- x or y, x and y, as they are -/
def eOrV (a b : E) : E := M.bind (eDat a) fun x => match truD x with
  | some true => M.pure (.fz, x)
  | some false => b
  | none => eBad
def eAndV (a b : E) : E := M.bind (eDat a) fun x => match truD x with
  | some true => b
  | some false => M.pure (.fz, x)
  | none => eBad
/-- e op x, x an owned slot, looked at when e is done -/
def ePk2 (f : D → D → Option KD) (a : E) (i : Nat) : E := M.bind (eDat a) fun x S => match S[i]? with
  | some (some (_, d)) => (match f x d with
    | some (_, r) => if r.flat = true then .ok (.fz, r) S else .bad
    | none => .bad)
  | _ => .bad
/-- x in a list of data -/
def fInN (x y : D) : Option KD := match y with
  | .lst ys => if (x.lay 60 && D.lays 60 ys) = true then kz (.bl (ys.any fun y => D.eqv y x)) else none
  | _ => none
def fNotInN (x y : D) : Option KD := match y with
  | .lst ys => if (x.lay 60 && D.lays 60 ys) = true then kz (.bl (!ys.any fun y => D.eqv y x)) else none
  | _ => none
def fInB : D → D → Option KD := fOr fInA fInN
def fNotInB : D → D → Option KD := fOr fNotInA fNotInN
/-- xs.index(x) -/
def fIndexL (x y : D) : Option KD := match x with
  | .lst ys => if (y.flat && ys.all D.flat) = true then (ys.findIdx? fun z => D.eqv z y).bind fun j => kz (.int j) else none
  | _ => none
def eIndexL (a b : E) : E := M.bind (eDat a) fun x => match x with
  | .lst ys => M.bind (eDat b) fun y => ofO (fIndexL (.lst ys) y)
  | _ => eBad
/-- .. of a tuple of texts of the module -/
def fIndexC (ss : List (List Nat)) : D → Option KD
  | .str s => (ss.findIdx? fun z => z == s).bind fun j => kz (.int j)
  | _ => none
/-- T.get(k, z) of a table of the module: texts, numbers -/
def fGetC (tb : List (List Nat × Int)) (x z : D) : Option KD := match x with
  | .str s => match tb.find? fun p => p.1 == s with
    | some p => kz (.int p.2)
    | none => kz z
  | _ => none
end TB

namespace TB
/-- sorted(d.items()), d by texts, numbers -/
def pairD (p : D × D) : D := .tup [p.1, p.2]
def fSortItems : D → Option KD
  | .dic kvs => if (alkAll (kvs.map pairD) && D.lays 60 (kvs.map pairD)) = true then some (.li .fz, .lst (sortD (kvs.map pairD))) else none
  | _ => none
end TB

namespace TB
def fSortN1 : List D → Option KD
  | [d] => fSortN d
  | _ => none
/-- comparable: of one kind up to the first place that differs -/
def wkDs : List D → List D → Bool
  | x :: xs, y :: ys => if D.eqv x y = true then wkDs xs ys else D.alk x y
  | _, _ => true
def wkD : D → D → Bool
  | .tup (x :: xs), .tup (y :: ys) => D.alk x y && wkDs (x :: xs) (y :: ys)
  | _, _ => false
def D.isTupH : D → Bool
  | .tup (.int _ :: _) => true
  | .tup (.str _ :: _) => true
  | .tup (.bl _ :: _) => true
  | _ => false
def sortWk (ds : List D) : Bool := ds.all D.isTupH && ds.all (fun d => ds.all (wkD d)) && D.lays 60 ds
def fSortW : List D → Option KD
  | [.lst xs] => if sortWk xs = true ∧ xs.length ≤ sizeMax then some (.li .fz, .lst (sortD xs)) else none
  | _ => none
def fSortNW : List D → Option KD
  | [.dit kvs] => if sortWk (kvs.map (·.1)) = true then some (.li .fz, .lst (sortD (kvs.map (·.1)))) else none
  | _ => none
def fSortedB : List D → Option KD := fOr1 fSortedA (fOr1 fSortN1 (fOr1 fSortW fSortNW))
end TB

namespace TB
def fGeW (x y : D) : Option KD := if (x.lay 60 && y.lay 60 && wkD x y) = true then kz (.bl (!D.lt x y)) else none
def fGeB : D → D → Option KD := fOr fGeA fGeW
end TB

/-! TbS: the mirror is kept by the machine: what a value stands for, ownership, the state between two steps. -/
namespace TB
open PySem L2

/-- what the top has written, by numbers: classes, their fields, constants -/
structure Cfg where
  K : PySem.W.Frag
  ca : Nat → Addr
  cn : Nat → List PySem.Str
  fa : Nat → Addr
  w : World
/-- .. and of one body: the slots that stay as they were at the start -/
structure Cfgx extends Cfg where
  pk : List Nat
  pv : Nat → Option V
instance : Coe Cfgx Cfg := ⟨Cfgx.toCfg⟩
def keyD : Key → D
  | .inl i => .int i
  | .inr z => .str z.cps.toList

mutual
/-- a key of numbers, texts and tuples of such -/
def nkD : NestedKey → D
  | .none => .non
  | .num i => .int i
  | .text z => .str z.cps.toList
  | .tup ks => .tup (nkDs ks)
def nkDs : List NestedKey → List D
  | [] => []
  | k :: ks => nkD k :: nkDs ks
end
/-- the dict whose keys are nested: key, its tuple, the value -/
def NDO (w : World) (a : Addr) (xs : List (NestedKey × Addr × V)) : HO := .ext fun h => (a == sysModules) = false ∧ xs.length ≤ sizeLine ∧ (∀ x ∈ xs, x.1.depth ≤ 8) ∧ ∃ us : List (NestedKey × Addr × Value),
  Paired (fun (p : NestedKey × Addr × V) (q : NestedKey × Addr × Value) => p.1 = q.1 ∧ p.2.1 = q.2.1 ∧ RelV p.2.2 q.2.2) xs us ∧
  ∃ o es ep, h.get? a = some o ∧ o.ExactDict ∧ o.data = .dict es ep ∧ es.toList = us.map (fun x => (⟨NestedKey.hash w x.1, .ref x.2.1, x.2.2⟩ : DictEntry)) ∧ (us.map (·.1)).Nodup

mutual
inductive Rep (G : Cfg) (F : Hp) : V → D → Prop
  | non : Rep G F .non .non
  | bl (b : Bool) : Rep G F (.bl b) (.bl b)
  | int (i : Int) : Rep G F (.int i) (.int i)
  | str (z : PySem.Str) : Rep G F (.str z) (.str z.cps.toList)
  | tup {a : Addr} {vs : List V} {ds : List D} : SqT G.K F a vs → Reps G F vs ds → Rep G F (.ref a) (.tup ds)
  | scr {a : Addr} {ns : List Int} : SqL G.K F a (ns.map V.int) → Rep G F (.ref a) (.scr ns)
  | lst {a : Addr} {vs : List V} {ds : List D} : F a = some (.lst vs) → Reps G F vs ds → Rep G F (.ref a) (.lst ds)
  | dK {a : Addr} {kvs : List (Key × V)} {kds : List (D × D)} : Rd F a (.dK kvs) → kds.map (·.1) = kvs.map (fun p => keyD p.1) → Reps G F (kvs.map (·.2)) (kds.map (·.2)) → Rep G F (.ref a) (.dic kds)
  | dN {a : Addr} {xs : List (NestedKey × Addr × V)} {kds : List (D × D)} : Rd F a (NDO G.w a xs) → kds.map (·.1) = xs.map (fun x => nkD x.1) → Reps G F (xs.map fun x => .ref x.2.1) (kds.map (·.1)) → Reps G F (xs.map (·.2.2)) (kds.map (·.2)) → Rep G F (.ref a) (.dit kds)
  | ob {a dx : Addr} {c : Nat} {fs : List (PySem.Str × V)} {ds : List D} : F a = some (.ins (G.ca c) dx fs) → fs.map (·.1) = (G.cn c).take ds.length → Reps G F (fs.map (·.2)) ds → Rep G F (.ref a) (.ob c ds)
  | fn (k : Nat) : Rep G F (.ref (G.fa k)) (.fn k)
inductive Reps (G : Cfg) (F : Hp) : List V → List D → Prop
  | nil : Reps G F [] []
  | cons {v : V} {d : D} {vs : List V} {ds : List D} : Rep G F v d → Reps G F vs ds → Reps G F (v :: vs) (d :: ds)
end

/-- how often an address is owned -/
abbrev Cnt := Addr → Nat
def one (a : Addr) : Cnt := fun b => if b = a then 1 else 0
def nil0 : Cnt := fun _ => 0
def add (f g : Cnt) : Cnt := fun a => f a + g a

mutual
inductive Own (G : Cfg) (F H : Hp) : Kd → V → D → Cnt → Prop
  | fz {v : V} {d : D} : Rep G F v d → Own G F H .fz v d nil0
  | li {k : Kd} {a : Addr} {vs : List V} {ds : List D} {g : Cnt} : H a = some (.lst vs) → Owns G F H k vs ds g → Own G F H (.li k) (.ref a) (.lst ds) (add (one a) g)
  | dK {k : Kd} {a : Addr} {kvs : List (Key × V)} {kds : List (D × D)} {g : Cnt} : H a = some (.dK kvs) → kds.map (·.1) = kvs.map (fun p => keyD p.1) → Owns G F H k (kvs.map (·.2)) (kds.map (·.2)) g → Own G F H (.dK k) (.ref a) (.dic kds) (add (one a) g)
  | dR {ks : List Kd} {a : Addr} {kvs : List (Key × V)} {kds : List (D × D)} {g : Cnt} : H a = some (.dK kvs) → kds.map (·.1) = kvs.map (fun p => keyD p.1) → OwnL G F H ks (kvs.map (·.2)) (kds.map (·.2)) g → Own G F H (.dR ks) (.ref a) (.dic kds) (add (one a) g)
  | dN {a : Addr} {xs : List (NestedKey × Addr × V)} {kds : List (D × D)} : H a = some (NDO G.w a xs) → kds.map (·.1) = xs.map (fun x => nkD x.1) → Reps G F (xs.map fun x => .ref x.2.1) (kds.map (·.1)) → Reps G F (xs.map (·.2.2)) (kds.map (·.2)) → Own G F H .dN (.ref a) (.dit kds) (add (one a) nil0)
  | ob {ks : List Kd} {a dx : Addr} {c : Nat} {fs : List (PySem.Str × V)} {ds : List D} {g : Cnt} : H a = some (.ins (G.ca c) dx fs) → fs.map (·.1) = (G.cn c).take ds.length → OwnL G F H ks (fs.map (·.2)) ds g → Own G F H (.ob ks) (.ref a) (.ob c ds) (add (one a) g)
inductive Owns (G : Cfg) (F H : Hp) : Kd → List V → List D → Cnt → Prop
  | nil {k : Kd} : Owns G F H k [] [] nil0
  | cons {k : Kd} {v : V} {d : D} {vs : List V} {ds : List D} {f g : Cnt} : Own G F H k v d f → Owns G F H k vs ds g → Owns G F H k (v :: vs) (d :: ds) (add f g)
inductive OwnL (G : Cfg) (F H : Hp) : List Kd → List V → List D → Cnt → Prop
  | nil : OwnL G F H [] [] [] nil0
  | cons {k : Kd} {ks : List Kd} {v : V} {d : D} {vs : List V} {ds : List D} {f g : Cnt} : Own G F H k v d f → OwnL G F H ks vs ds g → OwnL G F H (k :: ks) (v :: vs) (d :: ds) (add f g)
end

/-- a tuple stands there -/
def TupAt (o : Option HO) : Prop := (∃ xs, o = some (.tup xs)) ∨ ∃ u xs, o = some (.frz u (.tup xs))
theorem same_rd {F F' : Hp} {a : Addr} {u : HO} (e : Same F F') (h : Rd F a u) : Rd F' a u := by
  rcases h with h | ⟨o, h⟩
  · exact .inl (e _ _ h)
  · exact .inr ⟨o, e _ _ h⟩
theorem same_t {K : PySem.W.Frag} {F F' : Hp} {a : Addr} {xs : List V} (e : Same F F') (h : SqT K F a xs) : SqT K F' a xs := h.elim (fun h => .inl (same_rd e h)) .inr
theorem same_l {K : PySem.W.Frag} {F F' : Hp} {a : Addr} {xs : List V} (e : Same F F') (h : SqL K F a xs) : SqL K F' a xs := h.elim (fun h => .inl (same_rd e h)) .inr

section
variable {G : Cfg} {F F' H H' : Hp}
mutual
theorem Rep.mono (e : Same F F') : ∀ {v : V} {d : D}, Rep G F v d → Rep G F' v d
  | _, _, .non => .non
  | _, _, .bl b => .bl b
  | _, _, .int i => .int i
  | _, _, .str z => .str z
  | _, _, .tup h r => .tup (same_t e h) (Reps.mono e r)
  | _, _, .scr h => .scr (same_l e h)
  | _, _, .lst h r => .lst (e _ _ h) (Reps.mono e r)
  | _, _, .dK h k r => .dK (same_rd e h) k (Reps.mono e r)
  | _, _, .dN h k q r => .dN (same_rd e h) k (Reps.mono e q) (Reps.mono e r)
  | _, _, .ob h k r => .ob (e _ _ h) k (Reps.mono e r)
  | _, _, .fn k => .fn k
theorem Reps.mono (e : Same F F') : ∀ {vs : List V} {ds : List D}, Reps G F vs ds → Reps G F' vs ds
  | _, _, .nil => .nil
  | _, _, .cons h r => .cons (Rep.mono e h) (Reps.mono e r)
end
mutual
theorem Own.mono (e : Same F F') : ∀ {k : Kd} {v : V} {d : D} {f : Cnt}, Own G F H k v d f → (∀ a o, f a ≠ 0 → H a = some o → H' a = some o) → Own G F' H' k v d f
  | _, _, _, _, .fz h, _ => .fz (Rep.mono e h)
  | _, _, _, _, .li (g := g) h r, m => .li (m _ _ (by simp [add, one]) h) (Owns.mono e r fun a o n => m a o (by simp only [add]; omega))
  | _, _, _, _, .dK (g := g) h k r, m => .dK (m _ _ (by simp [add, one]) h) k (Owns.mono e r fun a o n => m a o (by simp only [add]; omega))
  | _, _, _, _, .dR (g := g) h k r, m => .dR (m _ _ (by simp [add, one]) h) k (OwnL.mono e r fun a o n => m a o (by simp only [add]; omega))
  | _, _, _, _, .dN h k q r, m => .dN (m _ _ (by simp [add, one]) h) k (Reps.mono e q) (Reps.mono e r)
  | _, _, _, _, .ob (g := g) h k r, m => .ob (m _ _ (by simp [add, one]) h) k (OwnL.mono e r fun a o n => m a o (by simp only [add]; omega))
theorem Owns.mono (e : Same F F') : ∀ {k : Kd} {vs : List V} {ds : List D} {f : Cnt}, Owns G F H k vs ds f → (∀ a o, f a ≠ 0 → H a = some o → H' a = some o) → Owns G F' H' k vs ds f
  | _, _, _, _, .nil, _ => .nil
  | _, _, _, _, .cons h r, m => .cons (Own.mono e h fun a o n => m a o (by simp only [add]; omega)) (Owns.mono e r fun a o n => m a o (by simp only [add]; omega))
theorem OwnL.mono (e : Same F F') : ∀ {k : List Kd} {vs : List V} {ds : List D} {f : Cnt}, OwnL G F H k vs ds f → (∀ a o, f a ≠ 0 → H a = some o → H' a = some o) → OwnL G F' H' k vs ds f
  | _, _, _, _, .nil, _ => .nil
  | _, _, _, _, .cons h r, m => .cons (Own.mono e h fun a o n => m a o (by simp only [add]; omega)) (OwnL.mono e r fun a o n => m a o (by simp only [add]; omega))
end
mutual
/-- what is owned, looked at as frozen -/
theorem Own.rep (e : Same F H) : ∀ {k : Kd} {v : V} {d : D} {f : Cnt}, Own G F H k v d f → Rep G H v d
  | _, _, _, _, .fz h => Rep.mono e h
  | _, _, _, _, .li h r => .lst h (Owns.rep e r)
  | _, _, _, _, .dK h k r => .dK (.inl h) k (Owns.rep e r)
  | _, _, _, _, .dR h k r => .dK (.inl h) k (OwnL.rep e r)
  | _, _, _, _, .dN h k q r => .dN (.inl h) k (Reps.mono e q) (Reps.mono e r)
  | _, _, _, _, .ob h k r => .ob h k (OwnL.rep e r)
theorem Owns.rep (e : Same F H) : ∀ {k : Kd} {vs : List V} {ds : List D} {f : Cnt}, Owns G F H k vs ds f → Reps G H vs ds
  | _, _, _, _, .nil => .nil
  | _, _, _, _, .cons h r => .cons (Own.rep e h) (Owns.rep e r)
theorem OwnL.rep (e : Same F H) : ∀ {k : List Kd} {vs : List V} {ds : List D} {f : Cnt}, OwnL G F H k vs ds f → Reps G H vs ds
  | _, _, _, _, .nil => .nil
  | _, _, _, _, .cons h r => .cons (Own.rep e h) (OwnL.rep e r)
end
mutual
theorem Own.there : ∀ {k : Kd} {v : V} {d : D} {f : Cnt}, Own G F H k v d f → ∀ a, f a ≠ 0 → H a ≠ none
  | _, _, _, _, .fz _, _, n => absurd rfl n
  | _, _, _, _, .li (a := b) (g := g) h r, a, n => by
    by_cases q : a = b
    · rw [q, h]; simp
    · exact Owns.there r a (by simp only [add, one, if_neg q] at n; omega)
  | _, _, _, _, .dK (a := b) (g := g) h _ r, a, n => by
    by_cases q : a = b
    · rw [q, h]; simp
    · exact Owns.there r a (by simp only [add, one, if_neg q] at n; omega)
  | _, _, _, _, .dR (a := b) (g := g) h _ r, a, n => by
    by_cases q : a = b
    · rw [q, h]; simp
    · exact OwnL.there r a (by simp only [add, one, if_neg q] at n; omega)
  | _, _, _, _, .dN (a := b) h _ _ _, a, n => by
    by_cases q : a = b
    · rw [q, h]; simp
    · exact absurd n (by simp [add, one, if_neg q, nil0])
  | _, _, _, _, .ob (a := b) (g := g) h _ r, a, n => by
    by_cases q : a = b
    · rw [q, h]; simp
    · exact OwnL.there r a (by simp only [add, one, if_neg q] at n; omega)
theorem Owns.there : ∀ {k : Kd} {vs : List V} {ds : List D} {f : Cnt}, Owns G F H k vs ds f → ∀ a, f a ≠ 0 → H a ≠ none
  | _, _, _, _, .nil, _, n => absurd rfl n
  | _, _, _, _, .cons (f := f) (g := g) h r, a, n => by
    by_cases q : f a = 0
    · exact Owns.there r a (by simp only [add] at n; omega)
    · exact Own.there h a q
theorem OwnL.there : ∀ {k : List Kd} {vs : List V} {ds : List D} {f : Cnt}, OwnL G F H k vs ds f → ∀ a, f a ≠ 0 → H a ≠ none
  | _, _, _, _, .nil, _, n => absurd rfl n
  | _, _, _, _, .cons (f := f) (g := g) h r, a, n => by
    by_cases q : f a = 0
    · exact OwnL.there r a (by simp only [add] at n; omega)
    · exact Own.there h a q
end
mutual
/-- nobody owns a tuple -/
theorem Own.noT : ∀ {k : Kd} {v : V} {d : D} {f : Cnt}, Own G F H k v d f → ∀ a, f a ≠ 0 → ¬ TupAt (H a)
  | _, _, _, _, .fz _, _, n => absurd rfl n
  | _, _, _, _, .li (a := b) (g := g) h r, a, n => by
    by_cases q : a = b
    · rw [q, h]; rintro (⟨_, z⟩ | ⟨_, _, z⟩) <;> cases z
    · exact Owns.noT r a (by simp only [add, one, if_neg q] at n; omega)
  | _, _, _, _, .dK (a := b) (g := g) h _ r, a, n => by
    by_cases q : a = b
    · rw [q, h]; rintro (⟨_, z⟩ | ⟨_, _, z⟩) <;> cases z
    · exact Owns.noT r a (by simp only [add, one, if_neg q] at n; omega)
  | _, _, _, _, .dR (a := b) (g := g) h _ r, a, n => by
    by_cases q : a = b
    · rw [q, h]; rintro (⟨_, z⟩ | ⟨_, _, z⟩) <;> cases z
    · exact OwnL.noT r a (by simp only [add, one, if_neg q] at n; omega)
  | _, _, _, _, .dN (a := b) h _ _ _, a, n => by
    by_cases q : a = b
    · rw [q, h]; rintro (⟨_, z⟩ | ⟨_, _, z⟩) <;> simp [NDO] at z
    · exact absurd n (by simp [add, one, if_neg q, nil0])
  | _, _, _, _, .ob (a := b) (g := g) h _ r, a, n => by
    by_cases q : a = b
    · rw [q, h]; rintro (⟨_, z⟩ | ⟨_, _, z⟩) <;> cases z
    · exact OwnL.noT r a (by simp only [add, one, if_neg q] at n; omega)
theorem Owns.noT : ∀ {k : Kd} {vs : List V} {ds : List D} {f : Cnt}, Owns G F H k vs ds f → ∀ a, f a ≠ 0 → ¬ TupAt (H a)
  | _, _, _, _, .nil, _, n => absurd rfl n
  | _, _, _, _, .cons (f := f) (g := g) h r, a, n => by
    by_cases q : f a = 0
    · exact Owns.noT r a (by simp only [add] at n; omega)
    · exact Own.noT h a q
theorem OwnL.noT : ∀ {k : List Kd} {vs : List V} {ds : List D} {f : Cnt}, OwnL G F H k vs ds f → ∀ a, f a ≠ 0 → ¬ TupAt (H a)
  | _, _, _, _, .nil, _, n => absurd rfl n
  | _, _, _, _, .cons (f := f) (g := g) h r, a, n => by
    by_cases q : f a = 0
    · exact OwnL.noT r a (by simp only [add] at n; omega)
    · exact Own.noT h a q
end
end
end TB

namespace TB
open PySem L2

inductive SlotOk (G : Cfg) (F H : Hp) : Option V → Slot → Cnt → Prop
  | no (v : Option V) : SlotOk G F H v none nil0
  | yes {k : Kd} {v : V} {d : D} {f : Cnt} : Own G F H k v d f → SlotOk G F H (some v) (some (k, d)) f
inductive Slots (G : Cfg) (F H : Hp) : L2.St → List Slot → Cnt → Prop
  | nil : Slots G F H [] [] nil0
  | cons {v : Option V} {s : Slot} {f g : Cnt} {σ : L2.St} {S : List Slot} : SlotOk G F H v s f → Slots G F H σ S g → Slots G F H (v :: σ) (s :: S) (add f g)

section
variable {G : Cfg} {F F' H H' : Hp} {σ : L2.St} {S : List Slot} {T T' : Cnt}
theorem SlotOk.mono (e : Same F F') {v : Option V} {s : Slot} {f : Cnt} (h : SlotOk G F H v s f) (m : ∀ a o, f a ≠ 0 → H a = some o → H' a = some o) : SlotOk G F' H' v s f := by
  cases h with
  | no v => exact .no v
  | yes h => exact .yes (h.mono e m)
theorem Slots.mono (e : Same F F') (h : Slots G F H σ S T) (m : ∀ a o, T a ≠ 0 → H a = some o → H' a = some o) : Slots G F' H' σ S T := by
  induction h with
  | nil => exact .nil
  | cons h _ ih => exact .cons (h.mono e fun a o n => m a o (by simp only [add]; omega)) (ih fun a o n => m a o (by simp only [add]; omega))
theorem Slots.cast (h : Slots G F H σ S T) (e : ∀ a, T a = T' a) : Slots G F H σ S T' := (show T = T' from funext e) ▸ h
theorem Own.cast {k : Kd} {v : V} {d : D} {f f' : Cnt} (h : Own G F H k v d f) (e : ∀ a, f a = f' a) : Own G F H k v d f' := (show f = f' from funext e) ▸ h
theorem Slots.len (h : Slots G F H σ S T) : σ.length = S.length := by
  induction h with
  | nil => rfl
  | cons _ _ ih => simp [ih]
theorem SlotOk.there {v : Option V} {s : Slot} {f : Cnt} (h : SlotOk G F H v s f) (a : Addr) (n : f a ≠ 0) : H a ≠ none := by
  cases h with
  | no v => exact absurd rfl n
  | yes h => exact h.there a n
theorem Slots.there (h : Slots G F H σ S T) (a : Addr) (n : T a ≠ 0) : H a ≠ none := by
  induction h with
  | nil => exact absurd rfl n
  | @cons _ _ f g _ _ h _ ih =>
    by_cases q : f a = 0
    · exact ih (by simp only [add] at n; omega)
    · exact h.there a q
theorem SlotOk.noT {v : Option V} {s : Slot} {f : Cnt} (h : SlotOk G F H v s f) (a : Addr) (n : f a ≠ 0) : ¬ TupAt (H a) := by
  cases h with
  | no v => exact absurd rfl n
  | yes h => exact h.noT a n
theorem Slots.noT (h : Slots G F H σ S T) (a : Addr) (n : T a ≠ 0) : ¬ TupAt (H a) := by
  induction h with
  | nil => exact absurd rfl n
  | @cons _ _ f g _ _ h _ ih =>
    by_cases q : f a = 0
    · exact ih (by simp only [add] at n; omega)
    · exact h.noT a q
/-- one slot taken out, another one put there -/
theorem Slots.at {i : Nat} {s : Slot} (h : Slots G F H σ S T) (e : S[i]? = some s) : ∃ v f T0, (∀ a, T a = f a + T0 a) ∧ σ[i]? = some v ∧ SlotOk G F H v s f ∧
    ∀ F' H' v' s' f', Same F F' → (∀ a o, T0 a ≠ 0 → H a = some o → H' a = some o) → SlotOk G F' H' v' s' f' → Slots G F' H' (σ.set i v') (S.set i s') (add f' T0) := by
  induction h generalizing i with
  | nil => simp at e
  | @cons v s1 f g σ S h r ih =>
    cases i with
    | zero =>
      have e1 : s1 = s := by simpa using e
      subst e1
      exact ⟨v, f, g, fun a => rfl, rfl, h, fun F' H' v' s' f' sf m h' => .cons h' (r.mono sf m)⟩
    | succ i =>
      have e1 : S[i]? = some s := by simpa using e
      obtain ⟨v2, f2, T0, ht, hv, ho, k⟩ := ih e1
      refine ⟨v2, f2, add f T0, fun a => by simp only [add]; have := ht a; omega, by simpa using hv, ho, fun F' H' v' s' f' sf m h' => ?_⟩
      have q := k F' H' v' s' f' sf (fun a o n => m a o (by simp only [add]; omega)) h'
      have q2 : Slots G F' H' (v :: σ.set i v') (s1 :: S.set i s') (add f (add f' T0)) := .cons (h.mono sf fun a o n => m a o (by simp only [add]; omega)) q
      have e3 : add f (add f' T0) = add f' (add f T0) := by funext a; simp only [add]; omega
      rw [e3] at q2
      simpa using q2
theorem Slots.var {i : Nat} {k : Kd} {d : D} (h : Slots G F H σ S T) (e : S[i]? = some (some (k, d))) : ∃ v f, σ[i]? = some (some v) ∧ Own G F H k v d f ∧ ∀ a, f a ≤ T a := by
  obtain ⟨v, f, T0, ht, hv, ho, _⟩ := h.at e
  cases ho with
  | yes ho => exact ⟨_, f, hv, ho, fun a => by have := ht a; omega⟩
end

/-- the state between two steps: F the frozen part of the heap, T what the slots own -/
structure St' (G : Cfgx) (F H : Hp) (σ : L2.St) (S : List Slot) (T : Cnt) : Prop where
  pi : ∀ i, i ∈ G.pk → σ[i]? = some (G.pv i)
  sub : Same F H
  sl : Slots G F H σ S T
  le : ∀ a, T a ≤ 1
  di : ∀ a, F a ≠ none → T a = 0
/-- what a step may do to the heap -/
structure Step (F H : Hp) (T : Cnt) (F' H' : Hp) (T' : Cnt) : Prop where
  sF : Same F F'
  fr : ∀ a o, T a = 0 → H a = some o → H' a = some o
  nT : ∀ a, T' a ≠ 0 → T a ≠ 0 ∨ H a = none
  nF : ∀ a, F a = none → F' a ≠ none → H a = none ∨ T a ≠ 0 ∨ TupAt (H a)
  tl : ∀ a, H a ≠ none → H' a ≠ none
theorem Step.refl (F H : Hp) (T : Cnt) : Step F H T F H T := ⟨Same.refl F, fun _ _ _ h => h, fun _ h => .inl h, fun _ h n => absurd h n, fun _ h => h⟩
theorem Step.trans {F H F1 H1 F2 H2 : Hp} {T T1 T2 : Cnt} (a : Step F H T F1 H1 T1) (b : Step F1 H1 T1 F2 H2 T2) : Step F H T F2 H2 T2 := by
  refine ⟨a.sF.trans b.sF, fun x o t h => ?_, fun x n => ?_, fun x h n => ?_, fun x h => b.tl x (a.tl x h)⟩
  · have h1 := a.fr x o t h
    refine b.fr x o ?_ h1
    by_cases q : T1 x = 0
    · exact q
    · rcases a.nT x q with z | z
      · exact absurd t z
      · rw [h] at z; cases z
  · rcases b.nT x n with z | z
    · exact a.nT x z
    · by_cases q : H x = none
      · exact .inr q
      · exact absurd z (a.tl x q)
  · by_cases q : F1 x = none
    · rcases b.nF x q n with z | z | z
      · by_cases q2 : H x = none
        · exact .inl q2
        · exact absurd z (a.tl x q2)
      · rcases a.nT x z with y | y
        · exact .inr (.inl y)
        · exact .inl y
      · cases q2 : H x with
        | none => exact .inl rfl
        | some o =>
          by_cases t : T x = 0
          · rw [a.fr x o t q2] at z; exact .inr (.inr z)
          · exact .inr (.inl t)
    · exact a.nF x h q
theorem Step.castL {F H F1 H1 : Hp} {T T' T1 : Cnt} (a : Step F H T F1 H1 T1) (e : ∀ x, T x = T' x) : Step F H T' F1 H1 T1 := (show T = T' from funext e) ▸ a
theorem Step.castR {F H F1 H1 : Hp} {T T1 T1' : Cnt} (a : Step F H T F1 H1 T1) (e : ∀ x, T1 x = T1' x) : Step F H T F1 H1 T1' := (show T1 = T1' from funext e) ▸ a
/-- less is owned afterwards -/
theorem Step.less {F H F1 H1 : Hp} {T T1 T2 : Cnt} (a : Step F H T F1 H1 T1) (e : ∀ x, T2 x ≤ T1 x) : Step F H T F1 H1 T2 := ⟨a.sF, a.fr, fun x n => a.nT x (by have := e x; omega), a.nF, a.tl⟩
/-- a part that is owned besides stays as it is -/
theorem Step.frame {F H F1 H1 : Hp} {T T1 R : Cnt} (a : Step F H T F1 H1 T1) (hT : ∀ x, T x + R x ≤ 1) (hR : ∀ x, R x ≠ 0 → H x ≠ none) : Step F H (add T R) F1 H1 (add T1 R) ∧ (∀ x, R x ≠ 0 → T1 x = 0) ∧ (∀ x o, R x ≠ 0 → H x = some o → H1 x = some o) := by
  have d : ∀ x, R x ≠ 0 → T x = 0 := fun x n => by have := hT x; omega
  refine ⟨⟨a.sF, fun x o t h => a.fr x o (by simp only [add] at t; omega) h, fun x n => ?_, fun x h n => (a.nF x h n).imp id fun z => z.imp (fun z => by simp only [add]; omega) id, a.tl⟩, fun x n => ?_, fun x o n h => a.fr x o (d x n) h⟩
  · by_cases q : T1 x = 0
    · exact .inl (by simp only [add] at n ⊢; omega)
    · exact (a.nT x q).imp (fun z => by simp only [add]; omega) id
  · by_cases q : T1 x = 0
    · exact q
    · rcases a.nT x q with z | z
      · exact absurd (d x n) z
      · exact absurd z (hR x n)
theorem Step.keepF {F H F1 H1 : Hp} {T T1 : Cnt} (s : Step F H T F1 H1 T1) {a : Addr} (hF : F a = none) (hH : H a ≠ none) (hT : T a = 0) (nt : ¬ TupAt (H a)) : F1 a = none := Decidable.byContradiction fun w => by
  rcases s.nF a hF w with z | z | z
  · exact hH z
  · exact z hT
  · exact nt z
section
variable {G : Cfgx} {F F' H H' : Hp} {σ : L2.St} {S : List Slot} {T T' : Cnt}
theorem St'.noT (s : St' G F H σ S T) (a : Addr) (n : T a ≠ 0) : ¬ TupAt (H a) := s.sl.noT a n
theorem St'.there (s : St' G F H σ S T) (a : Addr) (n : T a ≠ 0) : H a ≠ none := s.sl.there a n
theorem St'.cast (s : St' G F H σ S T) (e : ∀ a, T a = T' a) : St' G F H σ S T' := (show T = T' from funext e) ▸ s
/-- a new object that nobody owns is frozen -/
theorem Step.newF {p : Addr} {o : HO} (hp : H p = none) (sub : Same F H) (nt : T p = 0) : Step F H T (upd F p o) (upd H p o) T := by
  have hf : F p = none := sub.free hp
  refine ⟨fun a u e => ?_, fun a u _ e => ?_, fun _ n => .inl n, fun a h n => ?_, fun a h => ?_⟩
  · rw [upd_ne (ne_of_none e hf)]; exact e
  · rw [upd_ne (ne_of_none e hp)]; exact e
  · by_cases q : a = p
    · rw [q]; exact .inl hp
    · rw [upd_ne q] at n; exact absurd h n
  · by_cases q : a = p
    · rw [q, upd_same]; simp
    · rw [upd_ne q]; exact h
/-- a new object, owned -/
theorem Step.newT {p : Addr} {o : HO} (hp : H p = none) : Step F H T F (upd H p o) (add T (one p)) := by
  refine ⟨Same.refl F, fun a u _ e => ?_, fun a n => ?_, fun a h n => absurd h n, fun a h => ?_⟩
  · rw [upd_ne (ne_of_none e hp)]; exact e
  · by_cases q : a = p
    · rw [q]; exact .inr hp
    · exact .inl (by simp only [add, one, if_neg q] at n; omega)
  · by_cases q : a = p
    · rw [q, upd_same]; simp
    · rw [upd_ne q]; exact h
/-- an owned object changed -/
theorem Step.put {p : Addr} {o : HO} (hp : T p ≠ 0) : Step F H T F (upd H p o) T := by
  refine ⟨Same.refl F, fun a u t e => ?_, fun a n => .inl n, fun a h n => absurd h n, fun a h => ?_⟩
  · rw [upd_ne (fun (q : a = p) => hp (by rw [← q]; exact t))]; exact e
  · by_cases q : a = p
    · rw [q, upd_same]; simp
    · rw [upd_ne q]; exact h
theorem St'.newF {p : Addr} {o : HO} (s : St' G F H σ S T) (hp : H p = none) : St' G (upd F p o) (upd H p o) σ S T ∧ Step F H T (upd F p o) (upd H p o) T := by
  have nt : T p = 0 := Decidable.byContradiction fun n => s.there p n hp
  have st := Step.newF (o := o) hp s.sub nt
  refine ⟨⟨s.pi, fun a u e => ?_, s.sl.mono st.sF fun a u n e => by rw [upd_ne (ne_of_none e hp)]; exact e, s.le, fun a n => ?_⟩, st⟩
  · by_cases q : a = p
    · rw [q, upd_same] at e ⊢; exact e
    · rw [upd_ne q] at e ⊢; exact s.sub _ _ e
  · by_cases q : a = p
    · rw [q]; exact nt
    · rw [upd_ne q] at n; exact s.di a n
theorem St'.newT {p : Addr} {o : HO} (s : St' G F H σ S T) (hp : H p = none) : St' G F (upd H p o) σ S T ∧ Step F H T F (upd H p o) (add T (one p)) ∧ (∀ a, T a + one p a ≤ 1) ∧ F p = none := by
  have nt : T p = 0 := Decidable.byContradiction fun n => s.there p n hp
  refine ⟨⟨s.pi, fun a u e => ?_, s.sl.mono (Same.refl F) fun a u n e => by rw [upd_ne (ne_of_none e hp)]; exact e, s.le, s.di⟩, Step.newT hp, fun a => ?_, s.sub.free hp⟩
  · rw [upd_ne (ne_of_none (s.sub _ _ e) hp)]; exact s.sub _ _ e
  · have := s.le a
    unfold one
    split
    · rename_i q; rw [q, nt]; omega
    · omega
end
end TB

namespace TB
open PySem L2

/-- an exception as it lies: no field, or a dict of its own with one number -/
def ExcR (G : Cfg) (x : Xc) (cls : Value) (dx : Option Addr) (H : Hp) : Prop :=
  cls = .ref (G.ca x.c) ∧ ((x.arg = .non ∧ dx = none) ∨ ∃ d i, x.arg = .int i ∧ dx = some d ∧ H d = some (.xd ((G.cn x.c).map fun n => (n, V.int i))))
def PX (G : Cfgx) (W : WX) (F H : Hp) (σ : L2.St) (T : Cnt) (x : Xc) (S' : List Slot) : Prop :=
  ∀ cls dx F' H' T', Step F H T F' H' T' → St' G F' H' σ S' T' → ExcR G x cls dx H' → W cls dx σ H'
def PR {α : Type} (G : Cfgx) (W : WX) (F H : Hp) (σ : L2.St) (T : Cnt) (K : α → List Slot → Prop) : R α → Prop
  | .ok a S => K a S
  | .exc x S => PX G W F H σ T x S
  | .bad => False
def KE (G : Cfgx) (F H : Hp) (σ : L2.St) (T : Cnt) (Q : VK) (kd : KD) (S' : List Slot) : Prop :=
  ∀ v F' H' T' f, Step F H T F' H' (add T' f) → St' G F' H' σ S' T' → Own G F' H' kd.1 v kd.2 f → (∀ a, T' a + f a ≤ 1) → (∀ a, F' a ≠ none → f a = 0) → Q v H'
def KDt (G : Cfgx) (F H : Hp) (σ : L2.St) (T : Cnt) (Q : VK) (d : D) (S' : List Slot) : Prop :=
  ∀ v F' H' T', Step F H T F' H' T' → St' G F' H' σ S' T' → Rep G F' v d → Q v H'
def KB (G : Cfgx) (F H : Hp) (σ : L2.St) (T : Cnt) (Q : Bool → Hp → Prop) (b : Bool) (S' : List Slot) : Prop :=
  ∀ F' H' T', Step F H T F' H' T' → St' G F' H' σ S' T' → Q b H'
def KL (G : Cfgx) (F H : Hp) (σ : L2.St) (T : Cnt) (Q : List V → Hp → Prop) (ds : List D) (S' : List Slot) : Prop :=
  ∀ vs F' H' T', Step F H T F' H' T' → St' G F' H' σ S' T' → Reps G F' vs ds → Q vs H'
section
variable {G : Cfgx} {W : WX} {F H F1 H1 : Hp} {σ : L2.St} {T T1 : Cnt} {α β : Type}
theorem PX.re {x : Xc} {S : List Slot} (s : Step F H T F1 H1 T1) (h : PX G W F H σ T x S) : PX G W F1 H1 σ T1 x S := fun cls dx F' H' T' s' st e => h cls dx F' H' T' (s.trans s') st e
theorem PR.bind {K1 : α → List Slot → Prop} {K2 : β → List Slot → Prop} {r : R α} {f : α → M β} (h : PR G W F H σ T K2 (r.bind f)) (k : ∀ a S, PR G W F H σ T K2 (f a S) → K1 a S) : PR G W F H σ T K1 r := by
  cases r with
  | ok a S => exact k a S h
  | exc x S => exact h
  | bad => exact h
theorem PR.re {K1 K2 : α → List Slot → Prop} {r : R α} (s : Step F H T F1 H1 T1) (k : ∀ a S, K1 a S → K2 a S) (h : PR G W F H σ T K1 r) : PR G W F1 H1 σ T1 K2 r := by
  cases r with
  | ok a S => exact k a S h
  | exc x S => exact PX.re s h
  | bad => exact h
theorem PR.imp {K1 K2 : α → List Slot → Prop} {r : R α} (k : ∀ a S, K1 a S → K2 a S) (h : PR G W F H σ T K1 r) : PR G W F H σ T K2 r := PR.re (Step.refl F H T) k h
theorem KE.re {Q : VK} {kd : KD} {S : List Slot} (s : Step F H T F1 H1 T1) (h : KE G F H σ T Q kd S) : KE G F1 H1 σ T1 Q kd S := fun v F' H' T' f s' st o l d => h v F' H' T' f (s.trans s') st o l d
theorem KDt.re {Q : VK} {d : D} {S : List Slot} (s : Step F H T F1 H1 T1) (h : KDt G F H σ T Q d S) : KDt G F1 H1 σ T1 Q d S := fun v F' H' T' s' st o => h v F' H' T' (s.trans s') st o
theorem KB.re {Q : Bool → Hp → Prop} {d : Bool} {S : List Slot} (s : Step F H T F1 H1 T1) (h : KB G F H σ T Q d S) : KB G F1 H1 σ T1 Q d S := fun F' H' T' s' st => h F' H' T' (s.trans s') st
theorem KL.re {Q : List V → Hp → Prop} {d : List D} {S : List Slot} (s : Step F H T F1 H1 T1) (h : KL G F H σ T Q d S) : KL G F1 H1 σ T1 Q d S := fun v F' H' T' s' st o => h v F' H' T' (s.trans s') st o
theorem PR.reE {Q : VK} {r : R KD} (s : Step F H T F1 H1 T1) (h : PR G W F H σ T (KE G F H σ T Q) r) : PR G W F1 H1 σ T1 (KE G F1 H1 σ T1 Q) r := PR.re s (fun _ _ => KE.re s) h
/-! what a step gives -/
/-- data as it is, nothing changed -/
theorem KE.val {Q : VK} {d : D} {S : List Slot} {v : V} (h : KE G F H σ T Q (.fz, d) S) (st : St' G F H σ S T) (r : Rep G F v d) : Q v H :=
  h v F H T nil0 ((Step.refl F H T).castR fun a => rfl) st (.fz r) (fun a => st.le a) fun _ _ => rfl
/-- a new frozen object -/
theorem KE.newF {Q : VK} {d : D} {S : List Slot} {o : HO} (h : KE G F H σ T Q (.fz, d) S) (st : St' G F H σ S T) (r : ∀ p, Rep G (upd F p o) (.ref p) d ∨ F p ≠ none) (p : Addr) (hp : H p = none) : Q (.ref p) (upd H p o) := by
  obtain ⟨st2, s⟩ := st.newF (o := o) hp
  have hf : F p = none := st.sub.free hp
  exact h (.ref p) _ _ T nil0 (s.castR fun a => rfl) st2 (.fz ((r p).resolve_right fun n => n hf)) (fun a => st2.le a) fun _ _ => rfl
/-- a new list, owned -/
theorem KE.newL {Q : VK} {vs : List V} {ds : List D} {S : List Slot} (h : KE G F H σ T Q (.li .fz, .lst ds) S) (st : St' G F H σ S T) (r : Reps G F vs ds) (p : Addr) (hp : H p = none) : Q (.ref p) (upd H p (.lst vs)) := by
  obtain ⟨st2, s, le, fp⟩ := st.newT (o := .lst vs) hp
  have ow : ∀ {vs : List V} {ds : List D}, Reps G F vs ds → Owns G F (upd H p (.lst vs)) .fz vs ds nil0 ∧ ∀ H', Owns G F H' .fz vs ds nil0 := by
    intro vs ds r
    induction vs generalizing ds with
    | nil => cases r; exact ⟨.nil, fun _ => .nil⟩
    | cons v vs ih =>
      cases r with
      | cons r1 r2 => exact ⟨.cons (.fz r1) ((ih r2).2 _), fun H' => .cons (.fz r1) ((ih r2).2 H')⟩
  refine h (.ref p) F _ T (add (one p) nil0) (s.castR fun a => rfl) st2 (.li upd_same ((ow r).2 _)) (fun a => le a) fun a n => ?_
  show one p a + 0 = 0
  unfold one
  split
  · rename_i q; rw [q, fp] at n; exact absurd rfl n
  · rfl
theorem owns_fz {vs : List V} {ds : List D} (r : Reps G F vs ds) : Owns G F H .fz vs ds nil0 := by
  induction vs generalizing ds with
  | nil => cases r; exact .nil
  | cons v vs ih =>
    cases r with
    | cons r1 r2 => exact .cons (.fz r1) (ih r2)
theorem reps_fz {vs : List V} {ds : List D} {f : Cnt} (r : Owns G F H .fz vs ds f) : Reps G F vs ds ∧ f = nil0 := by
  induction vs generalizing ds f with
  | nil => cases r; exact ⟨.nil, rfl⟩
  | cons v vs ih =>
    cases r with
    | cons r1 r2 =>
      cases r1 with
      | fz r1 =>
        obtain ⟨a, b⟩ := ih r2
        subst b
        exact ⟨.cons r1 a, rfl⟩
end

/-! ### judgements -/
def DenE (G : Cfgx) (W : WX) (t : TE) (m : E) : Prop := ∀ F H σ S T Q, St' G F H σ S T → PR G W F H σ T (KE G F H σ T Q) (m S) → t σ H Q
def DenD (G : Cfgx) (W : WX) (t : TE) (m : M D) : Prop := ∀ F H σ S T Q, St' G F H σ S T → PR G W F H σ T (KDt G F H σ T Q) (m S) → t σ H Q
def DenT (G : Cfgx) (W : WX) (t : TT) (m : T) : Prop := ∀ F H σ S T Q, St' G F H σ S T → PR G W F H σ T (KB G F H σ T Q) (m S) → t σ H Q
def DenA (G : Cfgx) (W : WX) (t : TA) (m : M (List D)) : Prop := ∀ F H σ S T Q, St' G F H σ S T → PR G W F H σ T (KL G F H σ T Q) (m S) → t σ H Q
def TrE (X : Cx) (G : Cfgx) (W : WX) (e : Expr) (m : E) : Prop := ∃ t, PE X e t ∧ DenE G W t m
def TrT (X : Cx) (G : Cfgx) (W : WX) (e : Expr) (m : T) : Prop := ∃ t, PT X e t ∧ DenT G W t m
def TrW (X : Cx) (G : Cfgx) (W : WX) (e : Expr) (m : T) : Prop := ∃ t, PW X e t ∧ DenT G W t m
def TrA (X : Cx) (G : Cfgx) (W : WX) (es : List Expr) (ms : List E) : Prop := ∃ t, PA X es t ∧ DenA G W t (eAll ms)
/-- the context of a body -/
structure Cok (X : Cx) (G : Cfgx) (W : WX) (k : Nat) : Prop where
  hK : X.K = G.K
  tk : Takes X W
  po : PassesOwn (model X.prog X.w) X.A X.env X.xe
  calm : X.calm = true
  room : Room k X.A
  nd : X.N.Nodup
/-- an operation on two values -/
def S2 (G : Cfgx) (r : R2) (f : D → D → Option KD) : Prop := ∀ F H σ S T x y dx dy kd Q, St' G F H σ S T → Rep G F x dx → Rep G F y dy → f dx dy = some kd → KE G F H σ T Q kd S → r x y H Q
def S1 (G : Cfgx) (r : V → Hp → VK → Prop) (f : D → Option KD) : Prop := ∀ F H σ S T x dx kd Q, St' G F H σ S T → Rep G F x dx → f dx = some kd → KE G F H σ T Q kd S → r x H Q
def SN (G : Cfgx) (r : List V → Hp → VK → Prop) (f : List D → Option KD) : Prop := ∀ F H σ S T xs dxs kd Q, St' G F H σ S T → Reps G F xs dxs → f dxs = some kd → KE G F H σ T Q kd S → r xs H Q

/-- what a temporary owns becomes frozen -/
theorem freeze_core {G : Cfgx} {F H F' H' : Hp} {σ : L2.St} {S : List Slot} {T T' f : Cnt} {k : Kd} {v : V} {d : D} (s' : Step F H T F' H' (add T' f)) (st' : St' G F' H' σ S T') (o : Own G F' H' k v d f) (le : ∀ a, T' a + f a ≤ 1) (di : ∀ a, F' a ≠ none → f a = 0) :
    ∃ F2, Step F H T F2 H' T' ∧ St' G F2 H' σ S T' ∧ Rep G F2 v d ∧ Same F' F2 := by
  have hO : Same F' H' := st'.sub
  let F2 : Hp := fun a => if f a = 0 then F' a else H' a
  have sf : Same F' F2 := fun a o e => by
    show (if f a = 0 then F' a else H' a) = some o
    rw [if_pos (di a (by rw [e]; simp))]; exact e
  have sub2 : Same F2 H' := fun a o e => by
    have e : (if f a = 0 then F' a else H' a) = some o := e
    by_cases z : f a = 0
    · rw [if_pos z] at e; exact hO _ _ e
    · rw [if_neg z] at e; exact e
  have ff : ∀ a, f a ≠ 0 → F2 a = H' a := fun a n => if_neg n
  have rp : ∀ {k : Kd} {v : V} {d : D} {g : Cnt}, Own G F' H' k v d g → (∀ a, g a ≤ f a) → Own G F2 F2 k v d g := fun o l => o.mono sf fun a u n e => by
    rw [ff a (by have := l a; omega)]; exact e
  have r2 : Rep G F2 v d := (rp o fun a => Nat.le_refl _).rep (Same.refl F2)
  refine ⟨F2, ⟨s'.sF.trans sf, s'.fr, fun a n => s'.nT a (by simp only [add]; omega), fun a h n => ?_, s'.tl⟩, ⟨st'.pi, sub2, st'.sl.mono sf fun _ _ _ h => h, st'.le, fun a n => ?_⟩, r2, sf⟩
  · by_cases z : f a = 0
    · refine s'.nF a h ?_
      have n : (if f a = 0 then F' a else H' a) ≠ none := n
      rwa [if_pos z] at n
    · exact ((s'.nT a (by simp only [add]; omega)).symm).imp id .inl
  · have n : (if f a = 0 then F' a else H' a) ≠ none := n
    by_cases z : f a = 0
    · rw [if_pos z] at n; exact st'.di a n
    · have := le a; omega
theorem KDt.freeze {G : Cfgx} {F H : Hp} {σ : L2.St} {T : Cnt} {Q : VK} {kd : KD} {S : List Slot} (q : KDt G F H σ T Q kd.2 S) : KE G F H σ T Q kd S := fun v F' H' T' f s' st' o le di => by
  obtain ⟨F2, s2, st2, r2, _⟩ := freeze_core s' st' o le di
  exact q v F2 H' T' s2 st2 r2
section
variable {X : Cx} {G : Cfgx} {W : WX} {k : Nat}
theorem DenE.dat {t : TE} {m : E} (h : DenE G W t m) : DenD G W t (eDat m) := fun F H σ S T Q st p =>
  h F H σ S T Q st (PR.bind (f := fun kd => M.pure kd.2) p fun kd S1 q => KDt.freeze (show KDt G F H σ T Q kd.2 S1 from q))
theorem tr_var (i : Nat) {x : PySem.Str} {pos : Pos} (hN : X.N[i]? = some x := by rfl) (hv : Vis X.env.scope x := by first | exact Or.inl rfl | exact Or.inr (Or.inl rfl) | exact Or.inr (Or.inr rfl)) (hd : (x == ("__debug__" : PySem.Str)) = false := by decide)
    (hcd : (x == ("__classdict__" : PySem.Str)) = false := by decide) : TrE X G W (.Name x pos) (eVar i) := by
  refine ⟨_, pe_var hN hv hd hcd, fun F H σ S T Q st p => ?_⟩
  unfold eVar at p
  cases e : S[i]? with
  | none => rw [e] at p; exact p.elim
  | some s =>
    rw [e] at p
    cases s with
    | none => exact p.elim
    | some kd =>
      obtain ⟨kk, d⟩ := kd
      cases kk with
      | fz =>
        obtain ⟨v, f, hv, o, _⟩ := st.sl.var e
        cases o with
        | fz r => exact ⟨v, hv, KE.val p st r⟩
      | _ => exact p.elim
theorem tr_mv (i : Nat) {x : PySem.Str} {pos : Pos} (hN : X.N[i]? = some x := by rfl) (hv : Vis X.env.scope x := by first | exact Or.inl rfl | exact Or.inr (Or.inl rfl) | exact Or.inr (Or.inr rfl)) (hd : (x == ("__debug__" : PySem.Str)) = false := by decide)
    (hcd : (x == ("__classdict__" : PySem.Str)) = false := by decide) : TrE X G W (.Name x pos) (eMv i) := by
  refine ⟨_, pe_var hN hv hd hcd, fun F H σ S T Q st p => ?_⟩
  unfold eMv at p
  cases e : S[i]? with
  | none => rw [e] at p; exact p.elim
  | some s =>
    rw [e] at p
    cases s with
    | none => exact p.elim
    | some kd =>
      obtain ⟨kk, d⟩ := kd
      obtain ⟨v, f, T0, ht, hv, ho, back⟩ := st.sl.at e
      cases ho with
      | @yes k1 v1 d1 f1 o =>
        refine ⟨v1, hv, p v1 F H T0 f ((Step.refl F H T).castR fun a => by simp only [add]; have := ht a; omega) ⟨st.pi, st.sub, ?_, fun a => by have := ht a; have := st.le a; omega, fun a n => by have := ht a; have := st.di a n; omega⟩ o (fun a => by have := ht a; have := st.le a; omega) fun a n => by have := ht a; have := st.di a n; omega⟩
        have q := back F H (some v1) none nil0 (Same.refl F) (fun _ _ _ h => h) (.no _)
        have e2 : σ.set i (some v1) = σ := by
          obtain ⟨hi, q1⟩ := List.getElem?_eq_some_iff.mp hv
          rw [← q1, List.set_getElem_self]
        rw [e2] at q
        exact q.cast fun a => by simp [add, nil0]
theorem tr_int {i : Int} {j} {pos : Pos} : TrE X G W (.Constant (.int i) j pos) (eCon (.int i)) := ⟨_, pe_int, fun F H σ S T Q st p => KE.val p st (.int i)⟩
theorem tr_bl {b : Bool} {j} {pos : Pos} : TrE X G W (.Constant (.bool b) j pos) (eCon (.bl b)) := ⟨_, pe_bl, fun F H σ S T Q st p => KE.val p st (.bl b)⟩
theorem tr_non {j} {pos : Pos} : TrE X G W (.Constant .none j pos) (eCon .non) := ⟨_, pe_non, fun F H σ S T Q st p => KE.val p st .non⟩
theorem tr_str {z : PySem.Str} {j} {pos : Pos} (s : List Nat) (hs : z.cps.toList = s := by rfl) : TrE X G W (.Constant (.str z) j pos) (eCon (.str s)) := ⟨_, pe_str, fun F H σ S T Q st p => KE.val p st (hs ▸ .str z)⟩
/-- a constant of the module -/
theorem tr_glob {x : PySem.Str} {v : V} {u : Value} {pos : Pos} {d : D} (hm : X.mg x = some u) (r : RelV v u) (rep : ∀ F, Rep G F v d) (hg : Gl X x := by rfl) (hd : (x == ("__debug__" : PySem.Str)) = false := by decide) : TrE X G W (.Name x pos) (eCon d) :=
  ⟨_, pe_glob hg hm r hd, fun F H σ S T Q st p => KE.val p st (rep F)⟩
theorem tr_fr {e : Expr} {m : E} (h : TrE X G W e m) : TrE X G W e (eFr m) := by
  obtain ⟨t, hp, hd⟩ := h
  refine ⟨t, hp, fun F H σ S T Q st p => ?_⟩
  refine hd F H σ S T Q st (PR.bind (f := fun kd => M.pure ((.fz, kd.2) : KD)) p fun kd S1 q => KDt.freeze fun v F' H' T' s' st' r => ?_)
  exact (show KE G F H σ T Q (.fz, kd.2) S1 from q) v F' H' T' nil0 (s'.castR fun a => rfl) st' (.fz r) (fun a => st'.le a) fun _ _ => rfl
/-- a look at owned things -/
theorem flat_rep {F : Hp} {v : V} {d : D} (h : d.flat = true) (r : Rep G F v d) (F' : Hp) : Rep G F' v d := by
  cases r with
  | non => exact .non
  | bl b => exact .bl b
  | int i => exact .int i
  | str z => exact .str z
  | _ => cases h
theorem slots_frz {F H : Hp} {σ : L2.St} {S : List Slot} {T : Cnt} (e : Same F H) (h : Slots G F H σ S T) : Slots G H H σ (S.map frz) nil0 := by
  induction h with
  | nil => exact .nil
  | @cons v s f g σ S h r ih =>
    have : Slots G H H (v :: σ) (frz s :: S.map frz) (add nil0 nil0) := by
      refine .cons ?_ ih
      cases h with
      | no v => exact .no v
      | yes o => exact .yes (.fz (o.rep e))
    exact this
theorem tr_peek {e : Expr} {m : E} {W' : WX} (h : TrE X G W' e m) : TrE X G W e (ePeek m) := by
  obtain ⟨t, hp, hd⟩ := h
  refine ⟨t, hp, fun F H σ S T Q st p => ?_⟩
  have st2 : St' G H H σ (S.map frz) nil0 := ⟨st.pi, Same.refl H, slots_frz st.sub st.sl, fun _ => Nat.zero_le _, fun _ _ => rfl⟩
  unfold ePeek at p
  refine hd H H σ (S.map frz) nil0 Q st2 ?_
  cases e : m (S.map frz) with
  | exc x S => rw [e] at p; exact p.elim
  | bad => rw [e] at p; exact p.elim
  | ok kd S1 =>
    rw [e] at p
    obtain ⟨kk, d⟩ := kd
    have p : PR G W F H σ T (KE G F H σ T Q) (if d.flat then .ok (.fz, d) S else .bad) := p
    cases fl : d.flat with
    | false => rw [fl] at p; exact p.elim
    | true =>
      rw [fl] at p
      have p : KE G F H σ T Q (.fz, d) S := p
      intro v F' H' T' f s' st' o le di
      have sHH : Same H H' := fun a u e => s'.fr a u rfl e
      have rep := o.rep st'.sub
      refine p v F H' T nil0 ⟨Same.refl F, fun a u _ e => sHH a u e, fun a n => .inl n, fun a h n => absurd h n, s'.tl⟩ ⟨st.pi, fun a u e => sHH _ _ (st.sub _ _ e), st.sl.mono (Same.refl F) fun a u _ e => sHH a u e, st.le, st.di⟩ (.fz (flat_rep fl rep F)) (fun a => st.le a) fun _ _ => rfl
/-! argument lists -/
theorem tra_nil : TrA X G W [] [] := ⟨_, pa_nil, fun F H σ S T Q st p => by
  have p : KL G F H σ T Q [] S := p
  exact p [] F H T (Step.refl F H T) st .nil⟩
theorem tra_cons {e : Expr} {es : List Expr} {m : E} {ms : List E} (h : TrE X G W e m) (r : TrA X G W es ms) (hs : starEach (e :: es) X.env = (false, eval e X.env) :: starEach es X.env := by rfl) : TrA X G W (e :: es) (m :: ms) := by
  obtain ⟨t, hp, hd⟩ := h
  obtain ⟨u, hq, hu⟩ := r
  refine ⟨_, pa_cons hp hq hs, fun F H σ S T Q st p => ?_⟩
  refine DenE.dat hd F H σ S T _ st (PR.bind p fun d S1 q => ?_)
  intro v F1 H1 T1 s1 st1 r1
  refine hu F1 H1 σ S1 T1 _ st1 (PR.bind (PR.re s1 (fun _ _ h => h) q) fun ds S2 q2 => ?_)
  intro vs F2 H2 T2 s2 st2 r2
  have q2 : KL G F H σ T Q (d :: ds) S2 := q2
  exact q2 (v :: vs) F2 H2 T2 (s1.trans s2) st2 (.cons (r1.mono s2.sF) r2)
end
end TB

namespace TB
open PySem L2
theorem Reps.len {G : Cfg} {F : Hp} : ∀ {vs : List V} {ds : List D}, Reps G F vs ds → vs.length = ds.length
  | _, _, .nil => rfl
  | _, _, .cons _ r => by simp [Reps.len r]
section
variable {X : Cx} {G : Cfgx} {W : WX} {k : Nat}
/-! ### displays -/
theorem tr_tup {es : List Expr} {ms : List E} {c} {pos : Pos} (h : TrA X G W es ms) : TrE X G W (.Tuple es c pos) (eApp fTup ms) := by
  obtain ⟨t, hp, hd⟩ := h
  refine ⟨_, pe_tup hp, fun F H σ S T Q st p => hd F H σ S T _ st (PR.bind p fun ds S1 q => ?_)⟩
  intro vs F1 H1 T1 s1 st1 r1
  have hl : vs.length = ds.length := r1.len
  have q : PR G W F H σ T (KE G F H σ T Q) (ofO (fTup ds) S1) := q
  unfold fTup at q
  by_cases z : ds.length ≤ sizeMax
  · rw [if_pos z] at q
    have q : KE G F H σ T Q (.fz, .tup ds) S1 := q
    exact ⟨by rw [hl]; exact z, fun x hx => KE.newF (q.re s1) st1 (fun x => by
      by_cases n : F1 x = none
      · exact .inl (.tup (.inl (.inl upd_same)) (r1.mono fun a u e => by rw [upd_ne (ne_of_none e n)]; exact e))
      · exact .inr n) x hx⟩
  · rw [if_neg z] at q; exact q.elim
theorem tr_lst {es : List Expr} {ms : List E} {pos : Pos} (h : TrA X G W es ms) : TrE X G W (.List es pos) (eApp fLst ms) := by
  obtain ⟨t, hp, hd⟩ := h
  refine ⟨_, pe_lst hp, fun F H σ S T Q st p => hd F H σ S T _ st (PR.bind p fun ds S1 q => ?_)⟩
  intro vs F1 H1 T1 s1 st1 r1
  have hl : vs.length = ds.length := r1.len
  have q : PR G W F H σ T (KE G F H σ T Q) (ofO (fLst ds) S1) := q
  unfold fLst at q
  by_cases z : ds.length ≤ sizeMax
  · rw [if_pos z] at q
    have q : KE G F H σ T Q (.li .fz, .lst ds) S1 := q
    exact ⟨by rw [hl]; exact z, fun x hx => KE.newL (q.re s1) st1 r1 x hx⟩
  · rw [if_neg z] at q; exact q.elim
/-! ### operations -/
theorem den_op {r : R2} {f : D → D → Option KD} (hs : S2 G r f) {ta tb : TE} {a b : E} (ha : DenE G W ta a) (hb : DenE G W tb b) : DenE G W (tOp r ta tb) (eOp f a b) := fun F H σ S T Q st p => by
  refine ha.dat F H σ S T _ st (PR.bind p fun dx S1 q => ?_)
  intro v F1 H1 T1 s1 st1 r1
  refine hb.dat F1 H1 σ S1 T1 _ st1 (PR.bind (PR.re s1 (fun _ _ h => h) q) fun dy S2 q2 => ?_)
  intro u F2 H2 T2 s2 st2 r2
  cases e : f dx dy with
  | none => rw [e] at q2; exact q2.elim
  | some d =>
    rw [e] at q2
    have q2 : KE G F H σ T Q d S2 := q2
    exact hs F2 H2 σ S2 T2 v u dx dy d Q st2 (r1.mono s2.sF) r2 e (q2.re (s1.trans s2))
theorem den_un {r : V → Hp → VK → Prop} {f : D → Option KD} (hs : S1 G r f) {ta : TE} {a : E} (ha : DenE G W ta a) : DenE G W (tUn r ta) (eUn f a) := fun F H σ S T Q st p => by
  refine ha.dat F H σ S T _ st (PR.bind p fun dx S1 q => ?_)
  intro v F1 H1 T1 s1 st1 r1
  cases e : f dx with
  | none => rw [e] at q; exact q.elim
  | some d =>
    rw [e] at q
    have q : KE G F H σ T Q d S1 := q
    exact hs F1 H1 σ S1 T1 v dx d Q st1 r1 e (q.re s1)
theorem den_app {r : List V → Hp → VK → Prop} {f : List D → Option KD} (hs : SN G r f) {ta : TA} {ms : List E} (ha : DenA G W ta (eAll ms)) : DenE G W (tCB r ta) (eApp f ms) := fun F H σ S T Q st p => by
  refine ha F H σ S T _ st (PR.bind p fun dx S1 q => ?_)
  intro v F1 H1 T1 s1 st1 r1
  cases e : f dx with
  | none => rw [e] at q; exact q.elim
  | some d =>
    rw [e] at q
    have q : KE G F H σ T Q d S1 := q
    exact hs F1 H1 σ S1 T1 v dx d Q st1 r1 e (q.re s1)
theorem tr_op {op : Operator} {r : R2} {f : D → D → Option KD} {a b : Expr} {ma mb : E} {pos : Pos} (ho : OpR X (binaryOp op) r) (hs : S2 G r f) (ha : TrE X G W a ma) (hb : TrE X G W b mb) : TrE X G W (.BinOp a op b pos) (eOp f ma mb) := by
  obtain ⟨ta, pa, da⟩ := ha
  obtain ⟨tb, pb, db⟩ := hb
  exact ⟨_, pe_op ho pa pb, den_op hs da db⟩
theorem tr_un {op : UnaryOp} {r : V → Hp → VK → Prop} {f : D → Option KD} {a : Expr} {ma : E} {pos : Pos} (ho : UnR X (unaryOp op) r) (hs : S1 G r f) (ha : TrE X G W a ma) : TrE X G W (.UnaryOp op a pos) (eUn f ma) := by
  obtain ⟨ta, pa, da⟩ := ha
  exact ⟨_, pe_un ho pa, den_un hs da⟩
theorem tr_cmp {op : CmpOp} {r : R2} {f : D → D → Option KD} {a b : Expr} {ma mb : E} {pos : Pos} (ho : OpR X (compareOp op) r) (hs : S2 G r f) (ha : TrE X G W a ma) (hb : TrE X G W b mb) (hm : behindInMarks op b = false) : TrE X G W (.Compare a [op] [b] pos) (eOp f ma mb) := by
  obtain ⟨ta, pa, da⟩ := ha
  obtain ⟨tb, pb, db⟩ := hb
  exact ⟨_, pe_cmpR ho pa pb hm, den_op hs da db⟩
theorem tr_ix {r : R2} {f : D → D → Option KD} {a b : Expr} {ma mb : E} {pos : Pos} (ho : IxR X r) (hs : S2 G r f) (ha : TrE X G W a ma) (hb : TrE X G W b mb) (hp : PlainIx b := by exact fun _ _ => rfl) : TrE X G W (.Subscript a b pos) (eOp f ma mb) := by
  obtain ⟨ta, pa, da⟩ := ha
  obtain ⟨tb, pb, db⟩ := hb
  exact ⟨_, pe_ix ho pa pb hp, den_op hs da db⟩
theorem den_test {t : TE} {m : E} (h : DenE G W t m) : DenT G W (tTest t) (eBool m) := fun F H σ S T Q st p => by
  refine h F H σ S T _ st (PR.bind p fun kd S1 q => ?_)
  obtain ⟨kk, d⟩ := kd
  intro v F' H' T' f s' st' o le di
  cases d with
  | bl b =>
    have q : KB G F H σ T Q b S1 := q
    cases o with
    | fz r => cases r; exact ⟨b, rfl, q F' H' T' (s'.castR fun a => rfl) st'⟩
  | _ => exact q.elim
theorem tt_cmp {op : CmpOp} {r : R2} {f : D → D → Option KD} {a b : Expr} {ma mb : E} {pos : Pos} (ho : OpR X (compareOp op) r) (hs : S2 G r f) (ha : TrE X G W a ma) (hb : TrE X G W b mb) (hm : behindInMarks op b = false) : TrT X G W (.Compare a [op] [b] pos) (eBool (eOp f ma mb)) := by
  obtain ⟨ta, pa, da⟩ := ha
  obtain ⟨tb, pb, db⟩ := hb
  exact ⟨_, pt_cmpR ho pa pb hm, den_test (den_op hs da db)⟩
theorem tt_val {e : Expr} {m : E} (h : TrE X G W e m) (he : ∀ whole, isTrue e X.env whole = (do let v ← whole; standAt e.pos; holding [v] (truthy v)) := by intro _; rfl) : TrT X G W e (eBool m) := by
  obtain ⟨t, pa, da⟩ := h
  exact ⟨_, pt_val pa he, den_test da⟩
theorem tt_peek {e : Expr} {m : T} {W' : WX} (h : TrT X G W' e m) : TrT X G W e (tPeek m) := by
  obtain ⟨t, hp, hd⟩ := h
  refine ⟨t, hp, fun F H σ S T Q st p => ?_⟩
  have st2 : St' G H H σ (S.map frz) nil0 := ⟨st.pi, Same.refl H, slots_frz st.sub st.sl, fun _ => Nat.zero_le _, fun _ _ => rfl⟩
  unfold tPeek at p
  refine hd H H σ (S.map frz) nil0 Q st2 ?_
  cases e : m (S.map frz) with
  | exc x S => rw [e] at p; exact p.elim
  | bad => rw [e] at p; exact p.elim
  | ok b S1 =>
    rw [e] at p
    have p : KB G F H σ T Q b S := p
    intro F' H' T' s' st'
    have sHH : Same H H' := fun a u e => s'.fr a u rfl e
    exact p F H' T ⟨Same.refl F, fun a u _ e => sHH a u e, fun a n => .inl n, fun a h n => absurd h n, s'.tl⟩ ⟨st.pi, fun a u e => sHH _ _ (st.sub _ _ e), st.sl.mono (Same.refl F) fun a u _ e => sHH a u e, st.le, st.di⟩
/-! and, or, not -/
theorem den_bind {t : TT} {m : T} (h : DenT G W t m) {Q : Hp → Prop} : True := trivial
theorem tw_and1 {a : Expr} {ma : T} {pos : Pos} (ha : TrT X G W a ma) : TrW X G W (.BoolOp .And [a] pos) ma := by
  obtain ⟨t, p, d⟩ := ha
  exact ⟨_, pw_and1 p, d⟩
theorem tw_or1 {a : Expr} {ma : T} {pos : Pos} (ha : TrT X G W a ma) : TrW X G W (.BoolOp .Or [a] pos) ma := by
  obtain ⟨t, p, d⟩ := ha
  exact ⟨_, pw_or1 p, d⟩
theorem tw_and {a b : Expr} {rest : List Expr} {ma mb : T} {pos : Pos} (ha : TrT X G W a ma) (hb : TrW X G W (.BoolOp .And (b :: rest) pos) mb) : TrW X G W (.BoolOp .And (a :: b :: rest) pos) (tAnd ma mb) := by
  obtain ⟨t, p, d⟩ := ha
  obtain ⟨u, q, e⟩ := hb
  refine ⟨_, pw_and p q, fun F H σ S T Q st z => d F H σ S T _ st (PR.bind z fun c S1 y => ?_)⟩
  intro F1 H1 T1 s1 st1
  cases c with
  | true => exact e F1 H1 σ S1 T1 Q st1 (PR.re s1 (fun _ _ => KB.re s1) y)
  | false => exact (show KB G F H σ T Q false S1 from y) F1 H1 T1 s1 st1
theorem tw_or {a b : Expr} {rest : List Expr} {ma mb : T} {pos : Pos} (ha : TrT X G W a ma) (hb : TrW X G W (.BoolOp .Or (b :: rest) pos) mb) : TrW X G W (.BoolOp .Or (a :: b :: rest) pos) (tOr ma mb) := by
  obtain ⟨t, p, d⟩ := ha
  obtain ⟨u, q, e⟩ := hb
  refine ⟨_, pw_or p q, fun F H σ S T Q st z => d F H σ S T _ st (PR.bind z fun c S1 y => ?_)⟩
  intro F1 H1 T1 s1 st1
  cases c with
  | false => exact e F1 H1 σ S1 T1 Q st1 (PR.re s1 (fun _ _ => KB.re s1) y)
  | true => exact (show KB G F H σ T Q true S1 from y) F1 H1 T1 s1 st1
theorem tt_w {e : Expr} {m : T} (h : TrW X G W e m) : TrT X G W e m := by
  obtain ⟨t, p, d⟩ := h
  exact ⟨t, p.pt, d⟩
theorem tt_not {a : Expr} {ma : T} {pos : Pos} (ha : TrT X G W a ma) : TrT X G W (.UnaryOp .Not a pos) (tNot ma) := by
  obtain ⟨t, p, d⟩ := ha
  refine ⟨_, pt_not p, fun F H σ S T Q st z => d F H σ S T _ st (PR.bind z fun c S1 y => ?_)⟩
  intro F1 H1 T1 s1 st1
  exact (show KB G F H σ T Q (!c) S1 from y) F1 H1 T1 s1 st1
theorem den_boolE {t : TE} {m : E} (h : DenE G W t m) : ∀ F H σ S T (Q : V → Hp → Prop), St' G F H σ S T → PR G W F H σ T (fun b S' => ∀ F' H' T', Step F H T F' H' T' → St' G F' H' σ S' T' → Q (.bl b) H') (eBool m S) → t σ H Q := fun F H σ S T Q st p => by
  refine h F H σ S T _ st (PR.bind p fun kd S1 q => ?_)
  obtain ⟨kk, d⟩ := kd
  intro v F' H' T' f s' st' o le di
  cases d with
  | bl b =>
    have q : ∀ F' H' T', Step F H T F' H' T' → St' G F' H' σ S1 T' → Q (.bl b) H' := q
    cases o with
    | fz r => cases r; exact q F' H' T' (s'.castR fun a => rfl) st'
  | _ => exact q.elim
theorem tr_one {op} {a : Expr} {m : E} {pos : Pos} (h : TrE X G W a m) : TrE X G W (.BoolOp op [a] pos) m := by
  obtain ⟨t, p, d⟩ := h
  exact ⟨t, pe_one p, d⟩
theorem tr_and {a b : Expr} {rest : List Expr} {ma mb : E} {pos : Pos} (ha : TrE X G W a ma) (hb : TrE X G W (.BoolOp .And (b :: rest) pos) mb) : TrE X G W (.BoolOp .And (a :: b :: rest) pos) (eAnd ma mb) := by
  obtain ⟨t, p, d⟩ := ha
  obtain ⟨u, q, e⟩ := hb
  refine ⟨_, pe_and p q, fun F H σ S T Q st z => den_boolE d F H σ S T _ st (PR.bind z fun c S1 y => ?_)⟩
  intro F1 H1 T1 s1 st1
  refine ⟨c, rfl, ?_⟩
  cases c with
  | true => exact e F1 H1 σ S1 T1 Q st1 (PR.reE s1 y)
  | false => exact KE.val (KE.re s1 (show KE G F H σ T Q (.fz, .bl false) S1 from y)) st1 (.bl false)
theorem tr_or {a b : Expr} {rest : List Expr} {ma mb : E} {pos : Pos} (ha : TrE X G W a ma) (hb : TrE X G W (.BoolOp .Or (b :: rest) pos) mb) : TrE X G W (.BoolOp .Or (a :: b :: rest) pos) (eOr ma mb) := by
  obtain ⟨t, p, d⟩ := ha
  obtain ⟨u, q, e⟩ := hb
  refine ⟨_, pe_or p q, fun F H σ S T Q st z => den_boolE d F H σ S T _ st (PR.bind z fun c S1 y => ?_)⟩
  intro F1 H1 T1 s1 st1
  refine ⟨c, rfl, ?_⟩
  cases c with
  | false => exact e F1 H1 σ S1 T1 Q st1 (PR.reE s1 y)
  | true => exact KE.val (KE.re s1 (show KE G F H σ T Q (.fz, .bl true) S1 from y)) st1 (.bl true)
theorem tr_not {a : Expr} {ma : E} {pos : Pos} (ha : TrE X G W a ma) : TrE X G W (.UnaryOp .Not a pos) (eNot ma) := by
  obtain ⟨t, p, d⟩ := ha
  refine ⟨_, pe_not p, fun F H σ S T Q st z => den_boolE d F H σ S T _ st (PR.bind z fun c S1 y => ?_)⟩
  intro F1 H1 T1 s1 st1
  exact ⟨c, rfl, KE.val (KE.re s1 (show KE G F H σ T Q (.fz, .bl (!c)) S1 from y)) st1 (.bl (!c))⟩
theorem tr_if {c a b : Expr} {mc : T} {ma mb : E} {pos : Pos} (hc : TrT X G W c mc) (ha : TrE X G W a ma) (hb : TrE X G W b mb) : TrE X G W (.IfExp c a b pos) (eIf mc ma mb) := by
  obtain ⟨t, p, d⟩ := hc
  obtain ⟨u, q, e⟩ := ha
  obtain ⟨w, r, g⟩ := hb
  refine ⟨_, pe_ifExp p q r, fun F H σ S T Q st z => d F H σ S T _ st (PR.bind z fun x S1 y => ?_)⟩
  intro F1 H1 T1 s1 st1
  cases x with
  | true => exact e F1 H1 σ S1 T1 Q st1 (PR.reE s1 y)
  | false => exact g F1 H1 σ S1 T1 Q st1 (PR.reE s1 y)
theorem den_chain {r r' : R2} {f g : D → D → Option KD} (hs : S2 G r f) (hs' : S2 G r' g) {ta tb tc : TE} {a b c : E} (ha : DenE G W ta a) (hb : DenE G W tb b) (hc : DenE G W tc c) : DenE G W (tChain r r' ta tb tc) (eChain f g a b c) := fun F H σ S T Q st p => by
  refine ha.dat F H σ S T _ st (PR.bind p fun dx S1 q => ?_)
  intro v F1 H1 T1 s1 st1 r1
  refine hb.dat F1 H1 σ S1 T1 _ st1 (PR.bind (PR.re s1 (fun _ _ h => h) q) fun dy S2 q2 => ?_)
  intro u F2 H2 T2 s2 st2 r2
  cases e : f dx dy with
  | none => rw [e] at q2; exact q2.elim
  | some d =>
    rw [e] at q2
    refine hs F2 H2 σ S2 T2 v u dx dy d _ st2 (r1.mono s2.sF) r2 e ?_
    intro z F3 H3 T3 f3 s3 st3 o le di
    obtain ⟨kk, d⟩ := d
    cases kk with
    | fz =>
      cases d with
      | bl bb =>
        cases o with
        | fz rr =>
          cases rr
          refine ⟨bb, rfl, ?_⟩
          have s03 : Step F H T F3 H3 T3 := (s1.trans s2).trans (s3.castR fun a => rfl)
          cases bb with
          | false => exact KE.val (KE.re s03 (show KE G F H σ T Q (.fz, .bl false) S2 from q2)) st3 (.bl false)
          | true =>
            show tc σ H3 _
            have q2 : PR G W F1 H1 σ T1 (KE G F H σ T Q) (M.bind (eDat c) (fun z => ofO (g dy z)) S2) := q2
            refine hc.dat F3 H3 σ S2 T3 _ st3 (PR.bind (PR.re (s2.trans (s3.castR fun a => rfl)) (fun _ _ h => h) q2) fun dz S4 q4 => ?_)
            intro w F4 H4 T4 s4 st4 r4
            cases e4 : g dy dz with
            | none => rw [e4] at q4; exact q4.elim
            | some d4 =>
              rw [e4] at q4
              have q4 : KE G F H σ T Q d4 S4 := q4
              exact hs' F4 H4 σ S4 T4 u w dy dz d4 Q st4 ((r2.mono s3.sF).mono s4.sF) r4 e4 (q4.re (s03.trans s4))
      | _ => exact q2.elim
    | _ => exact q2.elim
theorem tr_chain {op op' : CmpOp} {r r' : R2} {f g : D → D → Option KD} {a b c : Expr} {ma mb mc : E} {pos : Pos} (ho : OpR X (compareOp op) r) (ho' : OpR X (compareOp op') r') (hs : S2 G r f) (hs' : S2 G r' g) (ha : TrE X G W a ma) (hb : TrE X G W b mb) (hc : TrE X G W c mc)
    (hm : lastMarks [op, op'] [b, c] = false := by with_unfolding_all rfl) : TrE X G W (.Compare a [op, op'] [b, c] pos) (eChain f g ma mb mc) := by
  obtain ⟨ta, pa, da⟩ := ha
  obtain ⟨tb, pb, db⟩ := hb
  obtain ⟨tc, pc, dc⟩ := hc
  exact ⟨_, pe_chain ho ho' pa pb pc hm, den_chain hs hs' da db dc⟩
theorem tt_chain {op op' : CmpOp} {r r' : R2} {f g : D → D → Option KD} {a b c : Expr} {ma mb mc : E} {pos : Pos} (ho : OpR X (compareOp op) r) (ho' : OpR X (compareOp op') r') (hs : S2 G r f) (hs' : S2 G r' g) (ha : TrE X G W a ma) (hb : TrE X G W b mb) (hc : TrE X G W c mc)
    (hm : lastMarks [op, op'] [b, c] = false := by with_unfolding_all rfl) : TrT X G W (.Compare a [op, op'] [b, c] pos) (eBool (eChain f g ma mb mc)) := by
  obtain ⟨ta, pa, da⟩ := ha
  obtain ⟨tb, pb, db⟩ := hb
  obtain ⟨tc, pc, dc⟩ := hc
  exact ⟨_, pt_chain ho ho' pa pb pc hm, den_test (den_chain hs hs' da db dc)⟩
/-! ### built-in functions by name -/
theorem tr_callB {x : PySem.Str} {id : String} {r : List V → Hp → VK → Prop} {f : List D → Option KD} {p pos : Pos} {e : Expr} {es : List Expr} {ms : List E} (hc : CallR X (.builtin id) r) (hs : SN G r f) (hm : X.mg x = none) (hv : bootBuiltins x = some (.builtin id)) (ha : TrA X G W (e :: es) ms) (hg : Gl X x := by rfl)
    (hn : x ≠ "__name__" := by decide) (hdb : (x == ("__debug__" : PySem.Str)) = false := by decide) (he : starEach (e :: es) X.env = (false, eval e X.env) :: starEach es X.env := by rfl) (hpl : (backTo pos (starEach es X.env)).any (·.1) = false := by rfl) : TrE X G W (.Call (.Name x p) (e :: es) [] pos) (eApp f ms) := by
  obtain ⟨t, pa, da⟩ := ha
  exact ⟨_, pe_callB hc hg hm hv pa hn hdb he hpl, den_app hs da⟩
theorem tr_callT {x : PySem.Str} {id : String} {r : List V → Hp → VK → Prop} {f : List D → Option KD} {p pos : Pos} {e : Expr} {es : List Expr} {ms : List E} (hc : CallR X (.type id) r) (hs : SN G r f) (hm : X.mg x = none) (hv : bootBuiltins x = some (.type id)) (ha : TrA X G W (e :: es) ms) (hg : Gl X x := by rfl)
    (hn : x ≠ "__name__" := by decide) (hdb : (x == ("__debug__" : PySem.Str)) = false := by decide) (he : starEach (e :: es) X.env = (false, eval e X.env) :: starEach es X.env := by rfl) (hpl : (backTo pos (starEach es X.env)).any (·.1) = false := by rfl) : TrE X G W (.Call (.Name x p) (e :: es) [] pos) (eApp f ms) := by
  obtain ⟨t, pa, da⟩ := ha
  exact ⟨_, pe_callTy hc hg hm hv pa hn hdb he hpl, den_app hs da⟩
end
end TB

namespace TB
open PySem L2
/-! ### statements -/
def PXs (G : Cfgx) (W : WX) (F H : Hp) (T : Cnt) (x : Xc) (S' : List Slot) : Prop :=
  ∀ σ' cls dx F' H' T', Step F H T F' H' T' → St' G F' H' σ' S' T' → ExcR G x cls dx H' → W cls dx σ' H'
def KS (G : Cfgx) (F H : Hp) (T : Cnt) (D : Ends) (f : Fl) (S' : List Slot) : Prop := match f with
  | .nx => ∀ σ' F' H' T', Step F H T F' H' T' → St' G F' H' σ' S' T' → D.nx σ' H'
  | .bk => ∀ σ' F' H' T', Step F H T F' H' T' → St' G F' H' σ' S' T' → D.bk σ' H'
  | .ct => ∀ σ' F' H' T', Step F H T F' H' T' → St' G F' H' σ' S' T' → D.ct σ' H'
  | .rt r => ∀ v σ' F' H' T' f, Step F H T F' H' (add T' f) → St' G F' H' σ' S' T' → Own G F' H' r.1 v r.2 f → (∀ a, T' a + f a ≤ 1) → (∀ a, F' a ≠ none → f a = 0) → D.rt v H'
def PRs {α : Type} (G : Cfgx) (W : WX) (F H : Hp) (T : Cnt) (K : α → List Slot → Prop) : R α → Prop
  | .ok a S => K a S
  | .exc x S => PXs G W F H T x S
  | .bad => False
section
variable {G : Cfgx} {W : WX} {F H F1 H1 : Hp} {σ : L2.St} {T T1 : Cnt} {α β : Type}
theorem PXs.re {x : Xc} {S : List Slot} (s : Step F H T F1 H1 T1) (h : PXs G W F H T x S) : PXs G W F1 H1 T1 x S := fun σ' cls dx F' H' T' s' st e => h σ' cls dx F' H' T' (s.trans s') st e
theorem KS.re {D : Ends} {f : Fl} {S : List Slot} (s : Step F H T F1 H1 T1) (h : KS G F H T D f S) : KS G F1 H1 T1 D f S := by
  cases f with
  | nx => exact fun σ' F' H' T' s' st => (show ∀ σ' F' H' T', Step F H T F' H' T' → St' G F' H' σ' S T' → D.nx σ' H' from h) σ' F' H' T' (s.trans s') st
  | bk => exact fun σ' F' H' T' s' st => (show ∀ σ' F' H' T', Step F H T F' H' T' → St' G F' H' σ' S T' → D.bk σ' H' from h) σ' F' H' T' (s.trans s') st
  | ct => exact fun σ' F' H' T' s' st => (show ∀ σ' F' H' T', Step F H T F' H' T' → St' G F' H' σ' S T' → D.ct σ' H' from h) σ' F' H' T' (s.trans s') st
  | rt r => exact fun v σ' F' H' T' f s' st => (show ∀ v σ' F' H' T' f, Step F H T F' H' (add T' f) → St' G F' H' σ' S T' → Own G F' H' r.1 v r.2 f → (∀ a, T' a + f a ≤ 1) → (∀ a, F' a ≠ none → f a = 0) → D.rt v H' from h) v σ' F' H' T' f (s.trans s') st
theorem PRs.bind {K1 : α → List Slot → Prop} {K2 : β → List Slot → Prop} {r : R α} {f : α → M β} (h : PRs G W F H T K2 (r.bind f)) (k : ∀ a S, PRs G W F H T K2 (f a S) → K1 a S) : PR G W F H σ T K1 r := by
  cases r with
  | ok a S => exact k a S h
  | exc x S => exact fun cls dx F' H' T' s st e => (show PXs G W F H T x S from h) σ cls dx F' H' T' s st e
  | bad => exact h
theorem PRs.binds {K1 : α → List Slot → Prop} {K2 : β → List Slot → Prop} {r : R α} {f : α → M β} (h : PRs G W F H T K2 (r.bind f)) (k : ∀ a S, PRs G W F H T K2 (f a S) → K1 a S) : PRs G W F H T K1 r := by
  cases r with
  | ok a S => exact k a S h
  | exc x S => exact h
  | bad => exact h
theorem PRs.re {K1 K2 : α → List Slot → Prop} {r : R α} (s : Step F H T F1 H1 T1) (k : ∀ a S, K1 a S → K2 a S) (h : PRs G W F H T K1 r) : PRs G W F1 H1 T1 K2 r := by
  cases r with
  | ok a S => exact k a S h
  | exc x S => exact PXs.re s h
  | bad => exact h
theorem PRs.reS {D : Ends} {r : R Fl} (s : Step F H T F1 H1 T1) (h : PRs G W F H T (KS G F H T D) r) : PRs G W F1 H1 T1 (KS G F1 H1 T1 D) r := PRs.re s (fun _ _ => KS.re s) h
end
def DenS (G : Cfgx) (W : WX) (t : TS) (m : St) : Prop := ∀ F H σ S T D, St' G F H σ S T → PRs G W F H T (KS G F H T D) (m S) → t D σ H
def TrS (X : Cx) (G : Cfgx) (W : WX) (s : Stmt) (m : St) : Prop := ∃ t, L2.PS X s t ∧ DenS G W t m
def TrSs (X : Cx) (G : Cfgx) (W : WX) (s : List Stmt) (m : St) : Prop := ∃ t, PSs X s t ∧ DenS G W t m
/-- the slot i filled anew -/
theorem St'.set {G : Cfgx} {F H : Hp} {σ : L2.St} {S : List Slot} {T f : Cnt} {i : Nat} {k : Kd} {v : V} {d : D} (st : St' G F H σ S T) (hi : i < S.length) (hp : i ∉ G.pk) (o : Own G F H k v d f) (le : ∀ a, T a + f a ≤ 1) (di : ∀ a, F a ≠ none → f a = 0) :
    ∃ T', St' G F H (σ.set i (some v)) (S.set i (some (k, d))) T' ∧ ∀ a, T' a ≤ T a + f a := by
  obtain ⟨v0, f0, T0, ht, hv, ho, back⟩ := st.sl.at (List.getElem?_eq_getElem hi)
  refine ⟨add f T0, ⟨fun j hj => by rw [List.getElem?_set_ne (fun e => hp (by rw [e]; exact hj))]; exact st.pi j hj, st.sub, back F H (some v) (some (k, d)) f (Same.refl F) (fun _ _ _ h => h) (.yes o), fun a => ?_, fun a n => ?_⟩, fun a => ?_⟩
  · have := ht a; have := le a; simp only [add]; omega
  · have := ht a; have := di a n; have := st.di a n; simp only [add]; omega
  · have := ht a; simp only [add]; omega
/-- the slot i emptied -/
theorem St'.drop {G : Cfgx} {F H : Hp} {σ : L2.St} {S : List Slot} {T : Cnt} {i : Nat} (st : St' G F H σ S T) (hp : i ∉ G.pk) (v : Option V) : ∃ T', St' G F H (σ.set i v) (S.set i none) T' ∧ ∀ a, T' a ≤ T a := by
  by_cases hi : i < S.length
  · obtain ⟨v0, f0, T0, ht, hv, ho, back⟩ := st.sl.at (List.getElem?_eq_getElem hi)
    refine ⟨add nil0 T0, ⟨fun j hj => by rw [List.getElem?_set_ne (fun e => hp (by rw [e]; exact hj))]; exact st.pi j hj, st.sub, back F H v none nil0 (Same.refl F) (fun _ _ _ h => h) (.no v), fun a => ?_, fun a n => ?_⟩, fun a => ?_⟩
    · have := ht a; have := st.le a; simp only [add, nil0]; omega
    · have := ht a; have := st.di a n; simp only [add, nil0]; omega
    · have := ht a; simp only [add, nil0]; omega
  · have hs : σ.length ≤ i := by rw [st.sl.len]; omega
    rw [List.set_eq_of_length_le hs, List.set_eq_of_length_le (by omega)]
    exact ⟨T, st, fun a => Nat.le_refl _⟩
section
variable {X : Cx} {G : Cfgx} {W : WX} {k : Nat}
theorem ts_nil : TrSs X G W [] sNx := ⟨_, pss_nil, fun F H σ S T D st p => (show KS G F H T D .nx S from p) σ F H T (Step.refl F H T) st⟩
theorem ts_one {s : Stmt} {m : St} (h : TrS X G W s m) : TrSs X G W [s] m := by
  obtain ⟨t, p, d⟩ := h
  exact ⟨t, pss_one p, d⟩
theorem ts_cons {s : Stmt} {r : List Stmt} {m n : St} (h : TrS X G W s m) (g : TrSs X G W r n) : TrSs X G W (s :: r) (sSeq m n) := by
  obtain ⟨t, p, d⟩ := h
  obtain ⟨u, q, e⟩ := g
  refine ⟨_, pss_cons p q, fun F H σ S T D st z => ?_⟩
  refine d F H σ S T { D with nx := u D } st (PRs.binds z fun f S1 y => ?_)
  cases f with
  | nx => exact fun σ' F' H' T' s' st' => e F' H' σ' S1 T' D st' (PRs.reS s' y)
  | bk => exact y
  | ct => exact y
  | rt r => exact y
theorem pin_ok {i : Nat} (h : G.pk.contains i = false) : i ∉ G.pk := fun z => by rw [List.contains_iff_mem.mpr z] at h; cases h
theorem tr_set (i : Nat) {x : PySem.Str} {e : Expr} {m : E} {p pos : Pos} (C : Cok X G W k) (h : TrE X G W e m) (hp : G.pk.contains i = false := by rfl) (hi : X.N[i]? = some x := by rfl) (hx : Loc X.env.scope x := by first | exact Or.inl rfl | exact Or.inr rfl) (hs : swapsWith e (some (.Name x p)) pos.line X.env = pure false := by rfl)
    (hf : X.fn x = true ∨ X.env.scope.names.lookup x = some .local := by first | exact .inl rfl | exact .inr rfl) : TrS X G W (.Assign [.Name x p] e pos) (sSet i m) := by
  obtain ⟨t, q, d⟩ := h
  refine ⟨_, ps_set C.nd hi hx q hs hf, fun F H σ S T D st z => d F H σ S T _ st (PRs.bind z fun kd S1 y => ?_)⟩
  obtain ⟨kk, dd⟩ := kd
  intro v F' H' T' f s' st' o le di
  show D.nx (σ.set i (some v)) H'
  by_cases hl : i < S1.length
  · have y : PRs G W F H T (KS G F H T D) (if i < S1.length then .ok .nx (S1.set i (some (kk, dd))) else .bad) := y
    rw [if_pos hl] at y
    obtain ⟨T2, st2, l2⟩ := st'.set hl (pin_ok hp) o le di
    exact (show KS G F H T D .nx _ from y) _ F' H' T2 (s'.less l2) st2
  · have y : PRs G W F H T (KS G F H T D) (if i < S1.length then .ok .nx (S1.set i (some (kk, dd))) else .bad) := y
    rw [if_neg hl] at y
    exact y.elim
theorem tr_drop {e : Expr} {m : E} {pos : Pos} (h : TrE X G W e m) (hs : swapsWith e none pos.line X.env = pure false := by rfl) : TrS X G W (.Expr e pos) (sDrop m) := by
  obtain ⟨t, q, d⟩ := h
  refine ⟨_, ps_expr q hs, fun F H σ S T D st z => d F H σ S T _ st (PRs.bind z fun kd S1 y => ?_)⟩
  intro v F' H' T' f s' st' o le di
  exact (show KS G F H T D .nx S1 from y) σ F' H' T' (s'.less fun a => by simp only [add]; omega) st'
theorem tr_ret {e : Expr} {m : E} {pos : Pos} (h : TrE X G W e m) : TrS X G W (.Return (some e) pos) (sRet m) := by
  obtain ⟨t, q, d⟩ := h
  refine ⟨_, ps_ret q, fun F H σ S T D st z => d F H σ S T _ st (PRs.bind z fun kd S1 y => ?_)⟩
  intro v F' H' T' f s' st' o le di
  exact (show KS G F H T D (.rt kd) S1 from y) v σ F' H' T' f s' st' o le di
theorem tr_retN {pos : Pos} : TrS X G W (.Return none pos) sRetN := ⟨_, ps_retN, fun F H σ S T D st z => (show KS G F H T D (.rt (.fz, .non)) S from z) .non σ F H T nil0 ((Step.refl F H T).castR fun a => rfl) st (.fz .non) (fun a => st.le a) fun _ _ => rfl⟩
theorem tr_pass {pos : Pos} : TrS X G W (.Pass pos) sNx := ⟨_, ps_pass, fun F H σ S T D st p => (show KS G F H T D .nx S from p) σ F H T (Step.refl F H T) st⟩
theorem tr_ifS {c : Expr} {a b : List Stmt} {mc : T} {ma mb : St} {pos : Pos} (hc : TrT X G W c mc) (ha : TrSs X G W a ma) (hb : TrSs X G W b mb) : TrS X G W (.If c a b pos) (sIf mc ma mb) := by
  obtain ⟨t, p, d⟩ := hc
  obtain ⟨u, q, e⟩ := ha
  obtain ⟨w, r, g⟩ := hb
  refine ⟨_, ps_if p q r, fun F H σ S T D st z => d F H σ S T _ st (PRs.bind z fun x S1 y => ?_)⟩
  intro F1 H1 T1 s1 st1
  cases x with
  | true => exact e F1 H1 σ S1 T1 D st1 (PRs.reS s1 y)
  | false => exact g F1 H1 σ S1 T1 D st1 (PRs.reS s1 y)
theorem tr_while (n : Nat) {c : Expr} {b : List Stmt} {mc : T} {mb : St} {pos : Pos} (C : Cok X G W k) (hc : TrT X G W c mc) (hb : TrSs X G W b mb) : TrS X G W (.While c b [] pos) (sWhile n mc mb) := by
  obtain ⟨t, p, d⟩ := hc
  obtain ⟨u, q, e⟩ := hb
  refine ⟨_, ps_while C.po p q, fun F H σ S T D st z => ?_⟩
  refine ⟨fun m σ1 H1 => ∃ F1 S1 T1, St' G F1 H1 σ1 S1 T1 ∧ PRs G W F1 H1 T1 (KS G F1 H1 T1 D) (sWhile m mc mb S1), ⟨n, F, S, T, st, z⟩, ?_⟩
  rintro m σ1 H1 ⟨F1, S1, T1, st1, z1⟩
  cases m with
  | zero => exact z1.elim
  | succ m =>
    have z1 : PRs G W F1 H1 T1 (KS G F1 H1 T1 D) ((mc S1).bind fun x => if x then M.bind mb (fun f => match f with | .nx => sWhile m mc mb | .ct => sWhile m mc mb | .bk => M.pure .nx | .rt r => M.pure (.rt r)) else M.pure .nx) := z1
    refine d F1 H1 σ1 S1 T1 _ st1 (PRs.bind z1 fun x S2 y => ?_)
    intro F2 H2 T2 s2 st2
    cases x with
    | false => exact (show KS G F1 H1 T1 D .nx S2 from y) σ1 F2 H2 T2 s2 st2
    | true =>
      have y : PRs G W F1 H1 T1 (KS G F1 H1 T1 D) ((mb S2).bind fun f => match f with | .nx => sWhile m mc mb | .ct => sWhile m mc mb | .bk => M.pure .nx | .rt r => M.pure (.rt r)) := y
      have y := PRs.reS s2 y
      refine ⟨fun σ3 H3 => ∃ F3 S3 T3, St' G F3 H3 σ3 S3 T3 ∧ PRs G W F3 H3 T3 (KS G F3 H3 T3 D) (sWhile m mc mb S3), fun σ' H' w => ⟨m, Nat.lt_succ_self m, w⟩, ?_⟩
      refine e F2 H2 σ1 S2 T2 _ st2 (PRs.binds y fun f S3 z3 => ?_)
      cases f with
      | nx => exact fun σ' F' H' T' s' st' => ⟨F', S3, T', st', PRs.reS s' z3⟩
      | ct => exact fun σ' F' H' T' s' st' => ⟨F', S3, T', st', PRs.reS s' z3⟩
      | bk => exact fun σ' F' H' T' s' st' => (show KS G F2 H2 T2 D .nx S3 from z3) σ' F' H' T' s' st'
      | rt r => exact (show KS G F2 H2 T2 D (.rt r) S3 from z3)
/-! ### what is walked -/
/-- an item, in a heap that may have got a tuple more -/
def YD (G : Cfgx) (F H : Hp) (x : V) (H' : Hp) (d : D) : Prop := (H' = H ∧ Rep G F x d) ∨ ∃ p vs ds, x = .ref p ∧ H p = none ∧ H' = upd H p (.tup vs) ∧ d = .tup ds ∧ Reps G F vs ds
def WalkD (G : Cfgx) (F : Hp) (J : L2.It) (ds : List D) : Prop := ∃ Y, L2.Walk J ds.length (fun H => Same F H) Y ∧ ∀ i H x H' d, ds[i]? = some d → Y i H x H' → YD G F H x H' d
def KI (G : Cfgx) (F H : Hp) (σ : L2.St) (T : Cnt) (R : L2.It → Hp → Prop) (ds : List D) (S' : List Slot) : Prop :=
  ∀ J F' H' T', Step F H T F' H' T' → St' G F' H' σ S' T' → WalkD G F' J ds → R J H'
def DenI (G : Cfgx) (W : WX) (wi : TI) (m : It) : Prop := ∀ F H σ S T R, St' G F H σ S T → PR G W F H σ T (KI G F H σ T R) (m S) → wi σ H R
def TrI (X : Cx) (G : Cfgx) (W : WX) (tg e : Expr) (m : It) : Prop := ∃ wi, PI X tg e wi ∧ DenI G W wi m
/-! targets -/
def DenG (G : Cfgx) (g : TG) (tg : Tg) : Prop := ∀ F H σ S T v d S' (Q : L2.St → Hp → Prop), St' G F H σ S T → Rep G F v d → tg.put d S = some S' → (∀ σ' T', St' G F H σ' S' T' → (∀ a, T' a ≤ T a) → (∀ j, j ∉ tg.sl → σ'[j]? = σ[j]?) → Q σ' H) → g v σ H Q
def DenGs (G : Cfgx) (g : TGs) (tg : List Tg) : Prop := ∀ F H σ S T vs ds S' (Q : L2.St → Hp → Prop), St' G F H σ S T → Reps G F vs ds → Tg.puts tg ds S = some S' → (∀ σ' T', St' G F H σ' S' T' → (∀ a, T' a ≤ T a) → (∀ j, j ∉ Tg.sls tg → σ'[j]? = σ[j]?) → Q σ' H) → g vs σ H Q
def TrG (X : Cx) (G : Cfgx) (e : Expr) (tg : Tg) : Prop := ∃ g, PG X e g ∧ DenG G g tg
def TrGs (X : Cx) (G : Cfgx) (es : List Expr) (tg : List Tg) : Prop := ∃ g, PGs X es g ∧ DenGs G g tg
theorem tg_nm (i : Nat) {x : PySem.Str} {pos : Pos} (nd : X.N.Nodup) (hp : G.pk.contains i = false := by rfl) (hi : X.N[i]? = some x := by rfl) (hx : Loc X.env.scope x := by first | exact Or.inl rfl | exact Or.inr rfl) (hf : X.fn x = true ∨ X.env.scope.names.lookup x = some .local := by first | exact .inl rfl | exact .inr rfl) : TrG X G (.Name x pos) (.nm i) := by
  refine ⟨_, pg_name nd hi hx hf, fun F H σ S T v d S' Q st r e k => ?_⟩
  unfold Tg.put at e
  by_cases hl : i < S.length
  · rw [if_pos hl] at e
    cases e
    obtain ⟨T2, st2, l2⟩ := st.set hl (pin_ok hp) (.fz r) (fun a => by simp only [nil0]; exact st.le a) fun _ _ => rfl
    exact k _ T2 st2 (fun a => by have := l2 a; simp only [nil0] at this; omega) fun j hj => List.getElem?_set_ne fun e => hj (by simp [Tg.sl, e])
  · rw [if_neg hl] at e; cases e
theorem tg_nil : TrGs X G [] [] := ⟨_, pgs_nil, fun F H σ S T vs ds S' Q st r e k => by
  cases r with
  | nil => unfold Tg.puts at e; cases e; exact ⟨rfl, k σ T st (fun a => Nat.le_refl _) fun _ _ => rfl⟩
  | cons a b => unfold Tg.puts at e; cases e⟩
theorem tg_cons {e : Expr} {es : List Expr} {t : Tg} {ts : List Tg} (h : TrG X G e t) (hs : TrGs X G es ts) (ha : (assignEach (e :: es) X.env).map (·.2) = assign e X.env :: (assignEach es X.env).map (·.2) := by rfl) : TrGs X G (e :: es) (t :: ts) := by
  obtain ⟨g, p, d⟩ := h
  obtain ⟨g2, p2, d2⟩ := hs
  refine ⟨_, pgs_cons p p2 ha, fun F H σ S T vs ds S' Q st r e k => ?_⟩
  cases r with
  | nil => unfold Tg.puts at e; cases e
  | @cons v dd vs ds r1 r2 =>
    unfold Tg.puts at e
    cases e1 : Tg.put t dd S with
    | none => rw [e1] at e; cases e
    | some S1 =>
      rw [e1] at e
      exact ⟨v, vs, rfl, d F H σ S T v dd S1 _ st r1 e1 fun σ1 T1 st1 l1 a1 => d2 F H σ1 S1 T1 vs ds S' Q st1 r2 e fun σ2 T2 st2 l2 a2 => k σ2 T2 st2 (fun a => Nat.le_trans (l2 a) (l1 a)) fun j hj => by
        unfold Tg.sls at hj
        exact (a2 j fun z => hj (List.mem_append_right _ z)).trans (a1 j fun z => hj (List.mem_append_left _ z))⟩
theorem tg_tup {es : List Expr} {kk : Nat} {ts : List Tg} {n : Nat} {pos : Pos} (C : Cok X G W k) (h : TrGs X G es ts) (hl : ts.length = n := by rfl) (hn : (assignEach es X.env).length = n := by rfl) (hst : (assignEach es X.env).findIdx? (·.1) = none := by rfl) : TrG X G (.Tuple es kk pos) (.tp ts) := by
  obtain ⟨g, p, d⟩ := h
  refine ⟨_, pg_tup C.calm p hn hst, fun F H σ S T v dd S' Q st r e k => ?_⟩
  cases r with
  | tup hs rs =>
    unfold Tg.put at e
    refine ⟨_, _, rfl, C.hK ▸ same_t st.sub hs, ?_, d F H σ S T _ _ S' Q st rs e (fun σ' T' st' l a => k σ' T' st' l fun j hj => a j (by unfold Tg.sl at hj; exact hj))⟩
    have : ∀ (ts : List Tg) (ds : List D) (S S' : List Slot), Tg.puts ts ds S = some S' → ds.length = ts.length := by
      intro ts
      induction ts with
      | nil => intro ds S S' e; cases ds with
        | nil => rfl
        | cons a b => unfold Tg.puts at e; cases e
      | cons t ts ih => intro ds S S' e; cases ds with
        | nil => unfold Tg.puts at e; cases e
        | cons a b =>
          unfold Tg.puts at e
          cases e1 : Tg.put t a S with
          | none => rw [e1] at e; cases e
          | some S1 => rw [e1] at e; simp [ih _ _ _ e]
    rw [rs.len, this _ _ _ _ e, hl]
  | _ => unfold Tg.put at e; cases e
theorem den_loop {wi : TI} {it : It} {g : TG} {tg : Tg} {tb : TS} {mb : St} (hi : DenI G W wi it) (hg : DenG G g tg) (hb : DenS G W tb mb) : DenS G W (tFor wi g tb) (sFor it tg mb) := fun F H σ S T D st z => by
  refine hi F H σ S T _ st (PRs.bind z fun ds S1 y => ?_)
  intro J F1 H1 T1 s1 st1 ⟨Y, w, hY⟩
  refine L2.for_it w (fun i σ' H' => ∃ F' S' T', St' G F' H' σ' S' T' ∧ Same F1 F' ∧ PRs G W F' H' T' (KS G F' H' T' D) (loop tg mb (ds.drop i) S')) ⟨F1, S1, T1, st1, Same.refl F1, PRs.reS s1 y⟩ (fun i σ' H' _ ⟨F', S', T', st', sf, _⟩ => sf.trans st'.sub) ?_ ?_
  · rintro i x σ2 H2 H3 hi ⟨F2, S2, T2, st2, sf2, p⟩ hy
    have hd : ds[i]? = some ds[i] := List.getElem?_eq_getElem hi
    have yd := hY i H2 x H3 ds[i] hd hy
    rw [List.drop_eq_getElem_cons hi] at p
    unfold loop at p
    cases e : tg.put ds[i] S2 with
    | none => rw [e] at p; exact p.elim
    | some S3 =>
      rw [e] at p
      have p : PRs G W F2 H2 T2 (KS G F2 H2 T2 D) ((mb S3).bind fun f => match f with | .nx => loop tg mb (ds.drop (i + 1)) | .ct => loop tg mb (ds.drop (i + 1)) | .bk => M.pure .nx | .rt r => M.pure (.rt r)) := p
      have turn : ∀ F3 H3 T3, Step F2 H2 T2 F3 H3 T3 → St' G F3 H3 σ2 S2 T3 → Rep G F3 x ds[i] → g x σ2 H3 fun σ4 H4 => tb { D with nx := fun σ' H' => ∃ F' S' T', St' G F' H' σ' S' T' ∧ Same F1 F' ∧ PRs G W F' H' T' (KS G F' H' T' D) (loop tg mb (ds.drop (i + 1)) S'), ct := fun σ' H' => ∃ F' S' T', St' G F' H' σ' S' T' ∧ Same F1 F' ∧ PRs G W F' H' T' (KS G F' H' T' D) (loop tg mb (ds.drop (i + 1)) S'), bk := D.nx } σ4 H4 := by
        intro F3 H3 T3 s3 st3 r3
        refine hg F3 H3 σ2 S2 T3 x ds[i] S3 _ st3 r3 e fun σ4 T4 st4 l4 _ => ?_
        have s4 : Step F2 H2 T2 F3 H3 T4 := s3.less l4
        refine hb F3 H3 σ4 S3 T4 _ st4 (PRs.binds (PRs.reS s4 p) fun f S5 q => ?_)
        cases f with
        | nx => exact fun σ' F' H' T' s' st' => ⟨F', S5, T', st', (sf2.trans s4.sF).trans s'.sF, PRs.reS s' q⟩
        | ct => exact fun σ' F' H' T' s' st' => ⟨F', S5, T', st', (sf2.trans s4.sF).trans s'.sF, PRs.reS s' q⟩
        | bk => exact fun σ' F' H' T' s' st' => (show KS G F3 H3 T4 D .nx S5 from q) σ' F' H' T' s' st'
        | rt r => exact (show KS G F3 H3 T4 D (.rt r) S5 from q)
      rcases yd with ⟨e1, r⟩ | ⟨pp, vs, dd, e1, hp, e2, e3, r⟩
      · subst e1
        exact turn F2 H3 T2 (Step.refl _ _ _) st2 (r.mono sf2)
      · subst e1 e2
        obtain ⟨st3, s3⟩ := st2.newF (o := .tup vs) hp
        refine turn _ _ T2 s3 st3 ?_
        rw [e3]
        exact .tup (.inl (.inl upd_same)) ((r.mono sf2).mono s3.sF)
  · rintro σ2 H2 ⟨F2, S2, T2, st2, sf2, p⟩
    rw [List.drop_length] at p
    exact (show KS G F2 H2 T2 D .nx S2 from p) σ2 F2 H2 T2 (Step.refl _ _ _) st2
theorem tr_for {tg iter : Expr} {body : List Stmt} {it : It} {t : Tg} {mb : St} {pos : Pos} (C : Cok X G W k) (hi : TrI X G W tg iter it) (hg : TrG X G tg t) (hb : TrSs X G W body mb) (hs : ∀ x, foldedSetIterable iter X.env x = pure x := by intro _; rfl) : TrS X G W (.For tg iter body [] pos) (sFor it t mb) := by
  obtain ⟨wi, p, d⟩ := hi
  obtain ⟨g, q, e⟩ := hg
  obtain ⟨tb, r, f⟩ := hb
  exact ⟨_, ps_for C.po C.calm p q r hs, den_loop d e f⟩
/-! ### the readings that hang on the mirror alone -/
def tE (G : Cfgx) (W : WX) (m : E) : TE := fun σ H Q => ∃ F S T, St' G F H σ S T ∧ PR G W F H σ T (KE G F H σ T Q) (m S)
def tT (G : Cfgx) (W : WX) (m : T) : TT := fun σ H Q => ∃ F S T, St' G F H σ S T ∧ PR G W F H σ T (KB G F H σ T Q) (m S)
def gG (G : Cfgx) (tg : Tg) : TG := fun v σ H Q => ∃ F S T d S', St' G F H σ S T ∧ Rep G F v d ∧ tg.put d S = some S' ∧ ∀ σ' T', St' G F H σ' S' T' → (∀ a, T' a ≤ T a) → (∀ j, j ∉ tg.sl → σ'[j]? = σ[j]?) → Q σ' H
theorem TrE.can {e : Expr} {m : E} (h : TrE X G W e m) : PE X e (tE G W m) := by
  obtain ⟨t, p, d⟩ := h
  exact ⟨fun pins s σ H Q I ⟨F, S, T, st, q⟩ => p.run pins s σ H Q I (d F H σ S T Q st q)⟩
theorem TrT.can {e : Expr} {m : T} (h : TrT X G W e m) : PT X e (tT G W m) := by
  obtain ⟨t, p, d⟩ := h
  exact ⟨fun pins s σ H Q I ⟨F, S, T, st, q⟩ => p.run pins s σ H Q I (d F H σ S T Q st q)⟩
theorem TrG.can {e : Expr} {tg : Tg} (h : TrG X G e tg) : PG X e (gG G tg) := by
  obtain ⟨g, p, d⟩ := h
  exact ⟨fun pins s σ H v u Q I r ⟨F, S, T, dd, S', st, rr, e, k⟩ => p.run pins s σ H v u Q I r (d F H σ S T v dd S' Q st rr e k)⟩
def TrTs (X : Cx) (G : Cfgx) (W : WX) (ifs : List Expr) (m : T) : Prop := PTs X ifs (tT G W m)
theorem tts_nil : TrTs X G W [] tTrue := ⟨fun pins s σ H Q I ⟨F, S, T, st, q⟩ => pts_nil.run pins s σ H Q I ((show KB G F H σ T Q true S from q) F H T (Step.refl F H T) st)⟩
theorem tts_one {c : Expr} {m : T} (h : TrT X G W c m) : TrTs X G W [c] m := pts_one h.can
theorem tts_and {c d : Expr} {m n : T} (h : TrT X G W c m) (g : TrT X G W d n) : True := trivial
/-! ### comprehensions -/
theorem wipe_get {α : Type} {σ : List (Option α)} : ∀ {w : List Nat → List (Option α)}, True := fun {_} => trivial
theorem wipe_at (σ : L2.St) : ∀ (vs : List Nat) (j : Nat), (L2.wipe σ vs)[j]? = if j ∈ vs ∧ j < σ.length then some none else σ[j]?
  | [], j => by simp [L2.wipe]
  | v :: vs, j => by
    have ih := wipe_at σ vs j
    unfold L2.wipe
    by_cases h : v = j
    · subst h
      by_cases hl : v < σ.length
      · rw [List.getElem?_set_self (by rw [L2.wipe_length]; exact hl), if_pos ⟨List.mem_cons_self, hl⟩]
      · rw [List.getElem?_eq_none (by rw [List.length_set, L2.wipe_length]; omega), if_neg (fun z => hl z.2), List.getElem?_eq_none (by omega)]
    · rw [List.getElem?_set_ne h, ih]
      have e : j ∈ v :: vs ↔ j ∈ vs := by simp [Ne.symm h]
      simp only [e]
theorem wipe_eq {σ σ' : L2.St} {vs : List Nat} (hl : σ'.length = σ.length) (h : ∀ j, j ∉ vs → σ'[j]? = σ[j]?) : L2.wipe σ' vs = L2.wipe σ vs := by
  apply List.ext_getElem?
  intro j
  rw [wipe_at, wipe_at, hl]
  by_cases z : j ∈ vs
  · by_cases y : j < σ.length
    · simp [z, y]
    · rw [if_neg (fun w => y w.2), if_neg (fun w => y w.2), List.getElem?_eq_none (by omega), List.getElem?_eq_none (by omega)]
  · rw [if_neg (fun w => z w.1), if_neg (fun w => z w.1)]; exact h j z
theorem wipe_wipe (σ : L2.St) (vs : List Nat) : L2.wipe (L2.wipe σ vs) vs = L2.wipe σ vs := wipe_eq (L2.wipe_length σ vs) fun j hj => by rw [wipe_at, if_neg fun w => hj w.1]
theorem wipe_slots {F H : Hp} {σ : L2.St} {S : List Slot} {T : Cnt} (st : St' G F H σ S T) : ∀ vs : List Nat, (∀ v, v ∈ vs → v ∉ G.pk) → ∃ T', St' G F H (L2.wipe σ vs) (wipeS S vs) T' ∧ ∀ a, T' a ≤ T a
  | [], _ => ⟨T, st, fun a => Nat.le_refl _⟩
  | v :: vs, h => by
    obtain ⟨T1, st1, l1⟩ := wipe_slots st vs fun x hx => h x (List.mem_cons_of_mem _ hx)
    obtain ⟨T2, st2, l2⟩ := st1.drop (i := v) (h v List.mem_cons_self) none
    exact ⟨T2, st2, fun a => Nat.le_trans (l2 a) (l1 a)⟩
/-- the block's own slots as they were ahead -/
theorem back_slots {F F0 H H0 : Hp} {σ : L2.St} {S0 : List Slot} {T0 : Cnt} (st0 : St' G F0 H0 σ S0 T0) (sF : Same F0 F) : ∀ {vs : List Nat} {S : List Slot} {T : Cnt}, vs.all (fzAt S0) = true → noDup vs = true → St' G F H (L2.wipe σ vs) S T → ∃ T', St' G F H σ (backS S0 S vs) T' ∧ ∀ a, T' a ≤ T a
  | [], S, T, _, _, st => ⟨T, st, fun a => Nat.le_refl _⟩
  | v :: vs, S, T, h, nd, st => by
    obtain ⟨h1, h2⟩ := Bool.and_eq_true_iff.mp (show (fzAt S0 v && vs.all (fzAt S0)) = true from h)
    obtain ⟨n1, n2⟩ := Bool.and_eq_true_iff.mp (show (!vs.contains v && noDup vs) = true from nd)
    have nv : v ∉ vs := by simpa using n1
    have lS : S.length = σ.length := by rw [← st.sl.len, L2.wipe_length]
    have l0 : σ.length = S0.length := st0.sl.len
    cases e : S0[v]? with
    | none => unfold fzAt at h1; rw [e] at h1; cases h1
    | some s0 =>
      have hv : v < S0.length := (List.getElem?_eq_some_iff.mp e).1
      have gd : S0.getD v none = s0 := by rw [List.getD_eq_getElem?_getD, e]; rfl
      obtain ⟨x, f, Tr, ht, hx, ho, back⟩ := st.sl.at (i := v) (List.getElem?_eq_getElem (by omega))
      obtain ⟨x0, f0, Tr0, _, hx0, ho0, _⟩ := st0.sl.at (i := v) e
      have ok : SlotOk G F H x0 s0 nil0 := by
        unfold fzAt at h1
        rw [e] at h1
        cases ho0 with
        | no => exact .no _
        | @yes k1 v1 d1 f1 o =>
          cases k1 with
          | fz => cases o with | fz r => exact .yes (.fz (r.mono sF))
          | _ => cases h1
      have q := back F H x0 s0 nil0 (Same.refl F) (fun _ _ _ h => h) ok
      have e2 : (L2.wipe σ (v :: vs)).set v x0 = L2.wipe σ vs := by
        show ((L2.wipe σ vs).set v none).set v x0 = _
        rw [List.set_set]
        have z : (L2.wipe σ vs)[v]? = some x0 := by rw [wipe_at, if_neg fun w => nv w.1]; exact hx0
        obtain ⟨hi, q1⟩ := List.getElem?_eq_some_iff.mp z
        rw [← q1, List.set_getElem_self]
      rw [e2] at q
      have st2 : St' G F H (L2.wipe σ vs) (S.set v s0) (add nil0 Tr) := ⟨fun j hj => by
        have z := st.pi j hj
        rw [wipe_at] at z ⊢
        by_cases y : j ∈ vs ∧ j < σ.length
        · rw [if_pos ⟨List.mem_cons_of_mem _ y.1, y.2⟩] at z
          rw [if_pos y]; exact z
        · rw [if_neg y]; exact st0.pi j hj, st.sub, q, fun a => by have := ht a; have := st.le a; simp only [add, nil0]; omega, fun a n => by have := ht a; have := st.di a n; simp only [add, nil0]; omega⟩
      obtain ⟨T', st3, l3⟩ := back_slots st0 sF h2 n2 st2
      refine ⟨T', ?_, fun a => by have := l3 a; have := ht a; simp only [add, nil0] at *; omega⟩
      show St' G F H σ (backS S0 (S.set v (S0.getD v none)) vs) T'
      rw [gd]
      exact st3
abbrev W0 : WX := fun _ _ _ _ => False
theorem den_lc {wi : TI} {it : It} {tg : Tg} {vs : List Nat} {c : T} {e : E} (hpn : ∀ v, v ∈ vs → v ∉ G.pk) (hi : DenI G W wi it) : DenE G W (tLc wi (gG G tg) (tT G W0 c) (tE G W0 e) vs) (eLc it tg vs c e) := fun F H σ S T Q st z => by
  refine hi F H σ S T _ st (PR.bind z fun ds S0 y => ?_)
  intro J F1 H1 T1 s1 st1 ⟨Y, w, hY⟩ L hL
  by_cases hc : (vs.all (fzAt S0) && noDup vs && tg.sl.all vs.contains) = true
  case neg => rw [if_neg hc] at y; exact y.elim
  rw [if_pos hc] at y
  obtain ⟨hc1, hc3⟩ := Bool.and_eq_true_iff.mp hc
  obtain ⟨hc1, hc2⟩ := Bool.and_eq_true_iff.mp hc1
  have tgv : ∀ j, j ∈ tg.sl → j ∈ vs := fun j hj => by simpa using List.all_eq_true.mp hc3 j hj
  -- what the loop is to reach
  let Fin : R (List D) → Prop := fun r => match r with
    | .ok acc S' => KE G F H σ T Q (.li .fz, .lst acc) (backS S0 S' vs)
    | _ => False
  have y : Fin (cLoop tg vs c e ds [] (wipeS S0 vs)) := by
    cases q : cLoop tg vs c e ds [] (wipeS S0 vs) with
    | ok acc S' => rw [q] at y; exact y
    | exc x S' => rw [q] at y; exact y
    | bad => rw [q] at y; exact y
  obtain ⟨stN, sN, leN, fN⟩ := st1.newT (o := .lst []) hL
  obtain ⟨Tw, stw, lw⟩ := wipe_slots stN vs hpn
  have sB : Step F H T F1 (upd H1 L (.lst [])) (add Tw (one L)) := (s1.trans sN).less fun a => by have := lw a; simp only [add]; omega
  have tL : T1 L = 0 := by have := leN L; simp only [one, if_pos] at this; omega
  let Inv (i : Nat) (H' : Hp) : Prop := ∃ F' S' T' av acc, St' G F' H' (L2.wipe σ vs) S' T' ∧ Step F H T F' H' (add T' (one L)) ∧ Same F1 F' ∧ H' L = some (.lst av) ∧ Reps G F' av acc ∧ T' L = 0 ∧ F' L = none ∧ Fin (cLoop tg vs c e (ds.drop i) acc S')
  refine L2.lc_it w Inv ⟨F1, wipeS S0 vs, Tw, [], [], stw, sB, Same.refl F1, upd_same, .nil, by have := lw L; omega, fN, y⟩ (fun i H' _ ⟨F', S', T', av, acc, st', _, sf, _⟩ => sf.trans st'.sub) ?_ ?_
  · rintro i x H2 H3 hi' ⟨F2, S2, T2, av, acc, st2, s2, sf2, hl2, ra2, t2, f2, p⟩ hy
    have yd := hY i H2 x H3 ds[i] (List.getElem?_eq_getElem hi') hy
    rw [List.drop_eq_getElem_cons hi'] at p
    unfold cLoop at p
    cases ep : tg.put ds[i] S2 with
    | none => rw [ep] at p; exact p.elim
    | some S3 =>
      rw [ep] at p
      have p : Fin ((c S3).bind fun b => if b then M.bind (eDat e) fun y S => if acc.length < sizeMax then cLoop tg vs c e (ds.drop (i + 1)) (acc ++ [y]) (wipeS S vs) else .bad else fun S => cLoop tg vs c e (ds.drop (i + 1)) acc (wipeS S vs)) := p
      have turn : ∀ F3 H3, Step F H T F3 H3 (add T2 (one L)) → St' G F3 H3 (L2.wipe σ vs) S2 T2 → Same F1 F3 → H3 L = some (.lst av) → Reps G F3 av acc → F3 L = none → Rep G F3 x ds[i] →
          gG G tg x (L2.wipe σ vs) H3 fun σ2 H2 => L2.wipe σ2 vs = L2.wipe σ vs ∧ tT G W0 c σ2 H2 fun b H3 => if b = true then tE G W0 e σ2 H3 fun y H4 => ∃ acc, H4 L = some (.lst acc) ∧ acc.length < sizeLine ∧ Inv (i + 1) (upd H4 L (.lst (acc ++ [y]))) else Inv (i + 1) H3 := by
        intro F3 H3 s3 st3 sf3 hl3 ra3 f3 r3
        refine ⟨F3, S2, T2, ds[i], S3, st3, r3, ep, fun σ4 T4 st4 l4 a4 => ?_⟩
        have lens : σ4.length = σ.length := by
          have a := st4.sl.len
          have : ∀ (t : Tg) (d : D) (S S' : List Slot), t.put d S = some S' → S'.length = S.length := by
            intro t
            apply Tg.rec (motive_1 := fun t => ∀ (d : D) (S S' : List Slot), t.put d S = some S' → S'.length = S.length) (motive_2 := fun ts => ∀ (d : List D) (S S' : List Slot), Tg.puts ts d S = some S' → S'.length = S.length)
            · intro i d S S' h
              unfold Tg.put at h
              split at h
              · cases h; simp
              · cases h
            · intro is ih d S S' h
              unfold Tg.put at h
              split at h
              · exact ih _ _ _ h
              · cases h
            · intro d S S' h
              cases d with
              | nil => unfold Tg.puts at h; cases h; rfl
              | cons a b => unfold Tg.puts at h; cases h
            · intro t ts i1 i2 d S S' h
              cases d with
              | nil => unfold Tg.puts at h; cases h
              | cons a b =>
                unfold Tg.puts at h
                cases q : Tg.put t a S with
                | none => rw [q] at h; cases h
                | some S1 => rw [q] at h; exact (i2 _ _ _ h).trans (i1 _ _ _ q)
          have b := this tg ds[i] _ _ ep
          have c := st3.sl.len
          rw [L2.wipe_length] at c
          omega
        refine ⟨(wipe_eq (σ := L2.wipe σ vs) (by rw [L2.wipe_length]; exact lens) fun j hj => a4 j fun z => hj (tgv j z)).trans (wipe_wipe σ vs), ?_⟩
        have hTz : ∀ a, T4 a ≤ T2 a := l4
        have s4 : Step F H T F3 H3 (add T4 (one L)) := s3.less fun a => by have := hTz a; simp only [add]; omega
        have fr : ∀ {F5 H5 : Hp} {T5 : Cnt}, Step F3 H3 T4 F5 H5 T5 → Step F H T F5 H5 (add T5 (one L)) ∧ T5 L = 0 ∧ H5 L = some (.lst av) ∧ F5 L = none := by
          intro F5 H5 T5 s5
          have tl : ∀ a, T4 a + one L a ≤ 1 := fun a => by
            unfold one
            split
            · rename_i q; have := hTz a; rw [q] at this ⊢; omega
            · have := st4.le a; omega
          have oh : ∀ a, one L a ≠ 0 → H3 a ≠ none := fun a n => by
            unfold one at n
            split at n
            · rename_i q; rw [q, hl3]; simp
            · exact absurd rfl n
          obtain ⟨b1, b2, b3⟩ := s5.frame tl oh
          have oL : one L L ≠ 0 := by simp [one]
          refine ⟨s4.trans b1, b2 L oL, b3 L _ oL hl3, ?_⟩
          cases q : F5 L with
          | none => rfl
          | some o =>
            rcases s5.nF L f3 (by rw [q]; simp) with z | z | z
            · rw [hl3] at z; cases z
            · have := hTz L; omega
            · rw [hl3] at z; rcases z with ⟨_, z⟩ | ⟨_, _, z⟩ <;> cases z
        refine ⟨F3, S3, T4, st4, ?_⟩
        cases ec : c S3 with
        | bad => rw [ec] at p; exact p.elim
        | exc x S5 => rw [ec] at p; exact p.elim
        | ok b S5 =>
          rw [ec] at p
          intro F5 H5 T5 s5 st5
          obtain ⟨g1, g2, g3, g4⟩ := fr s5
          have wback : ∀ {F6 H6 T6 S6}, St' G F6 H6 σ4 S6 T6 → ∃ T7, St' G F6 H6 (L2.wipe σ vs) (wipeS S6 vs) T7 ∧ ∀ a, T7 a ≤ T6 a := fun {F6 H6 T6 S6} st6 => by
            obtain ⟨T7, st7, l7⟩ := wipe_slots st6 vs hpn
            have ew : L2.wipe σ4 vs = L2.wipe σ vs := (wipe_eq (σ := L2.wipe σ vs) (by rw [L2.wipe_length]; exact lens) fun j hj => a4 j fun z => hj (tgv j z)).trans (wipe_wipe σ vs)
            rw [ew] at st7
            exact ⟨T7, st7, l7⟩
          cases b with
          | false =>
            obtain ⟨T7, st7, l7⟩ := wback st5
            exact ⟨F5, wipeS S5 vs, T7, av, acc, st7, g1.less fun a => by have := l7 a; simp only [add]; omega, sf3.trans s5.sF, g3, ra3.mono s5.sF, by have := l7 L; omega, g4, p⟩
          | true =>
            have p : Fin ((eDat e S5).bind fun y S => if acc.length < sizeMax then cLoop tg vs c e (ds.drop (i + 1)) (acc ++ [y]) (wipeS S vs) else .bad) := p
            refine ⟨F5, S5, T5, st5, ?_⟩
            cases ee : e S5 with
            | bad => unfold eDat M.bind at p; rw [ee] at p; exact p.elim
            | exc x S6 => unfold eDat M.bind at p; rw [ee] at p; exact p.elim
            | ok kd S6 =>
              obtain ⟨kk, dd⟩ := kd
              unfold eDat M.bind at p
              rw [ee] at p
              have p : Fin (if acc.length < sizeMax then cLoop tg vs c e (ds.drop (i + 1)) (acc ++ [dd]) (wipeS S6 vs) else .bad) := p
              by_cases hz : acc.length < sizeMax
              · rw [if_pos hz] at p
                intro v F6' H6 T6 f6 s6' st6' o6 le6 di6
                obtain ⟨F6, s6, st6, r6, _⟩ := freeze_core s6' st6' o6 le6 di6
                obtain ⟨k1, k2, k3, k4⟩ := fr (s5.trans s6)
                obtain ⟨T7, st7, l7⟩ := wback st6
                have ra6 : Reps G F6 av acc := (ra3.mono s5.sF).mono s6.sF
                have t7 : T7 L = 0 := by have := l7 L; omega
                refine ⟨av, k3, by rw [ra6.len]; exact hz, F6, wipeS S6 vs, T7, av ++ [v], acc ++ [dd], ⟨st7.pi, fun a u ea => ?_, st7.sl.mono (Same.refl F6) fun a u n ea => ?_, st7.le, st7.di⟩, ?_, (sf3.trans s5.sF).trans s6.sF, upd_same, ?_, t7, k4, p⟩
                · rw [upd_ne (fun q => by rw [q, k4] at ea; cases ea)]; exact st7.sub _ _ ea
                · rw [upd_ne (fun q => n (by rw [q]; exact t7))]; exact ea
                · refine (k1.less (T2 := add T7 (one L)) fun a => by have := l7 a; simp only [add]; omega).trans (Step.put ?_)
                  simp [add, one]
                · clear p
                  have : ∀ {xs : List V} {ys : List D}, Reps G F6 xs ys → Reps G F6 (xs ++ [v]) (ys ++ [dd]) := by
                    intro xs
                    induction xs with
                    | nil => intro ys h; cases h; exact .cons r6 .nil
                    | cons a xs ih => intro ys h; cases h with | cons h1 h2 => exact .cons h1 (ih h2)
                  exact this ra6
              · rw [if_neg hz] at p; exact p.elim
      rcases yd with ⟨e1, r⟩ | ⟨pp, vv, dd, e1, hp, e2, e3, r⟩
      · subst e1
        exact turn F2 H3 s2 st2 sf2 hl2 ra2 f2 (r.mono sf2)
      · subst e1 e2
        obtain ⟨st3, s3⟩ := st2.newF (o := .tup vv) hp
        have np : L ≠ pp := ne_of_none hl2 hp
        have tp : T2 pp = 0 := Decidable.byContradiction fun n => st2.there pp n hp
        have s3' : Step F2 H2 (add T2 (one L)) (upd F2 pp (.tup vv)) (upd H2 pp (.tup vv)) (add T2 (one L)) := Step.newF hp st2.sub (by simp only [add, one, if_neg (Ne.symm np)]; omega)
        refine turn _ _ (s2.trans s3') st3 (sf2.trans s3.sF) (by rw [upd_ne np]; exact hl2) (ra2.mono s3.sF) (by rw [upd_ne np]; exact f2) ?_
        rw [e3]
        exact .tup (.inl (.inl upd_same)) ((r.mono sf2).mono s3.sF)
  · rintro H2 ⟨F2, S2, T2, av, acc, st2, s2, sf2, hl2, ra2, t2, f2, p⟩
    rw [List.drop_length] at p
    have p : KE G F H σ T Q (.li .fz, .lst acc) (backS S0 S2 vs) := p
    obtain ⟨T3, st3, l3⟩ := back_slots st1 sf2 hc1 hc2 st2
    refine p (.ref L) F2 H2 T3 (add (one L) nil0) (s2.less fun a => by have := l3 a; simp only [add, nil0]; omega) st3 (.li hl2 (owns_fz ra2)) (fun a => ?_) fun a n => ?_
    · have l := l3 a
      simp only [add, nil0, one]
      split
      · rename_i q; rw [q] at l ⊢; omega
      · have := st2.le a; omega
    · simp only [add, nil0, one]
      split
      · rename_i q; rw [q] at n; exact absurd f2 n
      · rfl
theorem pins_ok {own : List (PySem.Str × Nat)} (h : (own.map (·.2)).all (fun v => !G.pk.contains v) = true) : ∀ v, v ∈ own.map (·.2) → v ∉ G.pk := fun v hv => pin_ok (by simpa using List.all_eq_true.mp h v hv)
theorem tr_lc {elt tg iter : Expr} {ifs : List Expr} {scope : Scope} {own : List (PySem.Str × Nat)} {pos : Pos} {it : It} {t : Tg} {c : T} {e : E} (C : Cok X G W k) (hi : TrI X G W tg iter it) (ok : BlkOk X.N X.env.scope scope own)
    (hg : ∀ (s : Shared) (H : Hp) (C : Addr) (cl : List (PySem.Str × Addr)) (fp : List Addr), TrG (X.blk s H scope (compEnvC scope cl C X.env) fp) G tg t)
    (ht : ∀ (s : Shared) (H : Hp) (C : Addr) (cl : List (PySem.Str × Addr)) (fp : List Addr), Cok (X.blk s H scope (compEnvC scope cl C X.env) fp) G W0 k → TrTs (X.blk s H scope (compEnvC scope cl C X.env) fp) G W0 ifs c)
    (he : ∀ (s : Shared) (H : Hp) (C : Addr) (cl : List (PySem.Str × Addr)) (fp : List Addr), Cok (X.blk s H scope (compEnvC scope cl C X.env) fp) G W0 k → TrE (X.blk s H scope (compEnvC scope cl C X.env) fp) G W0 elt e) (hs : ∀ x, foldedSetIterable iter X.env x = pure x := by intro _; rfl) (hpn : (own.map (·.2)).all (fun v => !G.pk.contains v) = true := by rfl) :
    TrE X G W (.ListComp elt [⟨tg, iter, ifs, 0⟩] scope pos) (eLc it t (own.map (·.2)) c e) := by
  obtain ⟨wi, p, d⟩ := hi
  have cb : ∀ (s : Shared) (H : Hp) (A : Addr) (cl : List (PySem.Str × Addr)) (fp : List Addr), Cok (X.blk s H scope (compEnvC scope cl A X.env) fp) G W0 k := fun s H A cl fp => ⟨C.hK, takes0, PassesOwn.never, C.calm, C.room, C.nd⟩
  exact ⟨_, pe_lc C.calm C.nd p ok (fun s H A cl fp => (hg s H A cl fp).can) (fun s H A cl fp => ht s H A cl fp (cb s H A cl fp)) (fun s H A cl fp => (he s H A cl fp (cb s H A cl fp)).can) hs, den_lc (pins_ok hpn) d⟩
/-- name = [..] on one line -/
theorem tr_setLc (i : Nat) {y : PySem.Str} {py : Pos} {elt tg iter : Expr} {ifs : List Expr} {scope : Scope} {own : List (PySem.Str × Nat)} {pos spos : Pos} {it : It} {t : Tg} {c : T} {e : E} (C : Cok X G W k) (hi : TrI X G W tg iter it) (ok : BlkOk X.N X.env.scope scope own)
    (hg : ∀ (s : Shared) (H : Hp) (C : Addr) (cl : List (PySem.Str × Addr)) (fp : List Addr), TrG (X.blk s H scope (compEnvC scope cl C X.env) fp) G tg t)
    (ht : ∀ (s : Shared) (H : Hp) (C : Addr) (cl : List (PySem.Str × Addr)) (fp : List Addr), Cok (X.blk s H scope (compEnvC scope cl C X.env) fp) G W0 k → TrTs (X.blk s H scope (compEnvC scope cl C X.env) fp) G W0 ifs c)
    (he : ∀ (s : Shared) (H : Hp) (C : Addr) (cl : List (PySem.Str × Addr)) (fp : List Addr), Cok (X.blk s H scope (compEnvC scope cl C X.env) fp) G W0 k → TrE (X.blk s H scope (compEnvC scope cl C X.env) fp) G W0 elt e)
    (hsw : swapsWith (.ListComp elt [⟨tg, iter, ifs, 0⟩] scope pos) (some (.Name y py)) spos.line X.env = pure true)
    (hy : X.N[i]? = some y := by rfl) (hyl : X.env.scope.names.lookup y = some .local := by rfl) (hs : ∀ x, foldedSetIterable iter X.env x = pure x := by intro _; rfl) (hpn : (own.map (·.2)).all (fun v => !G.pk.contains v) = true := by rfl) (hp : G.pk.contains i = false := by rfl) :
    TrS X G W (.Assign [.Name y py] (.ListComp elt [⟨tg, iter, ifs, 0⟩] scope pos) spos) (sSet i (eLc it t (own.map (·.2)) c e)) := by
  obtain ⟨wi, p, d⟩ := hi
  have cb : ∀ (s : Shared) (H : Hp) (A : Addr) (cl : List (PySem.Str × Addr)) (fp : List Addr), Cok (X.blk s H scope (compEnvC scope cl A X.env) fp) G W0 k := fun s H A cl fp => ⟨C.hK, takes0, PassesOwn.never, C.calm, C.room, C.nd⟩
  refine ⟨_, ps_setLc C.calm C.nd hy hyl hsw p ok (fun s H A cl fp => (hg s H A cl fp).can) (fun s H A cl fp => ht s H A cl fp (cb s H A cl fp)) (fun s H A cl fp => (he s H A cl fp (cb s H A cl fp)).can) hs, fun F H σ S T D st z => den_lc (W := W) (pins_ok hpn) d F H σ S T _ st (PRs.bind z fun kd S1 y => ?_)⟩
  obtain ⟨kk, dd⟩ := kd
  intro v F' H' T' f s' st' o le di
  show D.nx (σ.set i (some v)) H'
  have y : PRs G W F H T (KS G F H T D) (if i < S1.length then .ok .nx (S1.set i (some (kk, dd))) else .bad) := y
  by_cases hl : i < S1.length
  · rw [if_pos hl] at y
    obtain ⟨T2, st2, l2⟩ := st'.set hl (pin_ok hp) o le di
    exact (show KS G F H T D .nx _ from y) _ F' H' T2 (s'.less l2) st2
  · rw [if_neg hl] at y; exact y.elim
end
end TB

namespace TB
open PySem PyProof.Rows L2
/-! ### what a function promises -/
inductive Args (G : Cfg) (F H : Hp) : List KD → List V → Cnt → Prop
  | nil : Args G F H [] [] nil0
  | cons {k : Kd} {d : D} {v : V} {as : List KD} {vs : List V} {f g : Cnt} : Own G F H k v d f → Args G F H as vs g → Args G F H ((k, d) :: as) (v :: vs) (add f g)
/-- the owned arguments behind the call -/
inductive Outs (G : Cfg) (F H : Hp) : List KD → List V → List KD → Cnt → Prop
  | nil : Outs G F H [] [] [] nil0
  | skip {k : Kd} {d : D} {v : V} {as : List KD} {vs : List V} {os : List KD} {g : Cnt} : k.isF = true → Outs G F H as vs os g → Outs G F H ((k, d) :: as) (v :: vs) os g
  | own {k k' : Kd} {d d' : D} {v : V} {as : List KD} {vs : List V} {os : List KD} {f g : Cnt} : k.isF = false → k'.isF = false → Own G F H k' v d' f → Outs G F H as vs os g → Outs G F H ((k, d) :: as) (v :: vs) ((k', d') :: os) (add f g)
def spF (G : Cfg) (n : Nat) (fn : Fn) : Sp := fun vs H Q E => ∃ F T as, vs.length = n ∧ Same F H ∧ Args G F H as vs T ∧ (∀ a, T a ≤ 1) ∧ (∀ a, F a ≠ none → T a = 0) ∧ match fn as with
  | .ret r os => ∀ v F' H' T' f, Step F H T F' H' (add T' f) → Same F' H' → Outs G F' H' as vs os T' → Own G F' H' r.1 v r.2 f → (∀ a, T' a + f a ≤ 1) → (∀ a, F' a ≠ none → T' a + f a = 0) → Q v H'
  | .exc x os => ∀ cls dx F' H' T', Step F H T F' H' T' → Same F' H' → Outs G F' H' as vs os T' → (∀ a, T' a ≤ 1) → (∀ a, F' a ≠ none → T' a = 0) → ExcR G x cls dx H' → E cls dx H'
  | .bad => False
theorem Args.len {G : Cfg} {F H : Hp} {as : List KD} {vs : List V} {T : Cnt} (h : Args G F H as vs T) : as.length = vs.length := by
  induction h with
  | nil => rfl
  | cons _ _ ih => simp [ih]
theorem slots_none {G : Cfg} {F H : Hp} : ∀ n, Slots G F H (List.replicate n none) (List.replicate n none) nil0
  | 0 => .nil
  | n + 1 => by
    have : Slots G F H (none :: List.replicate n none) (none :: List.replicate n none) (add nil0 nil0) := .cons (.no none) (slots_none n)
    exact this
theorem Args.slots {G : Cfg} {F H : Hp} {as : List KD} {vs : List V} {T : Cnt} (h : Args G F H as vs T) (n : Nat) : Slots G F H (vs.map some ++ List.replicate n none) (as.map some ++ List.replicate n none) T := by
  induction h with
  | nil => exact slots_none n
  | cons o _ ih => exact .cons (.yes o) ih
theorem outs_of {G : Cfg} {F H : Hp} : ∀ {as : List KD} {vs : List V} {S : List Slot} {σ : L2.St} {T : Cnt} {os : List KD} (i : Nat), Slots G F H σ S T → (∀ j (h : j < vs.length), (match as[j]? with | some a => a.1.isF = false | none => False) → σ[j]? = some (some vs[j])) →
    as.length = vs.length → outsOf as S = some os → ∃ T', Outs G F H as vs os T' ∧ ∀ a, T' a ≤ T a
  | [], [], _, _, _, _, _, _, _, _, e => by
    unfold outsOf at e; cases e; exact ⟨nil0, .nil, fun a => Nat.zero_le _⟩
  | [], _ :: _, _, _, _, _, _, _, _, hl, _ => by simp at hl
  | _ :: _, [], _, _, _, _, _, _, _, hl, _ => by simp at hl
  | (k, d) :: as, v :: vs, S, σ, T, os, i, hs, hp, hl, e => by
    cases hs with
    | nil => unfold outsOf at e; cases e
    | @cons w s f g σ S h1 h2 =>
      unfold outsOf at e
      have hl' : as.length = vs.length := by simpa using hl
      have hp' : ∀ j (h : j < vs.length), (match as[j]? with | some a => a.1.isF = false | none => False) → σ[j]? = some (some vs[j]) := fun j h z => by
        have := hp (j + 1) (by simp; omega) (by simpa using z)
        simpa using this
      cases hk : k.isF with
      | true =>
        rw [hk, if_pos rfl] at e
        obtain ⟨T', o, l⟩ := outs_of (i + 1) h2 hp' hl' e
        exact ⟨T', .skip hk o, fun a => by have := l a; simp only [add]; omega⟩
      | false =>
        rw [hk, if_neg (by simp)] at e
        cases s with
        | none => cases e
        | some kd =>
          obtain ⟨k', d'⟩ := kd
          cases hk' : k'.isF with
          | true => simp [hk'] at e
          | false =>
            simp only [hk', Bool.false_eq_true, if_false] at e
            cases e2 : outsOf as S with
            | none => rw [e2] at e; cases e
            | some os2 =>
              rw [e2] at e
              cases e
              obtain ⟨T', o, l⟩ := outs_of (i + 1) h2 hp' hl' e2
              cases h1 with
              | @yes k1 v1 d1 f1 ow =>
                have := hp 0 (by simp) (by simpa using hk)
                have ev : v1 = v := by simpa using this
                subst ev
                exact ⟨add f T', .own hk hk' ow o, fun a => by have := l a; simp only [add]; omega⟩
theorem pinned_at : ∀ {pk : List Nat} {as : List KD} {i : Nat}, pinned pk i as = true → ∀ j, (match as[j]? with | some a => a.1.isF = false | none => False) → i + j ∈ pk
  | _, [], _, _, j, z => by simp at z
  | pk, (k, d) :: as, i, h, 0, z => by
    unfold pinned at h
    obtain ⟨h1, _⟩ := Bool.and_eq_true_iff.mp h
    have z : k.isF = false := by simpa using z
    rw [z, Bool.false_or] at h1
    simpa using h1
  | pk, (k, d) :: as, i, h, j + 1, z => by
    unfold pinned at h
    obtain ⟨_, h2⟩ := Bool.and_eq_true_iff.mp h
    have := pinned_at h2 j (by simpa using z)
    rw [show i + (j + 1) = i + 1 + j by omega]; exact this
/-- the pins of a body: the slots pk hold what they held at the start -/
def pinG (G : Cfg) (pk : List Nat) (σ : L2.St) : Cfgx := { G with pk := pk, pv := fun i => (σ[i]?).getD none }
abbrev cxF (P : Program) (w : World) (K : PySem.W.Frag) (mg : PySem.Str → Option Value) (base : Heap) (N : List PySem.Str) (qual : PySem.Str) (scope : Scope) (f : Addr) (cd : Value) (A : Around) (outer : List Env) (s : Shared) (H : Hp) (E : XK) : Cx := cxOf (L2.CX P w) P w K mg base N qual scope f cd A outer s H E
theorem cok_fn {P : Program} {w : World} {G : Cfg} {mg : PySem.Str → Option Value} {base : Heap} {N : List PySem.Str} {qual : PySem.Str} {scope : Scope} {f : Addr} {cd : Value} {A : Around} {outer : List Env} {s : Shared} {H : Hp} {E : XK} {k : Nat} {pk : List Nat} {σ : L2.St} (hk : scope.kind = .function) (nd : N.Nodup) (hr : Room k (A.deeper (envOfC qual scope s.heap.objs.size f cd))) :
    Cok (cxF P w G.K mg base N qual scope f cd A outer s H E) (pinG G pk σ) (fun cls d _ H' => E cls d H') k :=
  ⟨rfl, takes_of rfl rfl rfl rfl, passes_of rfl, rfl, hr, nd⟩
/-- THE RULE of a def -/
theorem fn_ok {P : Program} {w : World} {G : Cfg} {mg : PySem.Str → Option Value} {base : Heap} {x qual : PySem.Str} {params : Arguments} {body : List Stmt} {scope : Scope} {dvs : List V} {kws : List (PySem.Str × V)} {f : Addr} {fd : FuncData} {N ps : List PySem.Str} {k : Nat} {m : St} (pk : List Nat)
    (FD : FunD G.K x qual params body scope dvs kws f fd) (S : FnScope N ps scope) (hpk : pk.all (· < ps.length) = true)
    (hb : ∀ (cdv : Value) (A : Around) (outer : List Env) (s : Shared) (H : Hp) (E : XK) (σ : L2.St), Cok (cxF P w G.K mg base N qual scope f cdv A outer s H E) (pinG G pk σ) (fun cls d _ H' => E cls d H') k → TrSs (cxF P w G.K mg base N qual scope f cdv A outer s H E) (pinG G pk σ) (fun cls d _ H' => E cls d H') body m) :
    FnOk P w G.K mg base (L2.CX P w) (k + 1) f fd ps (spF G ps.length (runF N.length pk m)) := by
  refine FD.ok S (fun vs H Q E ⟨F, T, as, h, _⟩ => h) fun cdv A outer s H vs Q E hr ⟨F, T, as, hl, sub, ar, le, di, h⟩ => ?_
  obtain ⟨t, p, d⟩ := hb cdv A outer s H E (L2.start N vs) (cok_fn S.kind S.nd hr)
  refine ⟨t, p, ?_⟩
  have hal := ar.len
  unfold runF at h
  by_cases hp : pinned pk 0 as = true
  case neg => rw [if_neg hp] at h; exact h.elim
  rw [if_pos hp] at h
  have st : St' (pinG G pk (L2.start N vs)) F H (L2.start N vs) (as.map some ++ List.replicate (N.length - as.length) none) T := by
    refine ⟨fun i hi => ?_, sub, ?_, le, di⟩
    · have hlt : i < ps.length := by simpa using List.all_eq_true.mp hpk i hi
      have : (L2.start N vs)[i]? = some (some (vs[i]'(by omega))) := by
        unfold L2.start
        rw [List.getElem?_append_left (by simp; omega)]
        simp [hl, hlt]
      show (L2.start N vs)[i]? = some (((L2.start N vs)[i]?).getD none)
      rw [this]; rfl
    · unfold L2.start
      rw [← hal]
      exact ar.slots _
  have pinv : ∀ {F' H' : Hp} {σ' : L2.St} {S' : List Slot} {T' : Cnt}, St' (pinG G pk (L2.start N vs)) F' H' σ' S' T' → ∀ j (h : j < vs.length), (match as[j]? with | some a => a.1.isF = false | none => False) → σ'[j]? = some (some vs[j]) := fun st' j hj z => by
    have q := pinned_at hp j z
    rw [Nat.zero_add] at q
    have y := st'.pi j q
    rw [y]
    show some (((L2.start N vs)[j]?).getD none) = _
    unfold L2.start
    rw [List.getElem?_append_left (by simpa using hj)]
    simp [hj]
  refine d F H (L2.start N vs) _ T { nx := fun _ H' => Q .non H', rt := Q } st ?_
  cases e : m (as.map some ++ List.replicate (N.length - as.length) none) with
  | bad => rw [e] at h; exact h.elim
  | exc x S' =>
    rw [e] at h
    intro σ' cls dx F' H' T' s' st' ex
    cases eo : outsOf as S' with
    | none => simp only [eo] at h
    | some os =>
      simp only [eo] at h
      obtain ⟨T2, o2, l2⟩ := outs_of 0 st'.sl (pinv st') hal eo
      exact h cls dx F' H' T2 (s'.less l2) st'.sub o2 (fun a => Nat.le_trans (l2 a) (st'.le a)) (fun a n => by have := st'.di a n; have := l2 a; omega) ex
  | ok fl S' =>
    rw [e] at h
    cases fl with
    | bk => exact h.elim
    | ct => exact h.elim
    | nx =>
      have h : match frOf as (.fz, .non) S' with | .ret r os => _ | .exc x os => _ | .bad => False := h
      intro σ' F' H' T' s' st'
      unfold frOf at h
      cases eo : outsOf as S' with
      | none => simp only [eo] at h
      | some os =>
        simp only [eo] at h
        obtain ⟨T2, o2, l2⟩ := outs_of 0 st'.sl (pinv st') hal eo
        exact h .non F' H' T2 nil0 (s'.less l2) st'.sub o2 (.fz .non) (fun a => by have := l2 a; have := st'.le a; simp only [nil0]; omega) fun a n => by have := st'.di a n; have := l2 a; simp only [nil0]; omega
    | rt r =>
      have h : match frOf as r S' with | .ret r os => _ | .exc x os => _ | .bad => False := h
      intro v σ' F' H' T' f' s' st' o lo dd
      unfold frOf at h
      cases eo : outsOf as S' with
      | none => simp only [eo] at h
      | some os =>
        simp only [eo] at h
        obtain ⟨T2, o2, l2⟩ := outs_of 0 st'.sl (pinv st') hal eo
        exact h v F' H' T2 f' (s'.less fun a => by have := l2 a; simp only [add]; omega) st'.sub o2 o (fun a => by have := l2 a; have := lo a; omega) fun a n => by have := st'.di a n; have := dd a n; have := l2 a; omega
end TB

namespace TB
open PySem PyProof.Rows L2
/-! ### calls -/
inductive AVs (G : Cfg) (F H : Hp) (σ : L2.St) : List AV → List V → Cnt → Prop
  | nil : AVs G F H σ [] [] nil0
  | v {d : D} {x : V} {as : List AV} {vs : List V} {g : Cnt} : Rep G F x d → AVs G F H σ as vs g → AVs G F H σ (.v d :: as) (x :: vs) g
  | o {kd : KD} {x : V} {as : List AV} {vs : List V} {f g : Cnt} : kd.1.isF = false → Own G F H kd.1 x kd.2 f → AVs G F H σ as vs g → AVs G F H σ (.o kd :: as) (x :: vs) (add f g)
  | b {i : Nat} {x : V} {as : List AV} {vs : List V} {g : Cnt} : σ[i]? = some (some x) → AVs G F H σ as vs g → AVs G F H σ (.b i :: as) (x :: vs) g
theorem AVs.mono {G : Cfg} {F F' H H' : Hp} {σ : L2.St} {as : List AV} {vs : List V} {f : Cnt} (e : Same F F') (h : AVs G F H σ as vs f) (m : ∀ a o, f a ≠ 0 → H a = some o → H' a = some o) : AVs G F' H' σ as vs f := by
  induction h with
  | nil => exact .nil
  | v r _ ih => exact .v (r.mono e) (ih m)
  | o k o _ ih => exact .o k (o.mono e fun a u n => m a u (by simp only [add]; omega)) (ih fun a u n => m a u (by simp only [add]; omega))
  | b x _ ih => exact .b x (ih m)
theorem AVs.there {G : Cfg} {F H : Hp} {σ : L2.St} {as : List AV} {vs : List V} {f : Cnt} (h : AVs G F H σ as vs f) (a : Addr) (n : f a ≠ 0) : H a ≠ none := by
  induction h with
  | nil => exact absurd rfl n
  | v _ _ ih => exact ih n
  | @o _ _ _ _ f g _ o _ ih =>
    by_cases q : f a = 0
    · exact ih (by simp only [add] at n; omega)
    · exact o.there a q
  | b _ _ ih => exact ih n
def KAr (G : Cfgx) (F H : Hp) (σ : L2.St) (T : Cnt) (Q : List V → Hp → Prop) (as : List AV) (S' : List Slot) : Prop :=
  ∀ vs F' H' T' f, Step F H T F' H' (add T' f) → St' G F' H' σ S' T' → AVs G F' H' σ as vs f → (∀ a, T' a + f a ≤ 1) → (∀ a, F' a ≠ none → f a = 0) → Q vs H'
def DenAr (G : Cfgx) (W : WX) (t : TA) (m : M (List AV)) : Prop := ∀ F H σ S T Q, St' G F H σ S T → PR G W F H σ T (KAr G F H σ T Q) (m S) → t σ H Q
def TrAr (X : Cx) (G : Cfgx) (W : WX) (es : List Expr) (as : List Ar) : Prop := ∃ t, PA X es t ∧ DenAr G W t (arEv as)
section
variable {X : Cx} {G : Cfgx} {W : WX} {k : Nat}
theorem tar_nil : TrAr X G W [] [] := ⟨_, pa_nil, fun F H σ S T Q st p => (show KAr G F H σ T Q [] S from p) [] F H T nil0 ((Step.refl F H T).castR fun a => rfl) st .nil (fun a => st.le a) fun _ _ => rfl⟩
theorem tar_v {e : Expr} {es : List Expr} {m : E} {ms : List Ar} (h : TrE X G W e m) (r : TrAr X G W es ms) (hs : starEach (e :: es) X.env = (false, eval e X.env) :: starEach es X.env := by rfl) : TrAr X G W (e :: es) (.v m :: ms) := by
  obtain ⟨t, hp, hd⟩ := h
  obtain ⟨u, hq, hu⟩ := r
  refine ⟨_, pa_cons hp hq hs, fun F H σ S T Q st p => ?_⟩
  have p : PR G W F H σ T (KAr G F H σ T Q) ((eDat m S).bind fun d => M.bind (arEv ms) fun r => M.pure (.v d :: r)) := p
  refine hd.dat F H σ S T _ st (PR.bind p fun d S1 q => ?_)
  intro v F1 H1 T1 s1 st1 r1
  refine hu F1 H1 σ S1 T1 _ st1 (PR.bind (PR.re s1 (fun _ _ h => h) q) fun ds S2 q2 => ?_)
  intro vs F2 H2 T2 f2 s2 st2 r2 le2 di2
  have q2 : KAr G F H σ T Q (.v d :: ds) S2 := q2
  exact q2 (v :: vs) F2 H2 T2 f2 (s1.trans s2) st2 (.v (r1.mono s2.sF) r2) le2 di2
theorem tar_o {e : Expr} {es : List Expr} {m : E} {ms : List Ar} (h : TrE X G W e m) (r : TrAr X G W es ms) (hs : starEach (e :: es) X.env = (false, eval e X.env) :: starEach es X.env := by rfl) : TrAr X G W (e :: es) (.o m :: ms) := by
  obtain ⟨t, hp, hd⟩ := h
  obtain ⟨u, hq, hu⟩ := r
  refine ⟨_, pa_cons hp hq hs, fun F H σ S T Q st p => ?_⟩
  have p : PR G W F H σ T (KAr G F H σ T Q) ((m S).bind fun kd => M.bind (arEv ms) fun r => if kd.1.isF then fun _ => .bad else M.pure (.o kd :: r)) := p
  refine hd F H σ S T _ st (PR.bind p fun kd S1 q => ?_)
  intro v F1 H1 T1 f1 s1 st1 o1 le1 di1
  refine hu F1 H1 σ S1 T1 _ st1 (PR.bind (PR.re (s1.less (T2 := T1) fun a => by simp only [add]; omega) (fun _ _ h => h) q) fun ds S2 q2 => ?_)
  intro vs F2 H2 T2 f2 s2 st2 r2 le2 di2
  cases hk : kd.1.isF with
  | true => rw [hk, if_pos rfl] at q2; exact q2.elim
  | false =>
    rw [hk, if_neg (by simp)] at q2
    have q2 : KAr G F H σ T Q (.o kd :: ds) S2 := q2
    have th : ∀ a, f1 a ≠ 0 → H1 a ≠ none := fun a n => o1.there a n
    obtain ⟨b1, b2, b3⟩ := s2.frame le1 th
    refine q2 (v :: vs) F2 H2 T2 (add f1 f2) (s1.trans (b1.castR fun a => by simp only [add]; omega)) st2 (.o hk (o1.mono s2.sF b3) r2) (fun a => ?_) fun a n => ?_
    · by_cases z : f1 a = 0
      · have := le2 a; simp only [add]; omega
      · have y := b2 a z; have := le1 a; simp only [add] at y ⊢; omega
    · by_cases z : f1 a = 0
      · have := di2 a n; simp only [add]; omega
      · have y := b2 a z
        exfalso
        by_cases w : F1 a = none
        · rcases s2.nF a w n with u | u | u
          · exact th a z u
          · have := le1 a; omega
          · exact o1.noT a z u
        · exact z (di1 a w)
theorem tar_b (i : Nat) {x : PySem.Str} {pos : Pos} {es : List Expr} {ms : List Ar} (r : TrAr X G W es ms) (hN : X.N[i]? = some x := by rfl) (hv : Vis X.env.scope x := by first | exact Or.inl rfl | exact Or.inr (Or.inl rfl) | exact Or.inr (Or.inr rfl)) (hd : (x == ("__debug__" : PySem.Str)) = false := by decide)
    (hcd : (x == ("__classdict__" : PySem.Str)) = false := by decide) (hs : starEach (.Name x pos :: es) X.env = (false, eval (.Name x pos) X.env) :: starEach es X.env := by rfl) : TrAr X G W (.Name x pos :: es) (.b i :: ms) := by
  obtain ⟨u, hq, hu⟩ := r
  refine ⟨_, pa_cons (pe_var hN hv hd hcd) hq hs, fun F H σ S T Q st p => ?_⟩
  unfold arEv at p
  cases e : S[i]? with
  | none => simp only [e] at p; exact p.elim
  | some s =>
    cases s with
    | none => simp only [e] at p; exact p.elim
    | some kd =>
      simp only [e] at p
      obtain ⟨kk, d⟩ := kd
      obtain ⟨v, f, hv, _⟩ := st.sl.var e
      have p : PR G W F H σ T (KAr G F H σ T Q) ((arEv ms S).bind fun r => M.pure (.b i :: r)) := p
      refine ⟨v, hv, hu F H σ S T _ st (PR.bind p fun ds S2 q2 => ?_)⟩
      intro vs F2 H2 T2 f2 s2 st2 r2 le2 di2
      exact (show KAr G F H σ T Q (.b i :: ds) S2 from q2) (v :: vs) F2 H2 T2 f2 s2 st2 (.b hv r2) le2 di2
end
/-- which arguments are owned -/
inductive AKs : List AV → List KD → Prop
  | nil : AKs [] []
  | v {d : D} {as : List AV} {ks : List KD} : AKs as ks → AKs (.v d :: as) ((.fz, d) :: ks)
  | o {kd : KD} {as : List AV} {ks : List KD} : kd.1.isF = false → AKs as ks → AKs (.o kd :: as) (kd :: ks)
  | b {i : Nat} {kd : KD} {as : List AV} {ks : List KD} : kd.1.isF = false → AKs as ks → AKs (.b i :: as) (kd :: ks)
theorem ar_in {G : Cfg} {F H : Hp} {σ : L2.St} {avs : List AV} {vs : List V} {f : Cnt} (h : AVs G F H σ avs vs f) : ∀ {S S1 : List Slot} {T : Cnt} {ks : List KD}, Slots G F H σ S T → arIn avs S = some (ks, S1) →
    ∃ Ta Tr, Args G F H ks vs Ta ∧ Slots G F H σ S1 Tr ∧ AKs avs ks ∧ ∀ a, Ta a + Tr a ≤ T a + f a := by
  induction h with
  | nil =>
    intro S S1 T ks st e
    unfold arIn at e
    cases e
    exact ⟨nil0, T, .nil, st, .nil, fun a => by simp only [nil0]; omega⟩
  | @v d x as vs g r _ ih =>
    intro S S1 T ks st e
    unfold arIn at e
    cases e1 : arIn as S with
    | none => rw [e1] at e; cases e
    | some q =>
      rw [e1] at e
      cases e
      obtain ⟨Ta, Tr, h1, h2, h3, h4⟩ := ih st e1
      exact ⟨add nil0 Ta, Tr, .cons (.fz r) h1, h2, .v h3, fun a => by have := h4 a; simp only [add, nil0]; omega⟩
  | @o kd x as vs f g hk o _ ih =>
    intro S S1 T ks st e
    unfold arIn at e
    cases e1 : arIn as S with
    | none => rw [e1] at e; cases e
    | some q =>
      rw [e1] at e
      cases e
      obtain ⟨Ta, Tr, h1, h2, h3, h4⟩ := ih st e1
      exact ⟨add f Ta, Tr, .cons o h1, h2, .o hk h3, fun a => by have := h4 a; simp only [add]; omega⟩
  | @b i x as vs g hx _ ih =>
    intro S S1 T ks st e
    unfold arIn at e
    cases es : S[i]? with
    | none => simp only [es] at e; cases e
    | some s =>
      cases s with
      | none => simp only [es] at e; cases e
      | some kd =>
        simp only [es] at e
        cases hk : kd.1.isF with
        | true => rw [hk, if_pos rfl] at e; cases e
        | false =>
          rw [hk, if_neg (by simp)] at e
          obtain ⟨v0, f0, T0, ht, hv, ho, back⟩ := st.at es
          cases e1 : arIn as (S.set i none) with
          | none => rw [e1] at e; cases e
          | some q =>
            rw [e1] at e
            cases e
            have st2 := back F H (some x) none nil0 (Same.refl F) (fun _ _ _ h => h) (.no _)
            have e2 : σ.set i (some x) = σ := by
              obtain ⟨hi, q1⟩ := List.getElem?_eq_some_iff.mp hx
              rw [← q1, List.set_getElem_self]
            rw [e2] at st2
            obtain ⟨Ta, Tr, h1, h2, h3, h4⟩ := ih st2 e1
            rw [hx] at hv
            cases hv
            cases ho with
            | yes o => exact ⟨add f0 Ta, Tr, .cons o h1, h2, .b hk h3, fun a => by have := h4 a; have := ht a; simp only [add, nil0] at *; omega⟩
theorem ar_out {G : Cfg} {F H F0 H0 : Hp} {σ : L2.St} {avs : List AV} {vs : List V} {f : Cnt} (h : AVs G F0 H0 σ avs vs f) : ∀ {S1 S2 : List Slot} {Tr To : Cnt} {ks os : List KD}, AKs avs ks → Outs G F H ks vs os To → Slots G F H σ S1 Tr → arOut avs os S1 = some S2 →
    ∃ T2, Slots G F H σ S2 T2 ∧ ∀ a, T2 a ≤ To a + Tr a := by
  induction h with
  | nil =>
    intro S1 S2 Tr To ks os ak ou st e
    cases ak
    cases ou
    unfold arOut at e
    cases e
    exact ⟨Tr, st, fun a => by simp only [nil0]; omega⟩
  | v r _ ih =>
    intro S1 S2 Tr To ks os ak ou st e
    cases ak with
    | v ak =>
      cases ou with
      | skip _ ou => unfold arOut at e; exact ih ak ou st e
      | own h => cases h
  | o hk o _ ih =>
    intro S1 S2 Tr To ks os ak ou st e
    cases ak with
    | o hk ak =>
      cases ou with
      | skip h _ => rw [hk] at h; cases h
      | own _ _ o2 ou =>
        unfold arOut at e
        obtain ⟨T2, s2, l2⟩ := ih ak ou st e
        exact ⟨T2, s2, fun a => by have := l2 a; simp only [add]; omega⟩
  | @b i x as vs g hx _ ih =>
    intro S1 S2 Tr To ks os ak ou st e
    cases ak with
    | b hk ak =>
      cases ou with
      | skip h _ => rw [hk] at h; cases h
      | @own _ k' _ d' _ _ _ _ f1 g1 _ hk' o2 ou =>
        unfold arOut at e
        by_cases hi : i < S1.length
        · obtain ⟨v0, f0, T0, ht, hv, ho, back⟩ := st.at (List.getElem?_eq_getElem hi)
          have st2 := back F H (some x) (some (k', d')) f1 (Same.refl F) (fun _ _ _ h => h) (.yes o2)
          have e2 : σ.set i (some x) = σ := by
            obtain ⟨hi, q1⟩ := List.getElem?_eq_some_iff.mp hx
            rw [← q1, List.set_getElem_self]
          rw [e2] at st2
          obtain ⟨T2, s2, l2⟩ := ih ak ou st2 e
          exact ⟨T2, s2, fun a => by have := l2 a; have := ht a; simp only [add] at *; omega⟩
        · rw [List.set_eq_of_length_le (by omega)] at e
          obtain ⟨T2, s2, l2⟩ := ih ak ou st e
          exact ⟨T2, s2, fun a => by have := l2 a; simp only [add]; omega⟩
/-- the arguments stand, the callee is asked, what it leaves comes back -/
theorem call_core {G : Cfgx} {W : WX} {F H F1 H1 : Hp} {σ : L2.St} {T T1 f : Cnt} {S1 : List Slot} {avs : List AV} {vs : List V} {Q : VK} {fn : Fn} {n : Nat} (hn : ∀ ks, AKs avs ks → vs.length = n)
    (s1 : Step F H T F1 H1 (add T1 f)) (st1 : St' G F1 H1 σ S1 T1) (av : AVs G F1 H1 σ avs vs f) (le1 : ∀ a, T1 a + f a ≤ 1) (di1 : ∀ a, F1 a ≠ none → f a = 0)
    (h : PR G W F H σ T (KE G F H σ T Q) (match arIn avs S1 with
      | none => .bad
      | some (ks, S1) => match fn ks with
        | .ret r os => (match arOut avs os S1 with | some S2 => .ok r S2 | none => .bad)
        | .exc x os => (match arOut avs os S1 with | some S2 => .exc x S2 | none => .bad)
        | .bad => .bad)) : spF G n fn vs H1 Q (WE W σ) := by
  cases e : arIn avs S1 with
  | none => rw [e] at h; exact h.elim
  | some q =>
    obtain ⟨ks, S2⟩ := q
    rw [e] at h
    obtain ⟨Ta, Tr, h1, h2, h3, h4⟩ := ar_in av st1.sl e
    have le : ∀ a, Ta a + Tr a ≤ 1 := fun a => Nat.le_trans (h4 a) (le1 a)
    have di : ∀ a, F1 a ≠ none → Ta a + Tr a = 0 := fun a n => by have := h4 a; have := st1.di a n; have := di1 a n; omega
    have th : ∀ a, Tr a ≠ 0 → H1 a ≠ none := fun a n => h2.there a n
    have nt : ∀ a, Tr a ≠ 0 → ¬ TupAt (H1 a) := fun a n => h2.noT a n
    have base : Step F H T F1 H1 (add Ta Tr) := s1.less fun a => by have := h4 a; simp only [add]; omega
    refine ⟨F1, Ta, ks, hn ks h3, st1.sub, h1, fun a => by have := le a; omega, fun a n => by have := di a n; omega, ?_⟩
    cases hf : fn ks with
    | bad => simp only [hf] at h; exact h.elim
    | ret r os =>
      simp only [hf] at h
      cases ho : arOut avs os S2 with
      | none => simp only [ho] at h; exact h.elim
      | some S3 =>
        simp only [ho] at h
        have h : KE G F H σ T Q r S3 := h
        intro v F2 H2 To f2 s2 sub2 ou o2 le2 di2
        obtain ⟨b1, b2, b3⟩ := s2.frame le th
        obtain ⟨T3, sl3, l3⟩ := ar_out av h3 ou (h2.mono s2.sF b3) ho
        have tz : ∀ a, Tr a ≠ 0 → To a = 0 ∧ f2 a = 0 := fun a n => by have := b2 a n; simp only [add] at this; omega
        have fz : ∀ a, Tr a ≠ 0 → F2 a = none := fun a n => Decidable.byContradiction fun w => by
          by_cases u : F1 a = none
          · rcases s2.nF a u w with z | z | z
            · exact th a n z
            · have := le a; omega
            · exact nt a n z
          · have := di a u; omega
        have le3 : ∀ a, T3 a + f2 a ≤ 1 := fun a => by
          have := l3 a
          by_cases z : Tr a = 0
          · have := le2 a; omega
          · have := tz a z; have := le a; omega
        refine h v F2 H2 T3 f2 (base.trans (b1.less fun a => by have := l3 a; simp only [add]; omega)) ⟨st1.pi, sub2, sl3, fun a => by have := le3 a; omega, fun a n => ?_⟩ o2 le3 fun a n => by have := di2 a n; omega
        have := l3 a
        by_cases z : Tr a = 0
        · have := di2 a n; omega
        · exact absurd (fz a z) n
    | exc x os =>
      simp only [hf] at h
      cases ho : arOut avs os S2 with
      | none => simp only [ho] at h; exact h.elim
      | some S3 =>
        simp only [ho] at h
        have h : PX G W F H σ T x S3 := h
        intro cls dx F2 H2 To s2 sub2 ou le2 di2 ex
        obtain ⟨b1, b2, b3⟩ := s2.frame le th
        obtain ⟨T3, sl3, l3⟩ := ar_out av h3 ou (h2.mono s2.sF b3) ho
        have tz : ∀ a, Tr a ≠ 0 → To a = 0 := fun a n => b2 a n
        have fz : ∀ a, Tr a ≠ 0 → F2 a = none := fun a n => Decidable.byContradiction fun w => by
          by_cases u : F1 a = none
          · rcases s2.nF a u w with z | z | z
            · exact th a n z
            · have := le a; omega
            · exact nt a n z
          · have := di a u; omega
        refine h cls dx F2 H2 T3 (base.trans (b1.less fun a => by have := l3 a; simp only [add]; omega)) ⟨st1.pi, sub2, sl3, fun a => ?_, fun a n => ?_⟩ ex
        · have := l3 a
          by_cases z : Tr a = 0
          · have := le2 a; omega
          · have := tz a z; have := le a; omega
        · have := l3 a
          by_cases z : Tr a = 0
          · have := di2 a n; omega
          · exact absurd (fz a z) n
theorem avs_len {G : Cfg} {F H : Hp} {σ : L2.St} {avs : List AV} {vs : List V} {f : Cnt} (h : AVs G F H σ avs vs f) : vs.length = avs.length := by
  induction h with
  | nil => rfl
  | v _ _ ih => simp [ih]
  | o _ _ _ ih => simp [ih]
  | b _ _ ih => simp [ih]
theorem arEv_len : ∀ (as : List Ar) (S S' : List Slot) (avs : List AV), arEv as S = .ok avs S' → avs.length = as.length
  | [], S, S', avs, h => by unfold arEv at h; cases h; rfl
  | .v e :: as, S, S', avs, h => by
    unfold arEv at h
    have h : (eDat e S).bind (fun d => M.bind (arEv as) fun r => M.pure (.v d :: r)) = .ok avs S' := h
    cases q : eDat e S with
    | ok d S1 =>
      rw [q] at h
      have h : (arEv as S1).bind (fun r => M.pure (.v d :: r)) = .ok avs S' := h
      cases q1 : arEv as S1 with
      | ok r S2 => rw [q1] at h; cases h; simp [arEv_len as _ _ _ q1]
      | exc x S2 => rw [q1] at h; cases h
      | bad => rw [q1] at h; cases h
    | exc x S1 => rw [q] at h; cases h
    | bad => rw [q] at h; cases h
  | .o e :: as, S, S', avs, h => by
    unfold arEv at h
    have h : (e S).bind (fun kd => M.bind (arEv as) fun r => if kd.1.isF then fun _ => .bad else M.pure (.o kd :: r)) = .ok avs S' := h
    cases q : e S with
    | ok kd S1 =>
      rw [q] at h
      have h : (arEv as S1).bind (fun r => if kd.1.isF then fun _ => .bad else M.pure (.o kd :: r)) = .ok avs S' := h
      cases q1 : arEv as S1 with
      | ok r S2 =>
        rw [q1] at h
        have h : (if kd.1.isF then (fun _ => .bad : M (List AV)) else M.pure (.o kd :: r)) S2 = .ok avs S' := h
        cases hk : kd.1.isF with
        | true => rw [hk, if_pos rfl] at h; cases h
        | false => rw [hk, if_neg (by simp)] at h; cases h; simp [arEv_len as _ _ _ q1]
      | exc x S2 => rw [q1] at h; cases h
      | bad => rw [q1] at h; cases h
    | exc x S1 => rw [q] at h; cases h
    | bad => rw [q] at h; cases h
  | .b i :: as, S, S', avs, h => by
    unfold arEv at h
    cases e : S[i]? with
    | none => simp only [e] at h; cases h
    | some s =>
      cases s with
      | none => simp only [e] at h; cases h
      | some kd =>
        simp only [e] at h
        have h : (arEv as S).bind (fun r => M.pure (.b i :: r)) = .ok avs S' := h
        cases q1 : arEv as S with
        | ok r S2 => rw [q1] at h; cases h; simp [arEv_len as _ _ _ q1]
        | exc x S2 => rw [q1] at h; cases h
        | bad => rw [q1] at h; cases h
section
variable {X : Cx} {G : Cfgx} {W : WX} {k : Nat}
theorem den_call {fn : Fn} {n : Nat} {ms : List Ar} {t : TA} (hn : ms.length = n) (h : DenAr G W t (arEv ms)) : DenE G W (tCallS (spF G n fn) (WE W) t) (eCall fn ms) := fun F H σ S T Q st p => by
  refine h F H σ S T _ st ?_
  have p : PR G W F H σ T (KE G F H σ T Q) ((arEv ms S).bind _) := p
  cases e : arEv ms S with
  | bad => rw [e] at p; exact p.elim
  | exc x S1 => rw [e] at p; exact p
  | ok avs S1 =>
    rw [e] at p
    intro vs F1 H1 T1 f s1 st1 av le1 di1
    exact call_core (fun ks _ => by rw [avs_len av, arEv_len ms S S1 avs e, hn]) s1 st1 av le1 di1 p
theorem tr_call {fn : Fn} {f : Addr} {fd : FuncData} {ps : List PySem.Str} {x : PySem.Str} {p pos : Pos} {e : Expr} {es : List Expr} {ms : List Ar} (C : Cok X G W k) (F : FnOk X.prog X.w X.K X.mg X.base (L2.CX X.prog X.w) k f fd ps (spF G ps.length fn)) (hm : X.mg x = some (.ref f)) (hk : PySem.W.keepIn X.K (.ref f) = true) (hb : Binds X.K fd ps [])
    (ha : TrAr X G W (e :: es) ms) (hn : ms.length = ps.length := by rfl) (hg : Gl X x := by rfl) (hdb : (x == ("__debug__" : PySem.Str)) = false := by decide) (he : starEach (e :: es) X.env = (false, eval e X.env) :: starEach es X.env := by rfl) (hpl : (backTo pos (starEach es X.env)).any (·.1) = false := by rfl) :
    TrE X G W (.Call (.Name x p) (e :: es) [] pos) (eCall fn ms) := by
  obtain ⟨t, pa, da⟩ := ha
  exact ⟨_, pe_callS F C.room hg hm hk hb (fun σ => passAt C.tk σ) pa hdb he hpl, den_call hn da⟩
end
end TB

namespace TB
open PySem PyProof.Rows L2
theorem orR {X : Cx} {f : Value → Value → Sem Value} {r r' : R2} (h : OpR X f r) (h' : OpR X f r') : OpR X f (fun x y H Q => r x y H Q ∨ r' x y H Q) := by
  intro pins s σ H x y v u Q I rx ry q
  rcases q with q | q
  · exact h pins s σ H x y v u Q I rx ry q
  · exact h' pins s σ H x y v u Q I rx ry q
theorem sl_eq : sizeLine = sizeMax := rfl
theorem str_len (z : PySem.Str) : z.length = z.cps.toList.length := by simp [PySem.Str.length]
section
variable {X : Cx} {G : Cfgx} {W : WX} {k : Nat} {F H : Hp} {σ : L2.St} {S : List Slot} {T : Cnt}
theorem rep_tupN {F F' : Hp} {p : Addr} {vs : List V} {ds : List D} (e : F' p = some (.tup vs)) (r : Reps G F' vs ds) : Rep G F' (.ref p) (.tup ds) := .tup (.inl (.inl e)) r
/-- a new tuple of what is represented -/
theorem KE.newT {Q : VK} {vs : List V} {ds : List D} {S : List Slot} (h : KE G F H σ T Q (.fz, .tup ds) S) (st : St' G F H σ S T) (r : Reps G F vs ds) (p : Addr) (hp : H p = none) : Q (.ref p) (upd H p (.tup vs)) :=
  KE.newF h st (fun p => by
    by_cases n : F p = none
    · exact .inl (.tup (.inl (.inl upd_same)) (r.mono fun a u e => by rw [upd_ne (ne_of_none e n)]; exact e))
    · exact .inr n) p hp
theorem Reps.app {F : Hp} : ∀ {xs ys : List V} {as bs : List D}, Reps G F xs as → Reps G F ys bs → Reps G F (xs ++ ys) (as ++ bs)
  | _, _, _, _, .nil, h => h
  | _, _, _, _, .cons r s, h => .cons r (Reps.app s h)
theorem Reps.get {F : Hp} : ∀ {xs : List V} {as : List D} {n : Nat} {d : D}, Reps G F xs as → as[n]? = some d → ∃ v, xs[n]? = some v ∧ Rep G F v d
  | _, _, n, d, .nil, h => by simp at h
  | _, _, 0, d, .cons r s, h => by
    have e := Option.some.inj (show some _ = some d from h)
    exact ⟨_, rfl, e ▸ r⟩
  | _, _, n + 1, d, .cons r s, h => by
    obtain ⟨v, h1, h2⟩ := Reps.get (n := n) s (by simpa using h)
    exact ⟨v, by simpa using h1, h2⟩
theorem Reps.drop {F : Hp} : ∀ {xs : List V} {as : List D} (n : Nat), Reps G F xs as → Reps G F (xs.drop n) (as.drop n)
  | _, _, 0, h => h
  | _, _, _ + 1, .nil => .nil
  | _, _, n + 1, .cons _ s => Reps.drop n s
theorem Reps.take {F : Hp} : ∀ {xs : List V} {as : List D} (n : Nat), Reps G F xs as → Reps G F (xs.take n) (as.take n)
  | _, _, 0, h => .nil
  | _, _, _ + 1, .nil => .nil
  | _, _, n + 1, .cons r s => .cons r (Reps.take n s)
theorem Reps.rep {F : Hp} {xs : List V} {as : List D} (h : Reps G F xs as) : ∀ n : Nat, Reps G F (List.replicate n xs).flatten (List.replicate n as).flatten
  | 0 => by simp; exact .nil
  | n + 1 => by simp only [List.replicate_succ, List.flatten_cons]; exact h.app (h.rep n)
theorem Reps.set {F : Hp} {v : V} {d : D} (r : Rep G F v d) : ∀ {xs : List V} {as : List D} (n : Nat), Reps G F xs as → Reps G F (xs.set n v) (as.set n d)
  | _, _, _, .nil => .nil
  | _, _, 0, .cons _ s => .cons r s
  | _, _, n + 1, .cons q s => .cons q (Reps.set r n s)
theorem Reps.erase {F : Hp} : ∀ {xs : List V} {as : List D} (n : Nat), Reps G F xs as → Reps G F (xs.eraseIdx n) (as.eraseIdx n)
  | _, _, _, .nil => .nil
  | _, _, 0, .cons _ s => s
  | _, _, n + 1, .cons q s => .cons q (Reps.erase n s)
theorem Reps.ins {F : Hp} {v : V} {d : D} (r : Rep G F v d) : ∀ {xs : List V} {as : List D} (n : Nat), Reps G F xs as → Reps G F (xs.insertIdx n v) (as.insertIdx n d)
  | _, _, 0, h => by simp only [List.insertIdx_zero]; exact .cons r h
  | _, _, n + 1, .nil => by simp; exact .nil
  | _, _, n + 1, .cons q s => by simp only [List.insertIdx_succ_cons]; exact .cons q (Reps.ins r n s)
theorem Reps.rev {F : Hp} : ∀ {xs : List V} {as : List D}, Reps G F xs as → Reps G F xs.reverse as.reverse
  | _, _, .nil => .nil
  | _, _, .cons r s => by simp only [List.reverse_cons]; exact (Reps.rev s).app (.cons r .nil)

/-! ### + - * // % ** -/
theorem cls_add (hK : X.K = G.K) : ∃ r, OpR X (binaryOp .Add) r ∧ S2 G r fAdd := by
  refine ⟨_, orR op_add (orR op_add_str (orR op_cat op_catA)), fun F H σ S T x y dx dy kd Q st rx ry e k => ?_⟩
  cases rx <;> cases ry <;> simp only [fAdd, kz, reduceCtorEq] at e
  · cases e; exact .inl ⟨_, _, rfl, rfl, KE.val k st (.int _)⟩
  · rename_i z w
    split at e
    · rename_i hz
      cases e
      refine .inr (.inl ⟨z, w, rfl, rfl, by rw [str_len, str_len]; exact hz, KE.val k st ?_⟩)
      have := Rep.str (G := G) (F := F) (z ++ w)
      have e2 : (z ++ w).cps.toList = z.cps.toList ++ w.cps.toList := by
        show (z.cps ++ w.cps).toList = _
        simp
      rw [e2] at this
      exact this
    · cases e
  · rename_i a xs as h1 r1 b ys bs h2 r2
    split at e
    · rename_i hz
      cases e
      refine .inr (.inr (.inr ⟨a, b, xs, ys, rfl, rfl, hK ▸ same_t st.sub h1, hK ▸ same_t st.sub h2, by rw [r1.len, r2.len]; exact hz, fun q => ?_, fun q1 q2 => ?_, fun q1 q2 p hp => ?_⟩))
      · subst q
        cases r1
        exact KE.val k st (.tup h2 r2)
      · subst q2
        cases r2
        rw [List.append_nil] at k
        exact KE.val k st (.tup h1 r1)
      · exact KE.newT k st (r1.app r2) p hp
    · cases e
  · rename_i a xs as h1 r1 b ys bs h2 r2
    split at e
    · rename_i hz
      cases e
      exact .inr (.inr (.inl ⟨a, b, xs, ys, rfl, rfl, st.sub _ _ h1, st.sub _ _ h2, by rw [r1.len, r2.len]; exact hz, fun p hp => KE.newL k st (r1.app r2) p hp⟩))
    · cases e
theorem cls_sub : ∃ r, OpR X (binaryOp .Sub) r ∧ S2 G r fSub := by
  refine ⟨_, op_sub, fun F H σ S T x y dx dy kd Q st rx ry e k => ?_⟩
  cases rx <;> cases ry <;> simp only [fSub, kz, reduceCtorEq] at e
  cases e; exact ⟨_, _, rfl, rfl, KE.val k st (.int _)⟩
theorem log_small {i : Int} (h : small i) : i.natAbs.log2 < 1000 := PySem.Flt.log2_lt_of (by decide) (Nat.lt_of_lt_of_le h (by decide +kernel))
theorem cls_mul (hK : X.K = G.K) : ∃ r, OpR X (binaryOp .Mult) r ∧ S2 G r fMul := by
  refine ⟨_, orR op_mulW (orR op_rep op_repT), fun F H σ S T x y dx dy kd Q st rx ry e k => ?_⟩
  cases rx <;> cases ry <;> simp only [fMul, kz, reduceCtorEq] at e
  · split at e
    · rename_i hz
      cases e
      exact .inl ⟨_, _, rfl, rfl, by have := log_small hz.1; have := log_small hz.2; unfold CMulW; omega, KE.val k st (.int _)⟩
    · cases e
  · rename_i a xs as h1 r1 j
    split at e
    · rename_i hz
      cases e
      refine .inr (.inr ⟨a, j, xs, rfl, rfl, hK ▸ same_t st.sub h1, fun q => ?_, hz.2.1, by have := hz.2.2.1; omega, by rw [r1.len]; exact hz.2.2.2, fun p hp => KE.newT k st (r1.rep _) p hp⟩)
      subst q
      cases r1
      exact hz.1 rfl
    · cases e
  · rename_i a xs as h1 r1 j
    split at e
    · rename_i hz
      cases e
      refine .inr (.inl ⟨a, j, xs, rfl, rfl, st.sub _ _ h1, by omega, by omega, ?_, fun p hp => KE.newL k st (r1.rep _) p hp⟩)
      rw [r1.len]
      have : as.length * j.toNat ≤ 1000 * 1000 := Nat.mul_le_mul hz.2.2 (by omega)
      have : sizeLine = 16777216 := rfl
      omega
    · cases e
theorem cls_mod : ∃ r, OpR X (binaryOp .Mod) r ∧ S2 G r fMod := by
  refine ⟨_, op_mod, fun F H σ S T x y dx dy kd Q st rx ry e k => ?_⟩
  cases rx <;> cases ry <;> simp only [fMod, kz, reduceCtorEq] at e
  split at e
  · rename_i hz; cases e; exact ⟨_, _, rfl, rfl, hz, KE.val k st (.int _)⟩
  · cases e
theorem cls_div : ∃ r, OpR X (binaryOp .FloorDiv) r ∧ S2 G r fDiv := by
  refine ⟨_, op_fdivW, fun F H σ S T x y dx dy kd Q st rx ry e k => ?_⟩
  cases rx <;> cases ry <;> simp only [fDiv, kz, reduceCtorEq] at e
  split at e
  · rename_i hz; cases e; exact ⟨_, _, rfl, rfl, ⟨hz.1, by have := log_small hz.2; omega⟩, KE.val k st (.int _)⟩
  · cases e
theorem cls_pow : ∃ r, OpR X (binaryOp .Pow) r ∧ S2 G r fPow := by
  refine ⟨_, op_pow, fun F H σ S T x y dx dy kd Q st rx ry e k => ?_⟩
  cases rx <;> cases ry <;> simp only [fPow, kz, reduceCtorEq] at e
  split at e
  · rename_i hz; cases e; exact ⟨_, _, rfl, rfl, ⟨hz.1, by have := hz.2.1; omega, hz.2.2⟩, KE.val k st (.int _)⟩
  · cases e
/-! ### order -/
theorem cls_lt : ∃ r, OpR X (compareOp .Lt) r ∧ S2 G r fLt := by
  refine ⟨_, orR op_lt op_lt_str, fun F H σ S T x y dx dy kd Q st rx ry e k => ?_⟩
  cases rx <;> cases ry <;> simp only [fLt, kz, reduceCtorEq] at e <;> cases e
  · exact .inl ⟨_, _, rfl, rfl, KE.val k st (.bl _)⟩
  · exact .inr ⟨_, _, rfl, rfl, KE.val k st (.bl _)⟩
theorem cls_le : ∃ r, OpR X (compareOp .LtE) r ∧ S2 G r fLe := by
  refine ⟨_, orR op_le op_le_str, fun F H σ S T x y dx dy kd Q st rx ry e k => ?_⟩
  cases rx <;> cases ry <;> simp only [fLe, kz, reduceCtorEq] at e <;> cases e
  · exact .inl ⟨_, _, rfl, rfl, KE.val k st (.bl _)⟩
  · exact .inr ⟨_, _, rfl, rfl, KE.val k st (.bl _)⟩
theorem cls_gt : ∃ r, OpR X (compareOp .Gt) r ∧ S2 G r fGt := by
  refine ⟨_, orR op_gt op_gt_str, fun F H σ S T x y dx dy kd Q st rx ry e k => ?_⟩
  cases rx <;> cases ry <;> simp only [fGt, kz, reduceCtorEq] at e <;> cases e
  · exact .inl ⟨_, _, rfl, rfl, KE.val k st (.bl _)⟩
  · exact .inr ⟨_, _, rfl, rfl, KE.val k st (.bl _)⟩
theorem cls_ge : ∃ r, OpR X (compareOp .GtE) r ∧ S2 G r fGe := by
  refine ⟨_, orR op_ge op_ge_str, fun F H σ S T x y dx dy kd Q st rx ry e k => ?_⟩
  cases rx <;> cases ry <;> simp only [fGe, kz, reduceCtorEq] at e <;> cases e
  · exact .inl ⟨_, _, rfl, rfl, KE.val k st (.bl _)⟩
  · exact .inr ⟨_, _, rfl, rfl, KE.val k st (.bl _)⟩
/-! ### x[i] -/
theorem atI_of {α : Type} {xs : List α} {i : Int} {n : Nat} {v : α} (h : normIx xs.length i = some n) (e : xs[n]? = some v) : atI xs i = some v := by
  have h2 : ixN xs.length i = some n := h
  unfold atI
  rw [h2]; exact e
theorem cls_ix (hK : X.K = G.K) : ∃ r, IxR X r ∧ S2 G r fIx := by
  refine ⟨_, ix_seq, fun F H σ S T x y dx dy kd Q st rx ry e k => ?_⟩
  cases rx <;> cases ry <;> simp only [fIx, kz, reduceCtorEq] at e
  · rename_i z i
    split at e
    · rename_i hz
      cases h1 : normIx z.cps.toList.length i with
      | none => rw [h1] at e; cases e
      | some n =>
        rw [h1] at e
        have e : (z.cps.toList[n]?.bind fun c => some ((Kd.fz, D.str [c]) : KD)) = some kd := e
        cases h2 : z.cps.toList[n]? with
        | none => rw [h2] at e; cases e
        | some c =>
          rw [h2] at e
          cases e
          exact .inr (.inr ⟨z, i, c, rfl, rfl, by rw [str_len]; exact hz, atI_of h1 h2, KE.val k st (.str ⟨#[c]⟩)⟩)
    · cases e
  · rename_i a xs as h1 r1 i
    cases h2 : normIx as.length i with
    | none => rw [h2] at e; cases e
    | some n =>
      rw [h2] at e
      have e : (as[n]?.bind fun d => some ((Kd.fz, d) : KD)) = some kd := e
      cases h3 : as[n]? with
      | none => rw [h3] at e; cases e
      | some d =>
        rw [h3] at e
        cases e
        obtain ⟨v, h4, h5⟩ := r1.get h3
        exact .inr (.inl ⟨a, xs, i, v, rfl, rfl, hK ▸ same_t st.sub h1, atI_of (n := n) (by rw [r1.len]; exact h2) h4, KE.val k st h5⟩)
  · rename_i a ns h1 i
    cases h2 : normIx ns.length i with
    | none => rw [h2] at e; cases e
    | some n =>
      rw [h2] at e
      have e : (ns[n]?.bind fun j => some ((Kd.fz, D.int j) : KD)) = some kd := e
      cases h3 : ns[n]? with
      | none => rw [h3] at e; cases e
      | some j =>
        rw [h3] at e
        cases e
        exact .inl ⟨a, _, i, .int j, rfl, rfl, hK ▸ same_l st.sub h1, atI_of (n := n) (by rw [List.length_map]; exact h2) (by simp [h3]), KE.val k st (.int j)⟩
  · rename_i a xs as h1 r1 i
    cases h2 : normIx as.length i with
    | none => rw [h2] at e; cases e
    | some n =>
      rw [h2] at e
      have e : (as[n]?.bind fun d => some ((Kd.fz, d) : KD)) = some kd := e
      cases h3 : as[n]? with
      | none => rw [h3] at e; cases e
      | some d =>
        rw [h3] at e
        cases e
        obtain ⟨v, h4, h5⟩ := r1.get h3
        exact .inl ⟨a, xs, i, v, rfl, rfl, .inl (.inl (st.sub _ _ h1)), atI_of (n := n) (by rw [r1.len]; exact h2) h4, KE.val k st h5⟩
/-! ### is -/
theorem cls_isN : ∃ r, OpR X (compareOp .Is) r ∧ S2 G r fIsN := by
  refine ⟨_, op_isN, fun F H σ S T x y dx dy kd Q st rx ry e k => ?_⟩
  cases ry <;> simp only [fIsN, kz, reduceCtorEq] at e
  refine ⟨rfl, ?_⟩
  cases rx <;> cases e <;> exact KE.val k st (.bl _)
theorem cls_notN : ∃ r, OpR X (compareOp .IsNot) r ∧ S2 G r fNotN := by
  refine ⟨_, op_notN, fun F H σ S T x y dx dy kd Q st rx ry e k => ?_⟩
  cases ry <;> simp only [fNotN, kz, reduceCtorEq] at e
  refine ⟨rfl, ?_⟩
  cases rx <;> cases e <;> exact KE.val k st (.bl _)
theorem cls_isB : ∃ r, OpR X (compareOp .Is) r ∧ S2 G r fIsB := by
  refine ⟨_, op_isBl, fun F H σ S T x y dx dy kd Q st rx ry e k => ?_⟩
  cases rx <;> cases ry <;> simp only [fIsB, kz, reduceCtorEq] at e
  cases e; exact ⟨_, _, rfl, rfl, KE.val k st (.bl _)⟩
theorem cls_notB : ∃ r, OpR X (compareOp .IsNot) r ∧ S2 G r fNotB := by
  refine ⟨_, op_notBl, fun F H σ S T x y dx dy kd Q st rx ry e k => ?_⟩
  cases rx <;> cases ry <;> simp only [fNotB, kz, reduceCtorEq] at e
  cases e; exact ⟨_, _, rfl, rfl, KE.val k st (.bl _)⟩
/-! ### built-in functions -/
theorem sn1 {r : List V → Hp → VK → Prop} {f : List D → Option KD} : True := trivial
theorem cls_len (hK : X.K = G.K) : ∃ r, CallR X (.builtin "len") r ∧ SN G r fLen := by
  refine ⟨_, call_len, fun F H σ S T xs ds kd Q st rs e k => ?_⟩
  cases rs with
  | nil => simp [fLen] at e
  | cons r1 r2 =>
    cases r2 with
    | cons _ _ => cases r1 <;> simp [fLen] at e
    | nil =>
      cases r1 <;> simp only [fLen, kz, reduceCtorEq] at e
      · rename_i z
        split at e
        · rename_i hz
          cases e
          exact ⟨_, z.length, rfl, ⟨by rw [str_len]; exact hz, rfl⟩, by rw [str_len]; exact KE.val k st (.int _)⟩
        · cases e
      · rename_i a xs as h1 r1
        cases e
        exact ⟨_, as.length, rfl, .inr ⟨_, hK ▸ same_t st.sub h1, by rw [r1.len]⟩, KE.val k st (.int _)⟩
      · rename_i a ns h1
        cases e
        exact ⟨_, ns.length, rfl, .inl ⟨_, hK ▸ same_l st.sub h1, by rw [List.length_map]⟩, KE.val k st (.int _)⟩
      · rename_i a xs as h1 r1
        cases e
        exact ⟨_, as.length, rfl, .inl ⟨_, .inl (.inl (st.sub _ _ h1)), by rw [r1.len]⟩, KE.val k st (.int _)⟩
theorem cls_intB : ∃ r, CallR X (.type "int") r ∧ SN G r fIntB := by
  refine ⟨_, call_int1, fun F H σ S T xs ds kd Q st rs e k => ?_⟩
  cases rs with
  | nil => simp [fIntB] at e
  | cons r1 r2 =>
    cases r2 with
    | cons _ _ => cases r1 <;> simp [fIntB] at e
    | nil =>
      cases r1 <;> simp only [fIntB, kz, reduceCtorEq] at e <;> cases e
      · exact .inr ⟨_, rfl, KE.val k st (.int _)⟩
      · exact .inl ⟨_, rfl, KE.val k st (.int _)⟩
theorem cls_min2 (hc : X.calm = true) : ∃ r, CallR X (.builtin "min") r ∧ SN G r fMin2 := by
  refine ⟨_, call_min2 hc, fun F H σ S T xs ds kd Q st rs e k => ?_⟩
  rcases rs with _ | ⟨r1, _ | ⟨r2, _ | ⟨r3, r4⟩⟩⟩
  · simp [fMin2] at e
  · cases r1 <;> simp [fMin2] at e
  · cases r1 <;> cases r2 <;> simp only [fMin2, kz, reduceCtorEq] at e
    cases e; exact ⟨_, _, rfl, KE.val k st (.int _)⟩
  · cases r1 <;> cases r2 <;> simp [fMin2] at e
theorem cls_max2 (hc : X.calm = true) : ∃ r, CallR X (.builtin "max") r ∧ SN G r fMax2 := by
  refine ⟨_, call_max2 hc, fun F H σ S T xs ds kd Q st rs e k => ?_⟩
  rcases rs with _ | ⟨r1, _ | ⟨r2, _ | ⟨r3, r4⟩⟩⟩
  · simp [fMax2] at e
  · cases r1 <;> simp [fMax2] at e
  · cases r1 <;> cases r2 <;> simp only [fMax2, kz, reduceCtorEq] at e
    cases e; exact ⟨_, _, rfl, KE.val k st (.int _)⟩
  · cases r1 <;> cases r2 <;> simp [fMax2] at e
theorem reps_keys {F : Hp} : ∀ {kvs : List (Key × V)} {ks : List D}, ks = kvs.map (fun p => keyD p.1) → Reps G F (kvs.map fun p => kV p.1) ks
  | [], _, h => by subst h; exact .nil
  | (k, v) :: r, _, h => by
    subst h
    refine .cons ?_ (reps_keys rfl)
    cases k with
    | inl i => exact .int i
    | inr z => exact .str z
theorem cls_list (hK : X.K = G.K) (hc : X.calm = true) : ∃ r, CallR X (.type "list") r ∧ SN G r fList := by
  refine ⟨_, call_list_of.or (call_listD hc), fun F H σ S T xs ds kd Q st rs e k => ?_⟩
  rcases rs with _ | ⟨r1, _ | ⟨r2, r3⟩⟩
  · simp [fList] at e
  · cases r1 <;> simp only [fList, kz, reduceCtorEq] at e <;> cases e
    · rename_i a xs as h1 r1
      exact .inl ⟨a, xs, rfl, .inr (hK ▸ same_t st.sub h1), fun p hp => KE.newL k st r1 p hp⟩
    · rename_i a xs as h1 r1
      exact .inl ⟨a, xs, rfl, .inl (.inl (.inl (st.sub _ _ h1))), fun p hp => KE.newL k st r1 p hp⟩
    · rename_i a kvs kds h1 hk r1
      exact .inr ⟨a, kvs, rfl, same_rd st.sub h1, fun p hp => KE.newL k st (reps_keys hk) p hp⟩
  · cases r1 <;> simp [fList] at e
theorem cls_tuple (hK : X.K = G.K) : ∃ r, CallR X (.type "tuple") r ∧ SN G r fTuple := by
  refine ⟨_, call_tuple_of, fun F H σ S T xs ds kd Q st rs e k => ?_⟩
  rcases rs with _ | ⟨r1, _ | ⟨r2, r3⟩⟩
  · simp [fTuple] at e
  · cases r1 <;> simp only [fTuple, kz, reduceCtorEq] at e <;> cases e
    · rename_i a xs as h1 r1
      exact ⟨a, xs, rfl, .inr ⟨hK ▸ same_t st.sub h1, KE.val k st (.tup h1 r1)⟩⟩
    · rename_i a xs as h1 r1
      exact ⟨a, xs, rfl, .inl ⟨.inl (.inl (st.sub _ _ h1)), fun p hp => KE.newT k st r1 p hp⟩⟩
  · cases r1 <;> simp [fTuple] at e
theorem bools_of {F : Hp} : ∀ {xs : List V} {ds : List D} {bs : List Bool}, Reps G F xs ds → boolsOf ds = some bs → xs = bs.map V.bl
  | _, _, _, .nil, h => by cases h; rfl
  | _, _, bs, .cons r s, h => by
    cases r <;> simp only [boolsOf, reduceCtorEq] at h
    rename_i b
    cases q : boolsOf _ with
    | none => rw [q] at h; cases h
    | some l => rw [q] at h; cases h; rw [bools_of s q]; rfl
theorem cls_all (hK : X.K = G.K) (hc : X.calm = true) : ∃ r, CallR X (.builtin "all") r ∧ SN G r fAllB := by
  refine ⟨_, cr_all hc, fun F H σ S T xs ds kd Q st rs e k => ?_⟩
  rcases rs with _ | ⟨r1, _ | ⟨r2, r3⟩⟩
  · simp [fAllB] at e
  · cases r1 <;> simp only [fAllB, kz, reduceCtorEq] at e
    rename_i a xs as h1 r1
    cases q : boolsOf as with
    | none => rw [q] at e; cases e
    | some bs =>
      rw [q] at e
      cases e
      exact ⟨a, bs, rfl, .inl (.inl (by rw [← bools_of r1 q]; exact st.sub _ _ h1)), KE.val k st (.bl _)⟩
  · cases r1 <;> simp [fAllB] at e
/-! ### in, for one sign in a text -/
theorem one_sign {z : PySem.Str} {c : Nat} (h : z.cps.toList = [c]) : z = ⟨#[c]⟩ := by
  cases z with
  | mk a =>
    have : a = #[c] := by
      apply Array.toList_inj.mp
      exact h
    rw [this]
theorem cls_inS : ∃ r, OpR X (compareOp .In) r ∧ S2 G r fInS := by
  refine ⟨_, op_in_sign, fun F H σ S T x y dx dy kd Q st rx ry e k => ?_⟩
  cases rx <;> cases ry <;> try (simp [fInS] at e; done)
  rename_i z w
  cases q : z.cps.toList with
  | nil => rw [q] at e; simp [fInS] at e
  | cons c l =>
    cases l with
    | cons a b => rw [q] at e; simp [fInS] at e
    | nil =>
      rw [q] at e
      simp only [fInS, kz] at e
      cases e
      exact ⟨c, w, by rw [one_sign q], rfl, KE.val k st (.bl _)⟩
theorem cls_notInS : ∃ r, OpR X (compareOp .NotIn) r ∧ S2 G r fNotInS := by
  refine ⟨_, op_notIn_sign, fun F H σ S T x y dx dy kd Q st rx ry e k => ?_⟩
  cases rx <;> cases ry <;> try (simp [fNotInS] at e; done)
  rename_i z w
  cases q : z.cps.toList with
  | nil => rw [q] at e; simp [fNotInS] at e
  | cons c l =>
    cases l with
    | cons a b => rw [q] at e; simp [fNotInS] at e
    | nil =>
      rw [q] at e
      simp only [fNotInS, kz] at e
      cases e
      exact ⟨c, w, by rw [one_sign q], rfl, KE.val k st (.bl _)⟩
end
end TB

namespace TB
open PySem PySem.Spec PyProof.Rows L2
/-! ### what a for walks -/
section
variable {X : Cx} {G : Cfgx} {W : WX} {k : Nat}
theorem walkD_list {F : Hp} {K : PySem.W.Frag} {a : Addr} {vs : List V} {ds : List D} (h : ∀ H, Same F H → SqL K H a vs) (r : Reps G F vs ds) : WalkD G F (Itl K a) ds := by
  refine ⟨YAt vs, ?_, fun i H x H' d e y => ?_⟩
  · rw [← r.len]
    exact walk_list.mono (fun H s => h H s) fun i H x H' hi s y => y
  · obtain ⟨v, h1, h2⟩ := r.get e
    obtain ⟨e1, e2⟩ := y
    rw [h1] at e2
    cases e2
    exact .inl ⟨e1, h2⟩
theorem walkD_tup {F : Hp} {K : PySem.W.Frag} {a : Addr} {vs : List V} {ds : List D} (h : ∀ H, Same F H → SqT K H a vs) (r : Reps G F vs ds) : WalkD G F (Itt K a) ds := by
  refine ⟨YAt vs, ?_, fun i H x H' d e y => ?_⟩
  · rw [← r.len]
    exact walk_tup.mono (fun H s => h H s) fun i H x H' hi s y => y
  · obtain ⟨v, h1, h2⟩ := r.get e
    obtain ⟨e1, e2⟩ := y
    rw [h1] at e2
    cases e2
    exact .inl ⟨e1, h2⟩
theorem walkD_rng {F : Hp} {lo : Int} {n : Nat} : WalkD G F (L2.Itr lo n) (rangeL lo n) := by
  refine ⟨YFn fun i => .int (lo + i), ?_, fun i H x H' d e y => ?_⟩
  · have : (rangeL lo n).length = n := by simp [rangeL]
    rw [this]
    exact walk_range.mono (fun H s => trivial) fun i H x H' hi s y => y
  · obtain ⟨e1, e2⟩ := y
    subst e2
    unfold rangeL at e
    by_cases hi : i < n
    · have : d = .int (lo + (i : Int)) := by
        rw [List.getElem?_map, List.getElem?_range hi] at e
        exact (Option.some.inj e).symm
      subst this
      exact .inl ⟨e1, .int _⟩
    · rw [List.getElem?_eq_none (by simp; omega)] at e; cases e
theorem walkD_str {F : Hp} {z : PySem.Str} : WalkD G F (L2.Its z) (z.cps.toList.map fun c => D.str [c]) := by
  refine ⟨fun i H v H' => H' = H ∧ ∃ c, z.cps[i]? = some c ∧ v = .str ⟨#[c]⟩, ?_, fun i H x H' d e y => ?_⟩
  · have : (z.cps.toList.map fun c => D.str [c]).length = z.cps.size := by simp
    rw [this]
    exact walk_str.mono (fun H s => trivial) fun i H x H' hi s y => y
  · obtain ⟨e1, c, hc, e2⟩ := y
    subst e2
    have : d = .str [c] := by
      rw [List.getElem?_map, Array.getElem?_toList, hc] at e
      exact (Option.some.inj e).symm
    subst this
    exact .inl ⟨e1, .str ⟨#[c]⟩⟩
/-- a list or a tuple, by what comes -/
def iSeq (K : PySem.W.Frag) (tl : TE) : TI := fun σ H R => tl σ H fun x H1 => (∃ a, x = .ref a ∧ (∃ xs, SqL K H1 a xs) ∧ R (Itl K a) H1) ∨ (∃ a, x = .ref a ∧ (∃ xs, SqT K H1 a xs) ∧ R (Itt K a) H1)
theorem pi_seq {tg l : Expr} {tl : TE} (hl : PE X l tl) : PI X tg l (iSeq X.K tl) := by
  refine ⟨fun pins s σ H R I h => ?_⟩
  refine thn (hl.run pins s σ H _ I h) fun v s1 ⟨x, H1, I1, r1, q1⟩ => ?_
  rcases q1 with ⟨a, e, ⟨xs, hq⟩, q⟩ | ⟨a, e, ⟨xs, hq⟩, q⟩
  · subst e
    cases r1
    obtain ⟨its, rv, p, hz⟩ := I1.list hq
    refine wpAny_pyIter_list p.isList ?_
    refine ⟨s1.heap.objs.size, [s1.heap.objs.size], _, _, H1, rfl, I1.kept (t' := s1.toks) fun b o e => Heap.get?_push_of_some _ e, turn_list a _, ⟨_, Heap.get?_push_size _ rfl, rfl, rfl⟩, fun b hb => ?_, q⟩
    have e : b = s1.heap.objs.size := by simpa using hb
    subst e
    exact I1.fpOk (Nat.le_refl _) (I1.hok.fresh (Nat.le_refl _))
  · subst e
    cases r1
    obtain ⟨its, rv, p, hz⟩ := I1.tuple hq
    refine wpAny_pyIter_tuple (show s1.heap.IsTuple a its.toArray from p) ?_
    refine ⟨s1.heap.objs.size, [s1.heap.objs.size], _, _, H1, rfl, I1.kept (t' := s1.toks) fun b o e => Heap.get?_push_of_some _ e, turn_tuple a _, ⟨_, Heap.get?_push_size _ rfl, rfl, rfl⟩, fun b hb => ?_, q⟩
    have e : b = s1.heap.objs.size := by simpa using hb
    subst e
    exact I1.fpOk (Nat.le_refl _) (I1.hok.fresh (Nat.le_refl _))
theorem ti_seq {tg e : Expr} {m : E} (C : Cok X G W k) (h : TrE X G W e m) : TrI X G W tg e (itSeq m) := by
  obtain ⟨t, p, d⟩ := h
  refine ⟨_, pi_seq p, fun F H σ S T R st z => d.dat F H σ S T _ st (PR.bind z fun dd S1 y => ?_)⟩
  intro v F1 H1 T1 s1 st1 r1
  cases r1 with
  | @tup a vs ds hq rs =>
    have y : KI G F H σ T R ds S1 := y
    exact .inr ⟨a, rfl, ⟨vs, C.hK ▸ same_t st1.sub hq⟩, y _ F1 H1 T1 s1 st1 (walkD_tup (fun H s => C.hK ▸ same_t s hq) rs)⟩
  | @lst a vs ds hq rs =>
    have y : KI G F H σ T R ds S1 := y
    exact .inl ⟨a, rfl, ⟨vs, .inl (.inl (st1.sub _ _ hq))⟩, y _ F1 H1 T1 s1 st1 (walkD_list (fun H s => .inl (.inl (s _ _ hq))) rs)⟩
  | _ => exact y.elim
theorem ti_str {tg e : Expr} {m : E} (h : TrE X G W e m) : TrI X G W tg e (itStr m) := by
  obtain ⟨t, p, d⟩ := h
  refine ⟨_, pi_str p, fun F H σ S T R st z => d.dat F H σ S T _ st (PR.bind z fun dd S1 y => ?_)⟩
  intro v F1 H1 T1 s1 st1 r1
  cases r1 with
  | str z =>
    have y : KI G F H σ T R (z.cps.toList.map fun c => D.str [c]) S1 := y
    exact ⟨z, rfl, y _ F1 H1 T1 s1 st1 walkD_str⟩
  | _ => exact y.elim
theorem ti_range1 {tg a : Expr} {m : E} {p pos : Pos} (h : TrE X G W a m) (hm : X.mg "range" = none) (hg : Gl X "range" := by rfl) (hs : starEach [a] X.env = [(false, eval a X.env)] := by rfl) : TrI X G W tg (.Call (.Name "range" p) [a] [] pos) (itRange1 m) := by
  obtain ⟨t, pa, d⟩ := h
  refine ⟨_, pi_range1 hg hm (pa_cons pa pa_nil hs) hs, fun F H σ S T R st z => d.dat F H σ S T _ st (PR.bind z fun dd S1 y => ?_)⟩
  intro v F1 H1 T1 s1 st1 r1
  cases r1 with
  | int j =>
    have y : PR G W F H σ T (KI G F H σ T R) ((if j.natAbs < limN then M.pure (rangeL 0 j.toNat) else fun _ => .bad) S1) := y
    by_cases hj : j.natAbs < limN
    · rw [if_pos hj] at y
      have y : KI G F H σ T R (rangeL 0 j.toNat) S1 := y
      have l : limN = 4611686018427387904 := rfl
      exact ⟨j, rfl, by omega, by omega, y _ F1 H1 T1 s1 st1 walkD_rng⟩
    · rw [if_neg hj] at y; exact y.elim
  | _ => exact y.elim
theorem ti_range2 {tg a b : Expr} {m n : E} {p pos : Pos} (h : TrE X G W a m) (h2 : TrE X G W b n) (hm : X.mg "range" = none) (hg : Gl X "range" := by rfl) (hs : starEach [a, b] X.env = [(false, eval a X.env), (false, eval b X.env)] := by rfl) (hs2 : starEach [b] X.env = [(false, eval b X.env)] := by rfl) : TrI X G W tg (.Call (.Name "range" p) [a, b] [] pos) (itRange2 m n) := by
  obtain ⟨t, pa, d⟩ := h
  obtain ⟨u, pb, d2⟩ := h2
  refine ⟨_, pi_range2 hg hm (pa_cons pa (pa_cons pb pa_nil hs2) (by rw [hs, hs2])) hs hs2, fun F H σ S T R st z => d.dat F H σ S T _ st (PR.bind z fun dd S1 y => ?_)⟩
  intro v F1 H1 T1 s1 st1 r1
  refine d2.dat F1 H1 σ S1 T1 _ st1 (PR.bind (PR.re s1 (fun _ _ h => h) y) fun d2 S2 y => ?_)
  intro v2 F2 H2 T2 s2 st2 r2
  cases r1 with
  | int i =>
    cases r2 with
    | int j =>
      have y : PR G W F1 H1 σ T1 (KI G F H σ T R) ((if i.natAbs < limN ∧ j.natAbs < limN then M.pure (rangeL i (j - i).toNat) else fun _ => .bad) S2) := y
      by_cases hj : i.natAbs < limN ∧ j.natAbs < limN
      · rw [if_pos hj] at y
        have y : KI G F H σ T R (rangeL i (j - i).toNat) S2 := y
        have l : limN = 4611686018427387904 := rfl
        exact ⟨i, j, rfl, by omega, y _ F2 H2 T2 (s1.trans s2) st2 walkD_rng⟩
      · rw [if_neg hj] at y; exact y.elim
    | _ => exact y.elim
  | _ => exact y.elim
end
end TB

namespace TB
open PySem PyProof.Rows L2
/-! ### == -/
mutual
def toPy : D → PyData
  | .non => .none
  | .bl b => .bool b
  | .int i => .int i
  | .str s => .str ⟨s.toArray⟩
  | .lst xs => .list (toPys xs)
  | .tup xs => .tuple (toPys xs)
  | _ => .none
def toPys : List D → List PyData
  | [] => []
  | x :: xs => toPy x :: toPys xs
end
mutual
theorem eqv_py : ∀ (n m : Nat) (x y : D), x.lay n = true → y.lay m = true → PyData.eqv (toPy x) (toPy y) = D.eqv x y := by
  intro n m x y hx hy
  cases x with
  | non => cases y <;> first | (simp [D.lay] at hy; done) | simp [toPy, PyData.eqv, D.eqv]
  | bl a => cases y <;> first | (simp [D.lay] at hy; done) | simp [toPy, PyData.eqv, D.eqv]
  | int i => cases y <;> first | (simp [D.lay] at hy; done) | simp [toPy, PyData.eqv, D.eqv]
  | str s =>
    cases y with
    | str t =>
      simp only [toPy, PyData.eqv, D.eqv]
      by_cases e : s = t
      · subst e; simp
      · rw [beq_eq_false_iff_ne.mpr e]
        refine beq_eq_false_iff_ne.mpr fun q => e ?_
        have : s.toArray = t.toArray := congrArg PySem.Str.cps q
        simpa using this
    | _ => first | (simp [D.lay] at hy; done) | simp [toPy, PyData.eqv, D.eqv]
  | lst xs =>
    cases n with
    | zero => simp [D.lay] at hx
    | succ n =>
      cases y with
      | lst ys =>
        cases m with
        | zero => simp [D.lay] at hy
        | succ m =>
          simp only [toPy, PyData.eqv, D.eqv]
          exact eqv_pys n m xs ys (by simpa [D.lay] using hx) (by simpa [D.lay] using hy)
      | _ => first | (simp [D.lay] at hy; done) | simp [toPy, PyData.eqv, D.eqv]
  | tup xs =>
    cases n with
    | zero => simp [D.lay] at hx
    | succ n =>
      cases y with
      | tup ys =>
        cases m with
        | zero => simp [D.lay] at hy
        | succ m =>
          simp only [toPy, PyData.eqv, D.eqv]
          exact eqv_pys n m xs ys (by simpa [D.lay] using hx) (by simpa [D.lay] using hy)
      | _ => first | (simp [D.lay] at hy; done) | simp [toPy, PyData.eqv, D.eqv]
  | _ => simp [D.lay] at hx
theorem eqv_pys : ∀ (n m : Nat) (xs ys : List D), D.lays n xs = true → D.lays m ys = true → PyData.eqvAll (toPys xs) (toPys ys) = D.eqvs xs ys
  | _, _, [], [], _, _ => rfl
  | _, _, [], _ :: _, _, _ => rfl
  | _, _, _ :: _, [], _, _ => rfl
  | n, m, x :: xs, y :: ys, hx, hy => by
    unfold D.lays at hx hy
    obtain ⟨h1, h2⟩ := Bool.and_eq_true_iff.mp hx
    obtain ⟨h3, h4⟩ := Bool.and_eq_true_iff.mp hy
    simp only [toPys, PyData.eqvAll, D.eqvs]
    rw [eqv_py n m x y h1 h3, eqv_pys n m xs ys h2 h4]
end
mutual
theorem lay_py : ∀ (n : Nat) (x : D), x.lay n = true → (toPy x).canLay0 = true ∧ (toPy x).depth ≤ n := by
  intro n x hx
  cases x with
  | str s =>
    refine ⟨?_, Nat.zero_le _⟩
    simp only [toPy, PyData.canLay0]
    have : s.all (· < 1114112) = true := by cases n <;> simpa [D.lay] using hx
    show (s.toArray.all (· < 0x110000)) = true
    simpa using this
  | lst xs =>
    cases n with
    | zero => simp [D.lay] at hx
    | succ n =>
      obtain ⟨a, b⟩ := lays_py n xs (by simpa [D.lay] using hx)
      exact ⟨by simpa [toPy, PyData.canLay0] using a, by simp only [toPy, PyData.depth]; omega⟩
  | tup xs =>
    cases n with
    | zero => simp [D.lay] at hx
    | succ n =>
      obtain ⟨a, b⟩ := lays_py n xs (by simpa [D.lay] using hx)
      exact ⟨by simpa [toPy, PyData.canLay0] using a, by simp only [toPy, PyData.depth]; omega⟩
  | non => exact ⟨rfl, Nat.zero_le _⟩
  | bl b => exact ⟨rfl, Nat.zero_le _⟩
  | int i => exact ⟨rfl, Nat.zero_le _⟩
  | _ => simp [D.lay] at hx
theorem lays_py : ∀ (n : Nat) (xs : List D), D.lays n xs = true → PyData.canLayAll0 (toPys xs) = true ∧ PyData.depthAll (toPys xs) ≤ n
  | _, [], _ => ⟨rfl, Nat.zero_le _⟩
  | n, x :: xs, h => by
    unfold D.lays at h
    obtain ⟨h1, h2⟩ := Bool.and_eq_true_iff.mp h
    obtain ⟨a, b⟩ := lay_py n x h1
    obtain ⟨c, d⟩ := lays_py n xs h2
    exact ⟨by simp [toPys, PyData.canLayAll0, a, c], by simp only [toPys, PyData.depthAll]; omega⟩
end
section
variable {X : Cx} {G : Cfgx} {W : WX} {k : Nat} {F H : Hp} {σ : L2.St} {S : List Slot} {T : Cnt}
mutual
theorem dp_of : ∀ (n : Nat) (d : D) (v : V), d.lay n = true → Rep G F v d → Dp G.K F v (toPy d)
  | n, d, v, hl, r => by
    cases r with
    | non => exact .non
    | bl b => exact .bl b
    | int i => exact .int i
    | str z =>
      have e : toPy (.str z.cps.toList) = .str z := by simp [toPy]
      rw [e]; exact .str z
    | tup h rs =>
      cases n with
      | zero => simp [D.lay] at hl
      | succ n => exact .tup h (dps_of n _ _ (by simpa [D.lay] using hl) rs)
    | lst h rs =>
      cases n with
      | zero => simp [D.lay] at hl
      | succ n => exact .lst (.inl (.inl h)) (dps_of n _ _ (by simpa [D.lay] using hl) rs)
    | _ => simp [D.lay] at hl
theorem dps_of : ∀ (n : Nat) (ds : List D) (vs : List V), D.lays n ds = true → Reps G F vs ds → DpAll G.K F vs (toPys ds)
  | n, [], vs, hl, r => by cases r; exact .nil
  | n, d :: ds, vs, hl, r => by
    unfold D.lays at hl
    obtain ⟨h1, h2⟩ := Bool.and_eq_true_iff.mp hl
    cases r with
    | cons a b => exact .cons (dp_of n d _ h1 a) (dps_of n ds _ h2 b)
end
theorem flat_lay {d : D} (h : d.flat = true) (hs : ∀ s, d ≠ .str s) : d.lay 0 = true := by
  cases d <;> first | rfl | (cases h; done) | exact absurd rfl (hs _)
theorem eq_core (hK : X.K = G.K) {x y : V} {dx dy : D} (st : St' G F H σ S T) (rx : Rep G F x dx) (ry : Rep G F y dy) (h : eqOk dx dy = true) :
    (L2.scal x y = true ∧ decide (x = y) = D.eqv dx dy) ∨ ∃ d e, Dp X.K H x d ∧ Dp X.K H y e ∧ SeqAt.shaped d = true ∧ SeqAt.shaped e = true ∧ PyData.eqv d e = D.eqv dx dy := by
  have deep : ∀ n m, n ≤ 64 → m ≤ 64 → dx.lay n = true → dy.lay m = true → ∃ d e, Dp X.K H x d ∧ Dp X.K H y e ∧ SeqAt.shaped d = true ∧ SeqAt.shaped e = true ∧ PyData.eqv d e = D.eqv dx dy := by
    intro n m hn hm h1 h2
    have q1 := lay_py n dx h1
    have q2 := lay_py m dy h2
    refine ⟨toPy dx, toPy dy, ?_, ?_, ?_, ?_, eqv_py n m dx dy h1 h2⟩
    · rw [hK]; exact dp_of n dx x h1 (rx.mono st.sub)
    · rw [hK]; exact dp_of m dy y h2 (ry.mono st.sub)
    · exact Bool.and_eq_true_iff.mpr ⟨q1.1, decide_eq_true (by omega)⟩
    · exact Bool.and_eq_true_iff.mpr ⟨q2.1, decide_eq_true (by omega)⟩
  unfold eqOk at h
  rcases Bool.or_eq_true_iff.mp h with h | h
  · obtain ⟨h1, h2⟩ := Bool.and_eq_true_iff.mp h
    cases rx with
    | str z =>
      refine .inl ?_
      cases ry with
      | str w =>
        refine ⟨rfl, ?_⟩
        simp only [D.eqv]
        by_cases e : z = w
        · subst e; simp
        · rw [decide_eq_false (fun q => e (V.str.inj q))]
          refine (beq_eq_false_iff_ne.mpr fun q => e ?_).symm
          cases z; cases w
          have : _ = _ := Array.toList_inj.mp q
          simp at this
          rw [this]
      | non => exact ⟨rfl, rfl⟩
      | bl b => exact ⟨rfl, rfl⟩
      | int i => exact ⟨rfl, rfl⟩
      | _ => cases h2
    | non =>
      cases ry with
      | str w => exact .inl ⟨rfl, rfl⟩
      | non => exact .inl ⟨rfl, rfl⟩
      | bl b => exact .inl ⟨rfl, rfl⟩
      | int i => exact .inl ⟨rfl, rfl⟩
      | _ => cases h2
    | bl a =>
      cases ry with
      | str w => exact .inl ⟨rfl, rfl⟩
      | non => exact .inl ⟨rfl, rfl⟩
      | bl b => exact .inr (deep 0 0 (by omega) (by omega) rfl rfl)
      | int i => exact .inr (deep 0 0 (by omega) (by omega) rfl rfl)
      | _ => cases h2
    | int a =>
      cases ry with
      | str w => exact .inl ⟨rfl, rfl⟩
      | non => exact .inl ⟨rfl, rfl⟩
      | bl b => exact .inr (deep 0 0 (by omega) (by omega) rfl rfl)
      | int i => exact .inr (deep 0 0 (by omega) (by omega) rfl rfl)
      | _ => cases h2
    | _ => cases h1
  · obtain ⟨h1, h2⟩ := Bool.and_eq_true_iff.mp h
    exact .inr (deep 60 60 (by omega) (by omega) h1 h2)
theorem cls_eq (hK : X.K = G.K) (hr : Room k X.A) : ∃ r, OpR X (compareOp .Eq) r ∧ S2 G r fEq := by
  refine ⟨_, orR op_eq (op_eqD hr.units), fun F H σ S T x y dx dy kd Q st rx ry e k => ?_⟩
  unfold fEq kz at e
  split at e
  · rename_i h
    cases e
    rcases eq_core hK st rx ry h with ⟨h1, h2⟩ | ⟨d, e, h1, h2, h3, h4, h5⟩
    · exact .inl ⟨h1, by rw [h2]; exact KE.val k st (.bl _)⟩
    · exact .inr ⟨d, e, h1, h2, h3, h4, by rw [h5]; exact KE.val k st (.bl _)⟩
  · cases e
theorem cls_ne (hK : X.K = G.K) (hr : Room k X.A) : ∃ r, OpR X (compareOp .NotEq) r ∧ S2 G r fNe := by
  refine ⟨_, orR op_ne (op_neD hr.units), fun F H σ S T x y dx dy kd Q st rx ry e k => ?_⟩
  unfold fNe kz at e
  split at e
  · rename_i h
    cases e
    rcases eq_core hK st rx ry h with ⟨h1, h2⟩ | ⟨d, e, h1, h2, h3, h4, h5⟩
    · exact .inl ⟨h1, by rw [h2]; exact KE.val k st (.bl _)⟩
    · exact .inr ⟨d, e, h1, h2, h3, h4, by rw [h5]; exact KE.val k st (.bl _)⟩
  · cases e
/-! ### in, over a list or a tuple of flat data -/
theorem flatV_of {F : Hp} {v : V} {d : D} (r : Rep G F v d) (h : d.flat = true) : flatV v = true := by
  cases r <;> first | rfl | cases h
theorem flats_of {F : Hp} : ∀ {vs : List V} {ds : List D}, Reps G F vs ds → ds.all D.flat = true → vs.all flatV = true
  | _, _, .nil, _ => rfl
  | _, _, .cons r s, h => by
    obtain ⟨h1, h2⟩ := Bool.and_eq_true_iff.mp (show (D.flat _ && List.all _ D.flat) = true from h)
    show (flatV _ && List.all _ flatV) = true
    rw [flatV_of r h1, flats_of s h2]; rfl
theorem eqV_of {F : Hp} {x y : V} {dx dy : D} (rx : Rep G F x dx) (ry : Rep G F y dy) (hx : dx.flat = true) (hy : dy.flat = true) : eqV x y = D.eqv dx dy := by
  cases rx <;> cases ry <;> first | (cases hx; done) | (cases hy; done) | (simp [eqV, D.eqv]; done) | skip
  rename_i z w
  simp only [eqV, D.eqv]
  by_cases e : z = w
  · subst e; simp
  · rw [beq_eq_false_iff_ne.mpr e]
    refine (beq_eq_false_iff_ne.mpr fun q => e ?_).symm
    cases z; cases w
    have : _ = _ := Array.toList_inj.mp q
    simp at this
    rw [this]
theorem inV_of {F : Hp} {x : V} {dx : D} (rx : Rep G F x dx) (hx : dx.flat = true) : ∀ {vs : List V} {ds : List D}, Reps G F vs ds → ds.all D.flat = true → inV x vs = ds.any fun y => D.eqv y dx
  | _, _, .nil, _ => rfl
  | _, _, .cons r s, h => by
    obtain ⟨h1, h2⟩ := Bool.and_eq_true_iff.mp (show (D.flat _ && List.all _ D.flat) = true from h)
    show (eqV _ x || inV x _) = _
    rw [eqV_of r rx h1 hx, inV_of rx hx s h2]; rfl
theorem in_core (hK : X.K = G.K) {x y : V} {dx dy : D} {ys : List D} (st : St' G F H σ S T) (rx : Rep G F x dx) (ry : Rep G F y dy) (e : itemsOf dy = some ys) (h : (dx.flat && ys.all D.flat) = true) :
    ∃ p vs, y = .ref p ∧ (SqL X.K H p vs ∨ SqT X.K H p vs) ∧ flatV x = true ∧ vs.all flatV = true ∧ inV x vs = ys.any fun y => D.eqv y dx := by
  obtain ⟨h1, h2⟩ := Bool.and_eq_true_iff.mp h
  cases ry with
  | tup hs rs => cases e; exact ⟨_, _, rfl, .inr (hK ▸ same_t st.sub hs), flatV_of rx h1, flats_of rs h2, inV_of rx h1 rs h2⟩
  | lst hs rs => cases e; exact ⟨_, _, rfl, .inl (.inl (.inl (st.sub _ _ hs))), flatV_of rx h1, flats_of rs h2, inV_of rx h1 rs h2⟩
  | _ => cases e
theorem cls_in (hK : X.K = G.K) : ∃ r, OpR X (compareOp .In) r ∧ S2 G r fIn := by
  refine ⟨_, op_in_seq, fun F H σ S T x y dx dy kd Q st rx ry e k => ?_⟩
  unfold fIn kz at e
  cases q : itemsOf dy with
  | none => rw [q] at e; cases e
  | some ys =>
    simp only [q] at e
    split at e
    · rename_i h
      cases e
      obtain ⟨p, vs, h1, h2, h3, h4, h5⟩ := in_core hK st rx ry q h
      exact ⟨p, vs, h1, h2, h3, h4, by show Q (.bl (inV x vs)) H; rw [h5]; exact KE.val k st (.bl _)⟩
    · cases e
theorem cls_notIn (hK : X.K = G.K) : ∃ r, OpR X (compareOp .NotIn) r ∧ S2 G r fNotIn := by
  refine ⟨_, op_notIn_seq, fun F H σ S T x y dx dy kd Q st rx ry e k => ?_⟩
  unfold fNotIn kz at e
  cases q : itemsOf dy with
  | none => rw [q] at e; cases e
  | some ys =>
    simp only [q] at e
    split at e
    · rename_i h
      cases e
      obtain ⟨p, vs, h1, h2, h3, h4, h5⟩ := in_core hK st rx ry q h
      exact ⟨p, vs, h1, h2, h3, h4, by show Q (.bl (!inV x vs)) H; rw [h5]; exact KE.val k st (.bl _)⟩
    · cases e
/-! ### isinstance -/
def Ty.nm : Ty → String
  | .int => "int"
  | .bool => "bool"
  | .str => "str"
  | .list => "list"
  | .tuple => "tuple"
def D.nm : D → Option String
  | .non => some "NoneType"
  | .bl _ => some "bool"
  | .int _ => some "int"
  | .str _ => some "str"
  | .lst _ => some "list"
  | .tup _ => some "tuple"
  | _ => none
theorem isTy_kit {t : Ty} {d : D} {b : Bool} (h : d.isTy t = some b) : ∃ n, d.nm = some n ∧ kitB n t.nm = some b := by
  cases t <;> cases d <;> simp only [D.isTy, reduceCtorEq] at h <;> (cases h; exact ⟨_, rfl, by decide +kernel⟩)
theorem tyx_of {F : Hp} {v : V} {d : D} {n : String} (r : Rep G F v d) (h : d.nm = some n) : TyX G.K F v (.type n) := by
  cases r <;> simp only [D.nm, reduceCtorEq] at h <;> cases h
  · exact .base .non
  · exact .base (.bl _)
  · exact .base (.int _)
  · exact .base (.str _)
  · rename_i a vs ds hs rs
    rcases hs with (hs | ⟨o, hs⟩) | ⟨o, its, m, hk, hc, _⟩
    · exact .base (.tup hs)
    · exact .fTuple hs
    · exact .kTuple hk hc
  · rename_i a vs ds hs rs
    exact .base (.lst hs)
theorem tr_isi (t : Ty) {e : Expr} {m : E} {p p2 pos : Pos} {x : PySem.Str} (C : Cok X G W k) (h : TrE X G W e m) (hm : X.mg "isinstance" = none) (hm2 : X.mg x = none) (hx : bootBuiltins x = some (.type t.nm)) (hn : x ≠ "__name__" := by decide) (hd : (x == ("__debug__" : PySem.Str)) = false := by decide)
    (hg : Gl X "isinstance" := by rfl) (hg2 : Gl X x := by rfl) (he : starEach [e, .Name x p2] X.env = (false, eval e X.env) :: starEach [.Name x p2] X.env := by rfl) (he2 : starEach [.Name x p2] X.env = (false, eval (.Name x p2) X.env) :: starEach [] X.env := by rfl)
    (hpl : (backTo pos (starEach [.Name x p2] X.env)).any (·.1) = false := by rfl) : TrE X G W (.Call (.Name "isinstance" p) [e, .Name x p2] [] pos) (eIsi t m) := by
  obtain ⟨u, q, d⟩ := h
  refine ⟨_, pe_callB call_isi hg hm (by decide +kernel) (pa_cons q (pa_cons (pe_bltn (v := .ty t.nm) hg2 hm2 hx rfl hn hd) pa_nil he2) he) (by decide) (by decide) he hpl, fun F H σ S T Q st z => ?_⟩
  refine d.dat F H σ S T _ st (PR.bind z fun dd S1 y => ?_)
  intro v F1 H1 T1 s1 st1 r1
  have y : PR G W F H σ T (KE G F H σ T Q) (ofO (fIsi t dd) S1) := y
  unfold fIsi at y
  cases e1 : dd.isTy t with
  | none => rw [e1] at y; exact y.elim
  | some b =>
    rw [e1] at y
    have y : KE G F H σ T Q (.fz, .bl b) S1 := y
    obtain ⟨n, h1, h2⟩ := isTy_kit e1
    exact ⟨v, .ty t.nm, .type n, .type t.nm, b, rfl, .ty _, C.hK ▸ tyx_of (r1.mono st1.sub) h1, kit_ty h2, KE.val (y.re s1) st1 (.bl b)⟩
end
end TB

namespace TB
open PySem PySem.Spec PyProof.Rows L2
/-! ### slots that own a list -/
section
variable {X : Cx} {G : Cfgx} {W : WX} {k : Nat} {F H : Hp} {σ : L2.St} {S : List Slot} {T : Cnt}
theorem own_at {i : Nat} {kd : Kd} {d : D} (st : St' G F H σ S T) (e : S[i]? = some (some (kd, d))) : ∃ v f, σ[i]? = some (some v) ∧ Own G F H kd v d f ∧ (∀ a, f a ≤ T a) ∧
    ∀ F' H' k' d' f', Same F F' → Same F' H' → (∀ a o, T a ≠ 0 → f a = 0 → H a = some o → H' a = some o) → Own G F' H' k' v d' f' → (∀ a, f' a ≤ f a) → (∀ a, F' a ≠ none → F a ≠ none ∨ (f a ≠ 0 ∧ f' a = 0)) →
      ∃ T', St' G F' H' σ (S.set i (some (k', d'))) T' ∧ ∀ a, T' a + f a = T a + f' a := by
  obtain ⟨v, f, T0, ht, hv, ho, back⟩ := st.sl.at e
  cases ho with
  | @yes k1 v1 d1 f1 o =>
    refine ⟨v1, f, hv, o, fun a => by have := ht a; omega, fun F' H' k' d' f' sF sub kp o' le' nF => ?_⟩
    have e2 : σ.set i (some v1) = σ := by
      obtain ⟨hi, q1⟩ := List.getElem?_eq_some_iff.mp hv
      rw [← q1, List.set_getElem_self]
    have q := back F' H' (some v1) (some (k', d')) f' sF (fun a u n h => kp a u (by have := ht a; omega) (by have := ht a; have := st.le a; omega) h) (.yes o')
    rw [e2] at q
    refine ⟨add f' T0, ⟨st.pi, sub, q, fun a => ?_, fun a n => ?_⟩, fun a => ?_⟩
    · have := le' a; have := ht a; have := st.le a; simp only [add]; omega
    · have := le' a
      have := ht a
      have := st.le a
      rcases nF a n with z | ⟨z1, z2⟩
      · have := st.di a z; simp only [add]; omega
      · simp only [add]; omega
    · have := ht a; simp only [add]; omega
theorem ownL_some {S : List Slot} {i : Nat} {xs : List D} (e : ownL S i = some xs) : S[i]? = some (some (.li .fz, .lst xs)) := by
  unfold ownL at e
  split at e
  · cases e; assumption
  · cases e
theorem ownK_some {S : List Slot} {i : Nat} {xs : List (D × D)} (e : ownK S i = some xs) : S[i]? = some (some (.dK .fz, .dic xs)) := by
  unfold ownK at e
  split at e
  · cases e; assumption
  · cases e
/-- an own list of frozen items: where it stands, how it is rewritten -/
theorem own_list {i : Nat} {xs : List D} (st : St' G F H σ S T) (e : ownL S i = some xs) : ∃ a vs, σ[i]? = some (some (.ref a)) ∧ H a = some (.lst vs) ∧ Reps G F vs xs ∧ F a = none ∧
    ∀ ws ys, Reps G F ws ys → St' G F (upd H a (.lst ws)) σ (S.set i (some (.li .fz, .lst ys))) T ∧ Step F H T F (upd H a (.lst ws)) T := by
  obtain ⟨v, f, hv, o, hf, back⟩ := own_at st (ownL_some e)
  cases o with
  | @li _ a vs ds g h r =>
    obtain ⟨r1, e1⟩ := reps_fz r
    subst e1
    have t1 : T a ≠ 0 := by have := hf a; simp only [add, one, if_true] at this; omega
    have fa : F a = none := Decidable.byContradiction fun n => t1 (st.di a n)
    have sub2 : ∀ o, Same F (upd H a o) := fun o b u q => by
      by_cases z : b = a
      · subst z; rw [fa] at q; cases q
      · rw [upd_ne z]; exact st.sub _ _ q
    refine ⟨a, vs, hv, h, r1, fa, fun ws ys rw' => ?_⟩
    obtain ⟨T', st', ht⟩ := back F (upd H a (.lst ws)) (.li .fz) (.lst ys) (add (one a) nil0) (Same.refl F) (sub2 _) (fun b u n z q => by
      by_cases y : b = a
      · subst y; simp [add, one] at z
      · rw [upd_ne y]; exact q) (.li upd_same (owns_fz rw')) (fun b => Nat.le_refl _) (fun b n => .inl n)
    have eT : T' = T := by funext b; have := ht b; omega
    subst eT
    refine ⟨st', Same.refl F, fun b u z q => ?_, fun b n => .inl n, fun b h n => absurd h n, fun b n => ?_⟩
    · by_cases y : b = a
      · subst y; exact absurd z t1
      · rw [upd_ne y]; exact q
    · by_cases y : b = a
      · subst y; rw [upd_same]; simp
      · rw [upd_ne y]; exact n
/-- an own dict of frozen items -/
theorem own_dict {i : Nat} {xs : List (D × D)} (st : St' G F H σ S T) (e : ownK S i = some xs) : ∃ a kvs, σ[i]? = some (some (.ref a)) ∧ H a = some (.dK kvs) ∧ xs.map (·.1) = kvs.map (fun p => keyD p.1) ∧ Reps G F (kvs.map (·.2)) (xs.map (·.2)) ∧
    ∀ ws ys, ys.map (·.1) = ws.map (fun p => keyD p.1) → Reps G F (ws.map (·.2)) (ys.map (·.2)) → St' G F (upd H a (.dK ws)) σ (S.set i (some (.dK .fz, .dic ys))) T ∧ Step F H T F (upd H a (.dK ws)) T := by
  obtain ⟨v, f, hv, o, hf, back⟩ := own_at st (ownK_some e)
  cases o with
  | @dK _ a kvs kds g h hk r =>
    obtain ⟨r1, e1⟩ := reps_fz r
    subst e1
    have t1 : T a ≠ 0 := by have := hf a; simp only [add, one, if_true] at this; omega
    have fa : F a = none := Decidable.byContradiction fun n => t1 (st.di a n)
    have sub2 : ∀ o, Same F (upd H a o) := fun o b u q => by
      by_cases z : b = a
      · subst z; rw [fa] at q; cases q
      · rw [upd_ne z]; exact st.sub _ _ q
    refine ⟨a, kvs, hv, h, hk, r1, fun ws ys k' rw' => ?_⟩
    obtain ⟨T', st', ht⟩ := back F (upd H a (.dK ws)) (.dK .fz) (.dic ys) (add (one a) nil0) (Same.refl F) (sub2 _) (fun b u n z q => by
      by_cases y : b = a
      · subst y; simp [add, one] at z
      · rw [upd_ne y]; exact q) (.dK upd_same k' (owns_fz rw')) (fun b => Nat.le_refl _) (fun b n => .inl n)
    have eT : T' = T := by funext b; have := ht b; omega
    subst eT
    refine ⟨st', Same.refl F, fun b u z q => ?_, fun b n => .inl n, fun b h n => absurd h n, fun b n => ?_⟩
    · by_cases y : b = a
      · subst y; exact absurd z t1
      · rw [upd_ne y]; exact q
    · by_cases y : b = a
      · subst y; rw [upd_same]; simp
      · rw [upd_ne y]; exact n
/-- a frozen slot, or one that is frozen where it stands -/
theorem own_freeze {i : Nat} {kd : Kd} {d : D} (st : St' G F H σ S T) (e : S[i]? = some (some (kd, d))) : ∃ v F' T', σ[i]? = some (some v) ∧ Rep G F' v d ∧ St' G F' H σ (S.set i (some (.fz, d))) T' ∧ Step F H T F' H T' := by
  obtain ⟨v, f, hv, o, hf, back⟩ := own_at st e
  let F2 : Hp := fun a => if f a = 0 then F a else H a
  have fz : ∀ a, F a ≠ none → f a = 0 := fun a n => by have := hf a; have := st.di a n; omega
  have sf : Same F F2 := fun a u q => by
    show (if f a = 0 then F a else H a) = some u
    rw [if_pos (fz a (by rw [q]; simp))]; exact q
  have sub2 : Same F2 H := fun a u q => by
    have q : (if f a = 0 then F a else H a) = some u := q
    by_cases z : f a = 0
    · rw [if_pos z] at q; exact st.sub _ _ q
    · rw [if_neg z] at q; exact q
  have o2 : Own G F2 F2 kd v d f := o.mono sf fun a u n q => by
    show (if f a = 0 then F a else H a) = some u
    rw [if_neg n]; exact q
  have r2 : Rep G F2 v d := o2.rep (Same.refl F2)
  obtain ⟨T', st', ht⟩ := back F2 H .fz d nil0 sf sub2 (fun a u n z q => q) (.fz r2) (fun a => Nat.zero_le _) (fun a n => by
    by_cases z : f a = 0
    · have n : (if f a = 0 then F a else H a) ≠ none := n
      rw [if_pos z] at n; exact .inl n
    · exact .inr ⟨z, rfl⟩)
  refine ⟨v, F2, T', hv, r2, st', sf, fun a u _ q => q, fun a n => .inl (by have h1 := ht a; have h2 := hf a; have h3 : nil0 a = 0 := rfl; omega), fun a h n => .inr ?_, fun a n => n⟩
  by_cases z : f a = 0
  · have n : (if f a = 0 then F a else H a) ≠ none := n
    rw [if_pos z] at n; exact absurd h n
  · have := hf a; omega
/-! expressions -/
theorem tr_fzV (i : Nat) {x : PySem.Str} {pos : Pos} (hN : X.N[i]? = some x := by rfl) (hv : Vis X.env.scope x := by first | exact Or.inl rfl | exact Or.inr (Or.inl rfl) | exact Or.inr (Or.inr rfl)) (hd : (x == ("__debug__" : PySem.Str)) = false := by decide)
    (hcd : (x == ("__classdict__" : PySem.Str)) = false := by decide) : TrE X G W (.Name x pos) (eFzV i) := by
  refine ⟨_, pe_var hN hv hd hcd, fun F H σ S T Q st p => ?_⟩
  unfold eFzV at p
  cases e : S[i]? with
  | none => rw [e] at p; exact p.elim
  | some s =>
    rw [e] at p
    cases s with
    | none => exact p.elim
    | some kd =>
      obtain ⟨kk, d⟩ := kd
      obtain ⟨v, F', T', hv, r, st', s'⟩ := own_freeze st e
      have p : KE G F H σ T Q (.fz, d) (S.set i (some (.fz, d))) := p
      exact ⟨v, hv, p v F' H T' nil0 (s'.castR fun a => rfl) st' (.fz r) (fun a => st'.le a) fun _ _ => rfl⟩
theorem has_list {α : Type} {K : α → List Slot → Prop} {i : Nat} {f : Unit → M α} (st : St' G F H σ S T) (p : PR G W F H σ T K ((hasL i S).bind f)) : (∃ xs, ownL S i = some xs) ∧ PR G W F H σ T K (f () S) := by
  unfold hasL at p
  cases e : ownL S i with
  | none => rw [e] at p; exact p.elim
  | some xs => rw [e] at p; exact ⟨⟨xs, rfl⟩, p⟩
theorem has_listS {α : Type} {K : α → List Slot → Prop} {i : Nat} {f : Unit → M α} (st : St' G F H σ S T) (p : PRs G W F H T K ((hasL i S).bind f)) : (∃ xs, ownL S i = some xs) ∧ PRs G W F H T K (f () S) := by
  unfold hasL at p
  cases e : ownL S i with
  | none => rw [e] at p; exact p.elim
  | some xs => rw [e] at p; exact ⟨⟨xs, rfl⟩, p⟩
theorem has_dictS {α : Type} {K : α → List Slot → Prop} {i : Nat} {f : Unit → M α} (st : St' G F H σ S T) (p : PRs G W F H T K ((hasK i S).bind f)) : (∃ xs, ownK S i = some xs) ∧ PRs G W F H T K (f () S) := by
  unfold hasK at p
  cases e : ownK S i with
  | none => rw [e] at p; exact p.elim
  | some xs => rw [e] at p; exact ⟨⟨xs, rfl⟩, p⟩
theorem norm_ix {n : Nat} {i : Int} {j : Nat} (h : normIx n i = some j) : ixN n i = some j ∧ j < n ∧ seqIndex? i n = some j := by
  have h2 : ixN n i = some j := h
  obtain ⟨a, b, _, _⟩ := ixN_seq h2
  exact ⟨h2, b, a⟩
theorem tr_setIx (i : Nat) {x : PySem.Str} {e kx : Expr} {m n : E} {p pos' pos : Pos} (h : TrE X G W e m) (h2 : TrE X G W kx n)
    (hN : X.N[i]? = some x := by rfl) (hv : Vis X.env.scope x := by first | exact Or.inl rfl | exact Or.inr (Or.inl rfl) | exact Or.inr (Or.inr rfl)) (hd : (x == ("__debug__" : PySem.Str)) = false := by decide) (hcd : (x == ("__classdict__" : PySem.Str)) = false := by decide)
    (ha : ∀ v, assign (.Subscript (.Name x p) kx pos') X.env v = (do
      let ov ← holding [v] (eval (.Name x p) X.env)
      let iv ← holding [v, ov] (eval kx X.env)
      standAt pos'
      holding [v, ov, iv] (setItem ov iv v)
      release [v, ov, iv] []) := by intro _; rfl)
    (hs : swapsWithSole [.Subscript (.Name x p) kx pos'] e pos.line X.env = pure false := by rfl) (hw : swappedStores [.Subscript (.Name x p) kx pos'] e X.env = pure none := by rfl) (h1 : (assignEach [.Subscript (.Name x p) kx pos'] X.env).map (·.2) = [assign (.Subscript (.Name x p) kx pos') X.env] := by rfl) :
    TrS X G W (.Assign [.Subscript (.Name x p) kx pos'] e pos) (sSetIx i n m) := by
  obtain ⟨t, q, d⟩ := h
  obtain ⟨u, q2, d2⟩ := h2
  refine ⟨_, ps_asg q (pg_sub (pe_var hN hv hd hcd) q2 set_list ha) hs hw h1, fun F H σ S T D st z => d.dat F H σ S T _ st (PRs.bind z fun y S1 z1 => ?_)⟩
  intro v F1 H1 T1 s1 st1 r1
  obtain ⟨⟨xs0, e0⟩, z1⟩ := has_listS st1 (PRs.reS s1 z1)
  obtain ⟨a, vs0, hv0, _⟩ := own_list st1 e0
  refine ⟨_, hv0, ?_⟩
  refine d2.dat F1 H1 σ S1 T1 _ st1 (PRs.bind z1 fun kk S2 z2 => ?_)
  intro w F2 H2 T2 s2 st2 r2
  have z2 := PRs.reS s2 z2
  cases e2 : ownL S2 i with
  | none => rw [e2] at z2; exact z2.elim
  | some xs =>
    rw [e2] at z2
    obtain ⟨a', vs, hv2, hH, rs, _, up⟩ := own_list st2 e2
    rw [hv0] at hv2
    cases hv2
    cases r2 with
    | int j =>
      have z2 : PRs G W F2 H2 T2 (KS G F2 H2 T2 D) (match normIx xs.length j with | some n => .ok .nx (S2.set i (some (.li .fz, .lst (xs.set n y)))) | none => .bad) := z2
      cases e3 : normIx xs.length j with
      | none => rw [e3] at z2; exact z2.elim
      | some nn =>
        rw [e3] at z2
        obtain ⟨n1, n2, n3⟩ := norm_ix e3
        obtain ⟨st3, s3⟩ := up (vs.set nn v) (xs.set nn y) (rs.set (r1.mono s2.sF) nn)
        refine ⟨a, vs, j, nn, rfl, rfl, hH, by rw [rs.len]; exact n1, ?_⟩
        exact (show KS G F2 H2 T2 D .nx _ from z2) σ F2 _ T2 s3 st3
    | _ => exact z2.elim
theorem tr_ixO (i : Nat) {x : PySem.Str} {kx : Expr} {n : E} {p pos : Pos} (h2 : TrE X G W kx n) (hN : X.N[i]? = some x := by rfl) (hv : Vis X.env.scope x := by first | exact Or.inl rfl | exact Or.inr (Or.inl rfl) | exact Or.inr (Or.inr rfl)) (hd : (x == ("__debug__" : PySem.Str)) = false := by decide) (hcd : (x == ("__classdict__" : PySem.Str)) = false := by decide)
    (hp : PlainIx kx := by exact fun _ _ => rfl) : TrE X G W (.Subscript (.Name x p) kx pos) (eIxO i n) := by
  obtain ⟨u, q2, d2⟩ := h2
  refine ⟨_, pe_ix ix_list (pe_var hN hv hd hcd) q2 hp, fun F H σ S T Q st z => ?_⟩
  obtain ⟨⟨xs0, e0⟩, z1⟩ := has_list st z
  obtain ⟨a, vs0, hv0, _⟩ := own_list st e0
  refine ⟨_, hv0, ?_⟩
  refine d2.dat F H σ S T _ st (PR.bind z1 fun kk S2 z2 => ?_)
  intro w F2 H2 T2 s2 st2 r2
  cases e2 : ownL S2 i with
  | none => rw [e2] at z2; exact z2.elim
  | some xs =>
    rw [e2] at z2
    obtain ⟨a', vs, hv2, hH, rs, _, up⟩ := own_list st2 e2
    rw [hv0] at hv2
    cases hv2
    cases r2 with
    | int j =>
      have z2 : PR G W F H σ T (KE G F H σ T Q) (match (normIx xs.length j).bind fun n => xs[n]? with | some d => .ok (.fz, d) S2 | none => .bad) := z2
      cases e3 : normIx xs.length j with
      | none => rw [e3] at z2; exact z2.elim
      | some nn =>
        rw [e3] at z2
        cases e4 : xs[nn]? with
        | none => simp only [Option.bind_some, e4] at z2; exact z2.elim
        | some d =>
          simp only [Option.bind_some, e4] at z2
          have z2 : KE G F H σ T Q (.fz, d) S2 := z2
          obtain ⟨v, hv3, rv⟩ := rs.get e4
          exact ⟨a, vs, j, v, rfl, rfl, .inl (.inl hH), atI_of (by rw [rs.len]; exact e3) hv3, KE.val (KE.re s2 z2) st2 rv⟩
    | _ => exact z2.elim
/-- what a method of a list does -/
def MthOk (G : Cfgx) (r : V → List V → Hp → VK → Prop) (f : List D → List D → Option (D × List D)) : Prop := ∀ F H a vs xs us ds d ys Q, H a = some (.lst vs) → Reps G F vs xs → Reps G F us ds → f xs ds = some (d, ys) → (∀ v ws, Rep G F v d → Reps G F ws ys → Q v (upd H a (.lst ws))) → r (.ref a) us H Q
theorem tr_mth (i : Nat) {x name : PySem.Str} {id : String} {r : V → List V → Hp → VK → Prop} {f : List D → List D → Option (D × List D)} {e : Expr} {es : List Expr} {ms : List E} {p apos cpos : Pos} (slot : PySem.Slot "list" name id) (hty : typeOf (.builtin id) = pure (.type "method_descriptor")) (hm : MtR X id r) (ok : MthOk G r f) (h : TrA X G W (e :: es) ms)
    (hN : X.N[i]? = some x := by rfl) (hv : Vis X.env.scope x := by first | exact Or.inl rfl | exact Or.inr (Or.inl rfl) | exact Or.inr (Or.inr rfl)) (hd : (x == ("__debug__" : PySem.Str)) = false := by decide) (hcd : (x == ("__classdict__" : PySem.Str)) = false := by decide)
    (hbase : attributeBase (.Name x p) name X.env (eval (.Name x p) X.env) = eval (.Name x p) X.env := by rfl)
    (hfew : ((backTo cpos (starEach (e :: es) X.env)).all (fun x => !x.1) && (backToKw cpos (keywordEach [] X.env)).all (fun x => x.1.isSome)
      && decide ((e :: es).length + ([] : List Keyword).length + (if ([] : List Keyword).isEmpty then 0 else 1) < 30)) = true := by rfl)
    (hline : (apos.endLine == cpos.line) = true := by rfl) (hs : starEach (e :: es) X.env = (false, eval e X.env) :: starEach es X.env := by rfl) (hplain : (backTo cpos (starEach es X.env)).any (·.1) = false := by rfl) :
    TrE X G W (.Call (.Attribute (.Name x p) name apos) (e :: es) [] cpos) (eMth f i ms) := by
  obtain ⟨u, q2, d2⟩ := h
  refine ⟨_, pe_bm F.plainAttrs_list slot hty hm (pe_var hN hv hd hcd) q2 hbase hfew hline hs hplain, fun F H σ S T Q st z => ?_⟩
  obtain ⟨⟨xs0, e0⟩, z1⟩ := has_list st z
  obtain ⟨a, vs0, hv0, hH0, _⟩ := own_list st e0
  refine ⟨_, hv0, .inl ⟨rfl, vs0, .inl (.inl hH0)⟩, ?_⟩
  refine d2 F H σ S T _ st (PR.bind z1 fun ds S2 z2 => ?_)
  intro us F2 H2 T2 s2 st2 r2
  cases e2 : ownL S2 i with
  | none => rw [e2] at z2; exact z2.elim
  | some xs =>
    rw [e2] at z2
    obtain ⟨a', vs, hv2, hH, rs, _, up⟩ := own_list st2 e2
    rw [hv0] at hv2
    cases hv2
    have z2 : PR G W F H σ T (KE G F H σ T Q) (match f xs ds with | some (r, ys) => .ok (.fz, r) (S2.set i (some (.li .fz, .lst ys))) | none => .bad) := z2
    cases e3 : f xs ds with
    | none => rw [e3] at z2; exact z2.elim
    | some dy =>
      obtain ⟨d, ys⟩ := dy
      rw [e3] at z2
      have z2 : KE G F H σ T Q (.fz, d) (S2.set i (some (.li .fz, .lst ys))) := z2
      refine ok F2 H2 a vs xs us ds d ys Q hH rs r2 e3 fun v ws rv rws => ?_
      obtain ⟨st3, s3⟩ := up ws ys rws
      exact z2 v F2 _ T2 nil0 ((s2.trans s3).castR fun a => rfl) st3 (.fz rv) (fun a => st3.le a) fun _ _ => rfl
theorem mo_append : MthOk G rAppend fAppend := by
  intro F H a vs xs us ds d ys Q hH rs ru e q
  cases ru with
  | nil => cases e
  | cons r1 r2 =>
    cases r2 with
    | cons a b => cases e
    | nil =>
      have e : (if xs.length < sizeMax then some (D.non, xs ++ [_]) else none) = some (d, ys) := e
      split at e
      · rename_i hz
        cases e
        have l : sizeLine = sizeMax := rfl
        exact ⟨a, vs, _, rfl, rfl, hH, by rw [rs.len, l]; exact hz, q _ _ .non (rs.app (.cons r1 .nil))⟩
      · cases e
theorem mo_popAt : MthOk G rPopAt fPopAt := by
  intro F H a vs xs us ds d ys Q hH rs ru e q
  cases ru with
  | nil => cases e
  | cons r1 r2 =>
    cases r2 with
    | cons a b => cases r1 <;> cases e
    | nil =>
      cases r1 with
      | int i =>
        have e : (if i.natAbs < limN then (normIx xs.length i).bind fun n => xs[n]?.map fun d => (d, xs.eraseIdx n) else none) = some (d, ys) := e
        split at e
        · rename_i hz
          cases e3 : normIx xs.length i with
          | none => rw [e3] at e; cases e
          | some n =>
            rw [e3] at e
            cases e4 : xs[n]? with
            | none => simp only [Option.bind_some, e4] at e; cases e
            | some dd =>
              simp only [Option.bind_some, e4] at e
              cases e
              obtain ⟨v, hv, rv⟩ := rs.get e4
              obtain ⟨n1, n2, n3⟩ := norm_ix e3
              have l : limN = 4611686018427387904 := rfl
              exact ⟨a, vs, i, n, v, rfl, rfl, hH, by omega, by omega, by rw [rs.len]; exact n3, hv, q _ _ rv (rs.erase n)⟩
        · cases e
      | _ => cases e
theorem mo_insert : MthOk G (fun x vs H Q => ∃ (l : Addr) (xs : List V) (i : Int) (y : V), x = .ref l ∧ vs = [.int i, y] ∧ H l = some (.lst xs) ∧ xs.length < sizeLine ∧ 0 ≤ i ∧ i < 2 ^ 63 ∧ Q .non (upd H l (.lst (xs.take i.toNat ++ [y] ++ xs.drop i.toNat)))) fInsert := by
  intro F H a vs xs us ds d ys Q hH rs ru e q
  cases ru with
  | nil => cases e
  | cons r1 r2 =>
    cases r2 with
    | nil => cases r1 <;> cases e
    | cons r2 r3 =>
      cases r3 with
      | cons _ _ => cases r1 <;> cases e
      | nil =>
        cases r1 with
        | int i =>
          have e : (if 0 ≤ i ∧ i.natAbs < limN ∧ xs.length < sizeMax then some (D.non, xs.take i.toNat ++ [_] ++ xs.drop i.toNat) else none) = some (d, ys) := e
          split at e
          · rename_i hz
            cases e
            have l : limN = 4611686018427387904 := rfl
            have l2 : sizeLine = sizeMax := rfl
            exact ⟨a, vs, i, _, rfl, rfl, hH, by rw [rs.len, l2]; exact hz.2.2, hz.1, by omega, q _ _ .non (((rs.take _).app (.cons r2 .nil)).app (rs.drop _))⟩
          · cases e
        | _ => cases e
theorem tr_append (i : Nat) {x : PySem.Str} {e : Expr} {m : E} {p apos cpos : Pos} (h : TrE X G W e m) (hs : starEach [e] X.env = (false, eval e X.env) :: starEach [] X.env := by rfl)
    (hN : X.N[i]? = some x := by rfl) (hv : Vis X.env.scope x := by first | exact Or.inl rfl | exact Or.inr (Or.inl rfl) | exact Or.inr (Or.inr rfl)) (hd : (x == ("__debug__" : PySem.Str)) = false := by decide) (hcd : (x == ("__classdict__" : PySem.Str)) = false := by decide)
    (hbase : attributeBase (.Name x p) "append" X.env (eval (.Name x p) X.env) = eval (.Name x p) X.env := by rfl)
    (hfew : ((backTo cpos (starEach [e] X.env)).all (fun x => !x.1) && (backToKw cpos (keywordEach [] X.env)).all (fun x => x.1.isSome)
      && decide ([e].length + ([] : List Keyword).length + (if ([] : List Keyword).isEmpty then 0 else 1) < 30)) = true := by rfl)
    (hline : (apos.endLine == cpos.line) = true := by rfl) (hplain : (backTo cpos (starEach [] X.env)).any (·.1) = false := by rfl) :
    TrE X G W (.Call (.Attribute (.Name x p) "append" apos) [e] [] cpos) (eMth fAppend i [m]) :=
  tr_mth i F.slot_list_append F.type_list_append mt_append mo_append (tra_cons h tra_nil hs) hN hv hd hcd hbase hfew hline hs hplain
end
end TB

namespace TB
open PySem PySem.Spec PyProof.Rows L2
section
variable {X : Cx} {G : Cfgx} {W : WX} {k : Nat}
/-! ### a target filled -/
theorem tr_put {tg e : Expr} {g : Tg} {m : E} {pos : Pos} (h : TrE X G W e m) (hg : TrG X G tg g) (hs : swapsWithSole [tg] e pos.line X.env = pure false := by rfl) (hw : swappedStores [tg] e X.env = pure none := by rfl)
    (h1 : (assignEach [tg] X.env).map (·.2) = [assign tg X.env] := by rfl) : TrS X G W (.Assign [tg] e pos) (sPut g m) := by
  obtain ⟨t, p, d⟩ := h
  obtain ⟨u, q, dg⟩ := hg
  refine ⟨_, ps_asg p q hs hw h1, fun F H σ S T D st z => d.dat F H σ S T _ st (PRs.bind z fun y S1 z1 => ?_)⟩
  intro v F1 H1 T1 s1 st1 r1
  cases e1 : g.put y S1 with
  | none => rw [e1] at z1; exact z1.elim
  | some S2 =>
    rw [e1] at z1
    exact dg F1 H1 σ S1 T1 v y S2 _ st1 r1 e1 fun σ2 T2 st2 l2 _ => (show KS G F H T D .nx S2 from z1) σ2 F1 H1 T2 (s1.less l2) st2
/-! ### slices -/
def DenO (G : Cfgx) (W : WX) (t : TO) (m : M (Option Int)) : Prop := ∀ F H σ S T Q, St' G F H σ S T → PR G W F H σ T (fun o S' => ∀ F' H' T', Step F H T F' H' T' → St' G F' H' σ S' T' → Q o H') (m S) → t σ H Q
def TrO (X : Cx) (G : Cfgx) (W : WX) (e : Option Expr) (m : Option E) : Prop := ∃ t, PO X e t ∧ DenO G W t (eOpt m)
theorem to_none : TrO X G W none none := ⟨_, po_none, fun F H σ S T Q st p => (show ∀ F' H' T', Step F H T F' H' T' → St' G F' H' σ S T' → Q none H' from p) F H T (Step.refl F H T) st⟩
theorem to_some {e : Expr} {m : E} (h : TrE X G W e m) : TrO X G W (some e) (some m) := by
  obtain ⟨t, p, d⟩ := h
  refine ⟨_, po_some p, fun F H σ S T Q st z => d.dat F H σ S T _ st (PR.bind z fun dd S1 y => ?_)⟩
  intro v F1 H1 T1 s1 st1 r1
  cases r1 with
  | int i => exact ⟨i, rfl, (show ∀ F' H' T', Step F H T F' H' T' → St' G F' H' σ S1 T' → Q (some i) H' from y) F1 H1 T1 s1 st1⟩
  | _ => exact y.elim
theorem cutL_all {α : Type} {xs : List α} {lo hi : Option Int} (h1 : ixS xs.length 0 lo = 0) (h2 : ixS xs.length xs.length hi = xs.length) : cutL xs lo hi = xs := by
  unfold cutL
  rw [h1, h2]
  simp
theorem Reps.cut {F : Hp} {vs : List V} {ds : List D} (r : Reps G F vs ds) (lo hi : Option Int) : Reps G F (cutV vs lo hi) (cutL ds lo hi) := by
  have e : cutV vs lo hi = (vs.drop (ixS vs.length 0 lo)).take (ixS vs.length vs.length hi - ixS vs.length 0 lo) := by
    cases lo <;> cases hi <;> rfl
  rw [e]
  unfold cutL
  rw [r.len]
  exact (r.drop _).take _
theorem tr_sl {e : Expr} {lo hi : Option Expr} {a : E} {ml mh : Option E} {p2 pos : Pos} (C : Cok X G W k) (h : TrE X G W e a) (hl : TrO X G W lo ml) (hh : TrO X G W hi mh) : TrE X G W (.Subscript e (.Slice lo hi none p2) pos) (eSl a ml mh) := by
  obtain ⟨t, p, d⟩ := h
  obtain ⟨u, q, d2⟩ := hl
  obtain ⟨w, r, d3⟩ := hh
  refine ⟨_, pe_slice (sl_list.or (sl_tupA.or sl_str)) p q r, fun F H σ S T Q st z => d.dat F H σ S T _ st (PR.bind z fun x S1 y => ?_)⟩
  intro v F1 H1 T1 s1 st1 r1
  refine d2 F1 H1 σ S1 T1 _ st1 (PR.bind (PR.re s1 (fun _ _ h => h) y) fun l S2 y2 => ?_)
  intro F2 H2 T2 s2 st2
  refine d3 F2 H2 σ S2 T2 _ st2 (PR.bind (PR.re s2 (fun _ _ h => h) y2) fun h S3 y3 => ?_)
  intro F3 H3 T3 s3 st3
  have s13 := (s1.trans s2).trans s3
  have r3 := (r1.mono s2.sF).mono s3.sF
  cases e1 : fSl x l h with
  | none => rw [e1] at y3; exact y3.elim
  | some kd =>
    rw [e1] at y3
    have y3 : KE G F H σ T Q kd S3 := y3
    have y3 := y3.re s13
    have ixe : ∀ (n d : Nat) (o : Option Int), HT.sIx n d o = ixS n d o := fun n d o => by cases o <;> rfl
    cases r3 with
    | @lst b vs ds hb rs =>
      cases e1
      exact .inl ⟨b, vs, rfl, .inl (.inl (st3.sub _ _ hb)), fun p hp => KE.newL y3 st3 (rs.cut l h) p hp⟩
    | @tup b vs ds hb rs =>
      cases e1
      refine .inr (.inl ⟨b, vs, rfl, C.hK ▸ same_t st3.sub hb, fun hw => ?_, fun hw p hp => KE.newT y3 st3 (rs.cut l h) p hp⟩)
      have e2 : cutL ds l h = ds := by
        rw [ixe, ixe] at hw
        exact cutL_all (by rw [← rs.len]; exact hw.1) (by rw [← rs.len]; exact hw.2)
      rw [e2] at y3
      exact KE.val y3 st3 (.tup hb rs)
    | str z =>
      have e1 : (if z.cps.toList.length ≤ sizeMax then kz (.str (cutL z.cps.toList l h)) else none) = some kd := e1
      split at e1
      · rename_i hz
        cases e1
        refine .inr (.inr ⟨z, rfl, by rw [str_len]; exact hz, KE.val y3 st3 ?_⟩)
        have e4 : (cutS z l h).cps.toList = cutL z.cps.toList l h := by
          unfold cutS
          unfold cutL
          rw [ixe, ixe, str_len]
        rw [← e4]
        exact .str _
      · cases e1
    | _ => cases e1
theorem tr_rev {e : Expr} {a : E} {k : Nat} {p1 p2 p3 pos : Pos} (h : TrE X G W e a) : TrE X G W (.Subscript e (.Slice none none (some (.UnaryOp .USub (.Constant (.int 1) k p1) p2)) p3) pos) (eUn fRev a) := by
  obtain ⟨t, p, d⟩ := h
  refine ⟨_, pe_revL p, fun F H σ S T Q st z => d.dat F H σ S T _ st (PR.bind z fun x S1 y => ?_)⟩
  intro v F1 H1 T1 s1 st1 r1
  cases r1 with
  | @lst b vs ds hb rs =>
    have y : KE G F H σ T Q (.li .fz, .lst ds.reverse) S1 := y
    exact ⟨b, vs, rfl, .inl (.inl (st1.sub _ _ hb)), fun p hp => KE.newL (y.re s1) st1 rs.rev p hp⟩
  | _ => exact y.elim
/-! ### sorted -/
theorem ints_of {F : Hp} : ∀ {vs : List V} {ds : List D} {is : List Int}, Reps G F vs ds → intsOf ds = some is → vs = is.map V.int
  | _, _, _, .nil, h => by cases h; rfl
  | _, _, is, .cons r s, h => by
    cases r <;> simp only [intsOf, reduceCtorEq] at h
    rename_i b
    cases q : intsOf _ with
    | none => rw [q] at h; cases h
    | some js =>
      rw [q] at h
      cases h
      rw [ints_of s q]; rfl
theorem strs_of {F : Hp} : ∀ {vs : List V} {ds : List D} {is : List (List Nat)}, Reps G F vs ds → strsOf ds = some is → ∃ zs : List PySem.Str, vs = zs.map V.str ∧ zs.map (fun z => z.cps.toList) = is
  | _, _, _, .nil, h => by cases h; exact ⟨[], rfl, rfl⟩
  | _, _, is, .cons r s, h => by
    cases r <;> simp only [strsOf, reduceCtorEq] at h
    rename_i z
    cases q : strsOf _ with
    | none => rw [q] at h; cases h
    | some js =>
      rw [q] at h
      cases h
      obtain ⟨zs, e1, e2⟩ := strs_of s q
      exact ⟨z :: zs, by rw [e1]; rfl, by rw [← e2]; rfl⟩
theorem reps_ints {F : Hp} : ∀ is : List Int, Reps G F (is.map V.int) (is.map D.int)
  | [] => .nil
  | i :: is => .cons (.int i) (reps_ints is)
theorem reps_strs {F : Hp} : ∀ zs : List PySem.Str, Reps G F (zs.map V.str) ((zs.map fun z => z.cps.toList).map D.str)
  | [] => .nil
  | z :: zs => .cons (.str z) (reps_strs zs)
theorem sortI_eq {is js : List Int} (hp : js.Perm is) (hs : js.Pairwise (· ≤ ·)) : js = sortI is := by
  unfold sortI
  refine List.Perm.eq_of_pairwise (le := (· ≤ ·)) (fun a b _ _ h1 h2 => Int.le_antisymm h1 h2) hs ?_ (hp.trans (List.mergeSort_perm _ _).symm)
  have := List.pairwise_mergeSort (le := fun a b : Int => decide (a ≤ b)) (fun a b c h1 h2 => by simp at *; omega) (fun a b => by simp; omega) is
  exact this.imp fun h => by simpa using h
theorem ltCps_eq : ∀ a b : List Nat, ltCps a b = decide (a < b)
  | [], [] => rfl
  | [], _ :: _ => by simp [ltCps]
  | _ :: _, [] => by simp [ltCps]
  | a :: r, b :: t => by
    rw [show ltCps (a :: r) (b :: t) = (decide (a < b) || (a == b && ltCps r t)) from rfl, ltCps_eq r t]
    by_cases h1 : a < b
    · simp [h1, List.cons_lt_cons_iff]
    · by_cases h2 : a = b
      · subst h2; simp [List.cons_lt_cons_iff]
      · simp [h1, h2, List.cons_lt_cons_iff]
theorem rising_pair : ∀ {zs : List PySem.Str} {p : PySem.Str}, risingS p zs = true → ((p :: zs).map fun z => z.cps.toList).Pairwise (· ≤ ·)
  | [], p, _ => by simp
  | z :: zs, p, h => by
    unfold risingS at h
    obtain ⟨h1, h2⟩ := Bool.and_eq_true_iff.mp h
    have ih := rising_pair h2
    have h3 : p.cps.toList ≤ z.cps.toList := by
      rw [ltCps_eq] at h1
      exact List.not_lt.mp (by simpa using h1)
    rw [List.map_cons, List.pairwise_cons]
    refine ⟨fun y hy => ?_, ih⟩
    rw [List.map_cons] at hy
    rcases List.mem_cons.mp hy with e | e
    · rw [e]; exact h3
    · rw [List.map_cons, List.pairwise_cons] at ih
      exact List.le_trans h3 (ih.1 y e)
theorem sortT_eq {is js : List (List Nat)} (hp : js.Perm is) (hs : js.Pairwise (· ≤ ·)) : js = sortT is := by
  unfold sortT
  refine List.Perm.eq_of_pairwise (le := (· ≤ ·)) (fun a b _ _ h1 h2 => List.le_antisymm h1 h2) hs ?_ (hp.trans (List.mergeSort_perm _ _).symm)
  have e : (fun a b : List Nat => !decide (b < a)) = fun a b => decide (a ≤ b) := by
    funext a b
    rw [← decide_not]
    exact decide_eq_decide.mpr List.not_lt
  rw [e]
  have := List.pairwise_mergeSort (le := fun a b : List Nat => decide (a ≤ b)) (fun a b c h1 h2 => by simp at *; exact List.le_trans h1 h2) (fun a b => by simp; exact List.le_total a b) is
  exact this.imp fun h => by simpa using h
theorem cls_sorted (hK : X.K = G.K) : ∃ r, CallR X (.builtin "sorted") r ∧ SN G r fSorted := by
  refine ⟨_, cr_sortedI.or cr_sortedS, fun F H σ S T xs ds kd Q st rs e k => ?_⟩
  rcases rs with _ | ⟨r1, _ | ⟨r2, r3⟩⟩
  · simp [fSorted] at e
  · cases r1 <;> simp only [fSorted, reduceCtorEq] at e
    rename_i a xs as h1 r1
    cases e1 : intsOf as with
    | some is =>
      rw [e1] at e
      cases e
      have ex := ints_of r1 e1
      subst ex
      refine .inl ⟨a, is, rfl, .inl (.inl (st.sub _ _ h1)), fun js p hp hs hn => ?_⟩
      rw [sortI_eq hp hs]
      exact KE.newL k st (reps_ints _) p hn
    | none =>
      rw [e1] at e
      cases e2 : strsOf as with
      | none => rw [e2] at e; cases e
      | some ss =>
        rw [e2] at e
        have e : (if ss.length < 64 then some ((.li .fz, .lst ((sortT ss).map D.str)) : KD) else none) = some kd := e
        split at e
        · rename_i hz
          cases e
          obtain ⟨zs, ex, ez⟩ := strs_of r1 e2
          subst ex ez
          refine .inr ⟨a, zs, rfl, .inl (.inl (st.sub _ _ h1)), by simpa using hz, fun ys p hp hs hn => ?_⟩
          have e5 : (ys.map fun z => z.cps.toList) = sortT (zs.map fun z => z.cps.toList) := sortT_eq (hp.map _) (by
            cases ys with
            | nil => simp
            | cons y ys => exact rising_pair hs)
          rw [← e5] at k
          exact KE.newL k st (reps_strs _) p hn
        · cases e
  · cases r1 <;> simp [fSorted] at e
/-! ### join -/
theorem joinD_eq (s : List Nat) : ∀ ps, TL.joinL s ps = joinD s ps
  | [] => rfl
  | [_] => rfl
  | p :: q :: r => by
    show p ++ (s ++ TL.joinL s (q :: r)) = p ++ (s ++ joinD s (q :: r))
    rw [joinD_eq s (q :: r)]
theorem tr_join {o e : Expr} {a b : E} {apos pos : Pos} (ho : TrE X G W o a) (he : TrE X G W e b) (hs : starEach [e] X.env = [(false, eval e X.env)] := by rfl) (hbase : attributeBase o "join" X.env (eval o X.env) = eval o X.env := by rfl) (hline : (apos.endLine == pos.line) = true := by rfl) :
    TrE X G W (.Call (.Attribute o "join" apos) [e] [] pos) (eJoin a b) := by
  obtain ⟨t, p, d⟩ := ho
  obtain ⟨u, q, d2⟩ := he
  refine ⟨_, pe_join p q hs hbase hline, fun F H σ S T Q st z => d.dat F H σ S T _ st (PR.bind z fun x S1 y => ?_)⟩
  intro v F1 H1 T1 s1 st1 r1
  cases r1 with
  | str z =>
    refine ⟨⟨z, rfl⟩, ?_⟩
    have y : PR G W F H σ T (KE G F H σ T Q) ((eDat b S1).bind fun y => ofO (fJoin z.cps.toList y)) := y
    refine d2.dat F1 H1 σ S1 T1 _ st1 (PR.bind (PR.re s1 (fun _ _ h => h) y) fun l S2 y2 => ?_)
    intro v2 F2 H2 T2 s2 st2 r2
    cases r2 with
    | @lst c vs ds hc rs =>
      cases e2 : strsOf ds with
      | none =>
        have : fJoin z.cps.toList (.lst ds) = none := by show (strsOf ds).bind _ = none; rw [e2]; rfl
        rw [this] at y2; exact y2.elim
      | some ss =>
        obtain ⟨zs, ex, ez⟩ := strs_of rs e2
        subst ex ez
        have e3 : fJoin z.cps.toList (.lst ds) = if ((zs.map fun z => z.cps.toList).map (·.length)).sum + (zs.map fun z => z.cps.toList).length * z.cps.toList.length ≤ sizeMax then kz (.str (joinD z.cps.toList (zs.map fun z => z.cps.toList))) else none := by
          show (strsOf ds).bind _ = _; rw [e2]; rfl
        rw [e3] at y2
        split at y2
        · rename_i hz
          have y2 : KE G F H σ T Q (.fz, .str (joinD z.cps.toList (zs.map fun z => z.cps.toList))) S2 := y2
          refine ⟨z, c, zs, rfl, rfl, .inl (.inl (.inl (st2.sub _ _ hc))), ?_, ?_⟩
          · have e4 : (zs.map (·.length)) = ((zs.map fun z => z.cps.toList).map (·.length)) := by
              rw [List.map_map]
              exact List.map_congr_left fun z _ => str_len z
            rw [e4, str_len z]
            have hz2 := hz
            rw [List.length_map (as := zs)] at hz2
            exact hz2
          · have e5 : (Txt.join z zs).cps.toList = joinD z.cps.toList (zs.map fun z => z.cps.toList) := by
              rw [TL.join_eq]
              exact (TL.tl_join z zs).trans (joinD_eq _ _)
            rw [← e5] at y2
            exact KE.val (KE.re (s1.trans s2) y2) st2 (.str _)
        · exact y2.elim
    | _ => exact y2.elim
  | _ => exact y.elim
/-! ### a look that gives a new list -/
theorem flat_reps {F : Hp} (F' : Hp) : ∀ {vs : List V} {ds : List D}, ds.all D.flat = true → Reps G F vs ds → Reps G F' vs ds
  | _, _, _, .nil => .nil
  | _, _, h, .cons r s => by
    obtain ⟨h1, h2⟩ := Bool.and_eq_true_iff.mp (show (D.flat _ && List.all _ D.flat) = true from h)
    exact .cons (flat_rep h1 r F') (flat_reps F' h2 s)
theorem tr_peekL {e : Expr} {m : E} {W' : WX} (h : TrE X G W' e m) : TrE X G W e (ePeekL m) := by
  obtain ⟨t, hp, hd⟩ := h
  refine ⟨t, hp, fun F H σ S T Q st p => ?_⟩
  have st2 : St' G H H σ (S.map frz) nil0 := ⟨st.pi, Same.refl H, slots_frz st.sub st.sl, fun _ => Nat.zero_le _, fun _ _ => rfl⟩
  unfold ePeekL at p
  refine hd H H σ (S.map frz) nil0 Q st2 ?_
  cases e : m (S.map frz) with
  | exc x S => rw [e] at p; exact p.elim
  | bad => rw [e] at p; exact p.elim
  | ok kd S1 =>
    rw [e] at p
    obtain ⟨kk, d⟩ := kd
    split at p
    · rename_i ds S2 e3
      cases e3
      split at p
      · rename_i fl
        have p : KE G F H σ T Q (.li .fz, .lst ds) S := p
        intro v F' H' T' f s' st' o le di
        have sHH : Same H H' := fun a u e => s'.fr a u rfl e
        cases o with
        | @li _ a vs _ g hh r =>
          obtain ⟨r1, e1⟩ := reps_fz r
          subst e1
          have hn : ∀ b, add (one a) nil0 b ≠ 0 → H b = none := fun b n => (s'.nT b (by simp only [add] at *; omega)).resolve_left fun z => z rfl
          have ha : H a = none := hn a (by simp [add, one])
          have fa : F a = none := st.sub.free ha
          have tz : ∀ b, add (one a) nil0 b ≠ 0 → T b = 0 := fun b n => Decidable.byContradiction fun z => st.sl.there b z (hn b n)
          refine p (.ref a) F H' T (add (one a) nil0) ⟨Same.refl F, fun a u _ e => sHH a u e, fun b n => ?_, fun a h n => absurd h n, s'.tl⟩ ⟨st.pi, fun a u e => sHH _ _ (st.sub _ _ e), st.sl.mono (Same.refl F) fun a u _ e => sHH a u e, st.le, st.di⟩ (.li hh (owns_fz (flat_reps F fl r1))) (fun b => ?_) (fun b n => ?_)
          · by_cases z : T b = 0
            · exact .inr (hn b (by simp only [add] at *; omega))
            · exact .inl z
          · have h1 := st.le b
            by_cases z : add (one a) nil0 b = 0
            · omega
            · have h2 := tz b z; have : add (one a) nil0 b ≤ 1 := by simp only [add, one, nil0]; split <;> omega
              omega
          · by_cases z : b = a
            · subst z; rw [fa] at n; exact absurd rfl n
            · simp [add, one, nil0, z]
      · exact p.elim
    · exact p.elim
end
end TB

namespace TB
open PySem PySem.Spec PyProof.Rows L2
section
variable {X : Cx} {G : Cfgx} {W : WX} {k : Nat}
/-! ### dicts -/
theorem tr_dnew {pos : Pos} : TrE X G W (.Dict [] [] pos) eDnew := ⟨_, pe_dnewK, fun F H σ S T Q st z => by
  have z : KE G F H σ T Q (.dK .fz, .dic []) S := z
  intro p hp
  obtain ⟨st2, s, le, fp⟩ := st.newT (o := .dK []) hp
  refine z (.ref p) F _ T (add (one p) nil0) (s.castR fun a => rfl) st2 (.dK (kds := []) upd_same rfl .nil) (fun a => le a) fun a n => ?_
  by_cases q : a = p
  · subst q; rw [fp] at n; exact absurd rfl n
  · simp [add, one, nil0, q]⟩
theorem key_of {F : Hp} {v : V} {d : D} (h : isKey d = true) (r : Rep G F v d) : ∃ kk, v = kV kk ∧ d = keyD kk := by
  cases r <;> first | cases h | skip
  · exact ⟨.inl _, rfl, rfl⟩
  · exact ⟨.inr _, rfl, rfl⟩
theorem key_eqv (a b : Key) : D.eqv (keyD a) (keyD b) = decide (a = b) := by
  cases a with
  | inl i => cases b with
    | inl j => simp [keyD, D.eqv, BEq.beq]
    | inr z => simp [keyD, D.eqv]
  | inr w => cases b with
    | inl j => simp [keyD, D.eqv]
    | inr z =>
      show (w.cps.toList == z.cps.toList) = _
      have e : (Sum.inr w : Key) = Sum.inr z ↔ w.cps.toList = z.cps.toList := by
        constructor
        · intro h; cases h; rfl
        · intro h
          cases w; cases z
          have h2 := Array.toList_inj.mp h
          simp at h2
          rw [h2]
      rw [Bool.eq_iff_iff, beq_iff_eq, decide_eq_true_iff]
      exact e.symm
theorem put_any {kvs : List (Key × V)} {kds : List (D × D)} (hk : kds.map (·.1) = kvs.map (fun p => keyD p.1)) (kk : Key) : (kds.any fun p => D.eqv p.1 (keyD kk)) = kvs.any fun kv => decide (kv.1 = kk) := by
  induction kvs generalizing kds with
  | nil => cases kds with
    | nil => rfl
    | cons a b => simp at hk
  | cons p r ih => cases kds with
    | nil => simp at hk
    | cons a b =>
      obtain ⟨h1, h2⟩ := List.cons.inj (show a.1 :: b.map (·.1) = keyD p.1 :: r.map (fun p => keyD p.1) from hk)
      rw [List.any_cons, List.any_cons, ih h2, h1, key_eqv]
theorem put_map {F : Hp} {kvs : List (Key × V)} {kds : List (D × D)} (hk : kds.map (·.1) = kvs.map (fun p => keyD p.1)) (hr : Reps G F (kvs.map (·.2)) (kds.map (·.2))) (kk : Key) {v : V} {d : D} (r : Rep G F v d) :
    (kds.map fun p => if D.eqv p.1 (keyD kk) = true then (p.1, d) else p).map (·.1) = (kvs.map fun kv => if kv.1 = kk then (kv.1, v) else kv).map (fun p => keyD p.1) ∧ Reps G F ((kvs.map fun kv => if kv.1 = kk then (kv.1, v) else kv).map (·.2)) ((kds.map fun p => if D.eqv p.1 (keyD kk) = true then (p.1, d) else p).map (·.2)) := by
  induction kvs generalizing kds with
  | nil => cases kds with
    | nil => exact ⟨rfl, .nil⟩
    | cons a b => simp at hk
  | cons p q ih => cases kds with
    | nil => simp at hk
    | cons a b =>
      obtain ⟨h1, h2⟩ := List.cons.inj (show a.1 :: b.map (·.1) = keyD p.1 :: q.map (fun p => keyD p.1) from hk)
      cases hr with
      | cons r1 r2 =>
        obtain ⟨i1, i2⟩ := ih h2 r2
        have e : D.eqv a.1 (keyD kk) = decide (p.1 = kk) := by rw [h1, key_eqv]
        by_cases z : p.1 = kk
        · rw [decide_eq_true z] at e
          simp only [List.map_cons, e, if_pos z, if_true]
          exact ⟨by rw [i1, h1], .cons r i2⟩
        · rw [decide_eq_false z] at e
          simp only [List.map_cons, e, if_neg z, Bool.false_eq_true, if_false]
          exact ⟨by rw [i1, h1], .cons r1 i2⟩
theorem put_rep {F : Hp} {kvs : List (Key × V)} {kds : List (D × D)} (hk : kds.map (·.1) = kvs.map (fun p => keyD p.1)) (hr : Reps G F (kvs.map (·.2)) (kds.map (·.2))) (kk : Key) {v : V} {d : D} (r : Rep G F v d) :
    (putD kds (keyD kk) d).map (·.1) = (putK kvs kk v).map (fun p => keyD p.1) ∧ Reps G F ((putK kvs kk v).map (·.2)) ((putD kds (keyD kk) d).map (·.2)) := by
  unfold putD putK
  rw [put_any hk kk]
  split
  · exact put_map hk hr kk r
  · rw [List.map_append, List.map_append, List.map_append, List.map_append, hk]
    exact ⟨rfl, hr.app (.cons r .nil)⟩
theorem tr_dput (i : Nat) {x : PySem.Str} {e kx : Expr} {m n : E} {p pos' pos : Pos} (C : Cok X G W k) (h : TrE X G W e m) (h2 : TrE X G W kx n)
    (hN : X.N[i]? = some x := by rfl) (hv : Vis X.env.scope x := by first | exact Or.inl rfl | exact Or.inr (Or.inl rfl) | exact Or.inr (Or.inr rfl)) (hd : (x == ("__debug__" : PySem.Str)) = false := by decide) (hcd : (x == ("__classdict__" : PySem.Str)) = false := by decide)
    (hs : swapsWith e (some (.Subscript (.Name x p) kx pos')) pos.line X.env = pure false := by rfl) :
    TrS X G W (.Assign [.Subscript (.Name x p) kx pos'] e pos) (sDput i n m) := by
  obtain ⟨t, q, d⟩ := h
  obtain ⟨u, q2, d2⟩ := h2
  have hu : X.A.units + 1 < cLine := by have := C.room.units; omega
  refine ⟨_, ps_dput hu (pe_var hN hv hd hcd) q2 q hs, fun F H σ S T D st z => d.dat F H σ S T _ st (PRs.bind z fun y S1 z1 => ?_)⟩
  intro v F1 H1 T1 s1 st1 r1
  obtain ⟨⟨xs0, e0⟩, z1⟩ := has_dictS st1 (PRs.reS s1 z1)
  obtain ⟨a, vs0, hv0, _⟩ := own_dict st1 e0
  refine ⟨_, hv0, ?_⟩
  refine d2.dat F1 H1 σ S1 T1 _ st1 (PRs.bind z1 fun kk S2 z2 => ?_)
  intro w F2 H2 T2 s2 st2 r2
  have z2 := PRs.reS s2 z2
  cases e2 : ownK S2 i with
  | none => rw [e2] at z2; exact z2.elim
  | some xs =>
    rw [e2] at z2
    obtain ⟨a', vs, hv2, hH, hk, rs, up⟩ := own_dict st2 e2
    rw [hv0] at hv2
    cases hv2
    have z2 : PRs G W F2 H2 T2 (KS G F2 H2 T2 D) (if isKey kk = true ∧ xs.length < sizeMax then .ok .nx (S2.set i (some (.dK .fz, .dic (putD xs kk y)))) else .bad) := z2
    split at z2
    · rename_i hz
      obtain ⟨key, ev, ed⟩ := key_of hz.1 r2
      subst ev ed
      obtain ⟨p1, p2⟩ := put_rep hk rs key (r1.mono s2.sF)
      obtain ⟨st3, s3⟩ := up (putK vs key v) (putD xs (keyD key) y) p1 p2
      have hl : vs.length = xs.length := by
        have := congrArg List.length hk
        simpa using this.symm
      exact ⟨a, _, rfl, DPut.k hH (by rw [hl]; exact hz.2), (show KS G F2 H2 T2 D .nx _ from z2) σ F2 _ T2 s3 st3⟩
    · exact z2.elim
/-! ### list(range(n)) -/
theorem tr_listRg1 {a : Expr} {m : E} {p q pos pos2 : Pos} (C : Cok X G W k) (h : TrE X G W a m) (hm : X.mg "list" = none) (hm2 : X.mg "range" = none) (hg : Gl X "list" := by rfl) (hg2 : Gl X "range" := by rfl) (na2 : starEach [a] X.env = (false, eval a X.env) :: starEach [] X.env := by rfl)
    (na : starEach [.Call (.Name "range" q) [a] [] pos2] X.env = (false, eval (.Call (.Name "range" q) [a] [] pos2) X.env) :: starEach [] X.env := by rfl) : TrE X G W (.Call (.Name "list" p) [.Call (.Name "range" q) [a] [] pos2] [] pos) (eLRg1 m) := by
  obtain ⟨t, pa, d⟩ := h
  refine ⟨_, pe_listRg C.calm hg hm (prg_1 hg2 hm2 pa na2) na, fun F H σ S T Q st z => d.dat F H σ S T _ st (PR.bind z fun x S1 y => ?_)⟩
  intro v F1 H1 T1 s1 st1 r1
  cases r1 with
  | int j =>
    have y : PR G W F H σ T (KE G F H σ T Q) ((if j.natAbs ≤ sizeMax then M.pure (.li .fz, .lst (rangeL 0 j.toNat)) else fun _ => .bad) S1) := y
    split at y
    · rename_i hz
      have y : KE G F H σ T Q (.li .fz, .lst (rangeL 0 j.toNat)) S1 := y
      have l : limN = 4611686018427387904 := rfl
      have l2 : (sizeMax : Int) = 16777216 := rfl
      refine ⟨j, rfl, ⟨by omega, by omega, by omega, by omega, by omega⟩, fun p hp => KE.newL (y.re s1) st1 ?_ p hp⟩
      unfold rgV rangeL
      rw [show (j - 0).toNat = j.toNat by omega]
      have : ∀ l : List Nat, Reps G F1 (l.map fun i => V.int (0 + (i : Nat))) (l.map fun (i : Nat) => D.int (0 + (i : Int))) := by
        intro l
        induction l with
        | nil => exact .nil
        | cons a b ih => exact .cons (.int _) ih
      exact this _
    · exact y.elim
  | _ => exact y.elim
/-! ### insert, pop -/
theorem tr_insert (i : Nat) {x : PySem.Str} {e e2 : Expr} {m m2 : E} {p apos cpos : Pos} (h : TrE X G W e m) (h2 : TrE X G W e2 m2) (hs : starEach [e, e2] X.env = (false, eval e X.env) :: starEach [e2] X.env := by rfl) (hs2 : starEach [e2] X.env = (false, eval e2 X.env) :: starEach [] X.env := by rfl)
    (hN : X.N[i]? = some x := by rfl) (hv : Vis X.env.scope x := by first | exact Or.inl rfl | exact Or.inr (Or.inl rfl) | exact Or.inr (Or.inr rfl)) (hd : (x == ("__debug__" : PySem.Str)) = false := by decide) (hcd : (x == ("__classdict__" : PySem.Str)) = false := by decide)
    (hbase : attributeBase (.Name x p) "insert" X.env (eval (.Name x p) X.env) = eval (.Name x p) X.env := by rfl)
    (hfew : ((backTo cpos (starEach [e, e2] X.env)).all (fun x => !x.1) && (backToKw cpos (keywordEach [] X.env)).all (fun x => x.1.isSome)
      && decide ([e, e2].length + ([] : List Keyword).length + (if ([] : List Keyword).isEmpty then 0 else 1) < 30)) = true := by rfl)
    (hline : (apos.endLine == cpos.line) = true := by rfl) (hplain : (backTo cpos (starEach [e2] X.env)).any (·.1) = false := by rfl) :
    TrE X G W (.Call (.Attribute (.Name x p) "insert" apos) [e, e2] [] cpos) (eMth fInsert i [m, m2]) :=
  tr_mth i F.slot_list_insert F.type_list_insert mt_insert mo_insert (tra_cons h (tra_cons h2 tra_nil hs2) hs) hN hv hd hcd hbase hfew hline hs hplain
theorem tr_popAt (i : Nat) {x : PySem.Str} {e : Expr} {m : E} {p apos cpos : Pos} (h : TrE X G W e m) (hs : starEach [e] X.env = (false, eval e X.env) :: starEach [] X.env := by rfl)
    (hN : X.N[i]? = some x := by rfl) (hv : Vis X.env.scope x := by first | exact Or.inl rfl | exact Or.inr (Or.inl rfl) | exact Or.inr (Or.inr rfl)) (hd : (x == ("__debug__" : PySem.Str)) = false := by decide) (hcd : (x == ("__classdict__" : PySem.Str)) = false := by decide)
    (hbase : attributeBase (.Name x p) "pop" X.env (eval (.Name x p) X.env) = eval (.Name x p) X.env := by rfl)
    (hfew : ((backTo cpos (starEach [e] X.env)).all (fun x => !x.1) && (backToKw cpos (keywordEach [] X.env)).all (fun x => x.1.isSome)
      && decide ([e].length + ([] : List Keyword).length + (if ([] : List Keyword).isEmpty then 0 else 1) < 30)) = true := by rfl)
    (hline : (apos.endLine == cpos.line) = true := by rfl) (hplain : (backTo cpos (starEach [] X.env)).any (·.1) = false := by rfl) :
    TrE X G W (.Call (.Attribute (.Name x p) "pop" apos) [e] [] cpos) (eMth fPopAt i [m]) :=
  tr_mth i F.slot_list_pop F.type_list_pop mt_popAt mo_popAt (tra_cons h tra_nil hs) hN hv hd hcd hbase hfew hline hs hplain
end
end TB

namespace TB
open PySem PySem.Spec PyProof.Rows L2
/-! ### xs[a:c] = ys, c beyond the end too -/
theorem bounds_cut {a c n : Nat} (ha : a ≤ n) : sliceBounds (some (a : Int)) (some (c : Int)) none n = ((a : Int), ((min c n : Nat) : Int), 1) := by
  simp only [sliceBounds, Option.getD_none]
  have h1 : ¬ ((a : Int) < 0) := by omega
  have h2 : ¬ ((c : Int) < 0) := by omega
  simp only [h1, h2, if_false, show (1 : Int) > 0 by decide, if_true]
  congr 1
  · omega
  · congr 1; omega
section
variable {prog : Program} {w : World} {A : Around} {E : Value → Shared → Prop} {s : Shared}
theorem setSlice_cut {l b sl : Addr} {items new : Array Value} {n n2 : Nat} {vl vu : Value} {a c : Nat} {Q : Unit → Shared → Prop}
    (e : s.heap.get? l = some { cls := .type "list", data := .seq items n }) (e2 : s.heap.get? b = some { cls := .type "list", data := .seq new n2 }) (hne : l ≠ b)
    (hs : s.heap.IsSliceOf sl vl vu .none) (pl : IsPart vl (some (a : Int))) (pu : IsPart vu (some (c : Int))) (hac : a ≤ c) (ha : a ≤ items.size)
    (hsz : items.size + new.size ≤ sizeLine) (h : Q () { s with heap := s.heap.update l (Obj.mapSeq fun xs => xs.extract 0 a ++ new ++ xs.extract (min c items.size) xs.size) }) :
    wpAny (model prog w) A (setItem (.ref l) (.ref sl) (.ref b)) Q E s := by
  have hl : s.heap.IsList l items := PySem.IsL.isList e
  have hb : s.heap.IsList b new := PySem.IsL.isList e2
  obtain ⟨os, hos, hcs, hds⟩ := id hs
  have hTs : s.TypeIs (.ref sl) "slice" := ⟨os, hos, hcs⟩
  have hstep : ¬ ((rawPart none == rawInt 0) = true) := Bool.false_ne_true
  have hsame : Builtin.List.listSameRef (.ref l) (.ref b) = false := beq_eq_false_iff_ne.mpr hne
  have hmax : (max (a : Int) ((min c items.size : Nat) : Int)).toNat = min c items.size := by omega
  have hz' : ((fun xs : Array Value => xs.extract 0 a ++ new ++ xs.extract (min c items.size) xs.size) items).size ≤ sizeLine + 1 := by
    simp only [Array.size_append, Array.size_extract]
    omega
  unfold setItem
  try with_reducible refine wpAny_holding ?_
  first | refine wpAny_bind (wpAny_pure ?_) | skip
  refine wpAny_bind (wpAny_sequenceKey hl.typeIs (by decide) ?_)
  refine wpAny_bind (wpAny_callSpecial?_slot (name := Str.ofString "__setitem__") hl.typeIs slot_list_setitem
    (wpAny_call_entry slot_list_setitem hl.typeIs entry_list_setitem ?_ (args_list_setitem _ _ _)))
  show wpAny _ _ (Builtin.List.listSubscript? (.ref sl) >>= _) _ _ s
  refine wpAny_bind ?_
  unfold Builtin.List.listSubscript?
  refine wpAny_bind (wpAny_specialOf hTs slice_no_index ?_)
  simp only [Option.isNone_none, if_true]
  refine wpAny_pure ?_
  show wpAny _ _ (typeOf (.ref sl) >>= _) _ _ s
  refine wpAny_bind (wpAny_typeOf hTs ?_)
  first
    | rw [if_neg (by decide)]
    | refine PySem.W.KFB.if_not (by decide) ?_
  rw [listSliceParts_eq]
  refine wpAny_bind (wpAny_bind (wpAny_field hos hds (x := .none) rfl (wpAny_bind (wpAny_listPart .none ?_))))
  rw [if_neg hstep]
  refine wpAny_bind (wpAny_field hos hds (x := vl) rfl (wpAny_bind (wpAny_listPart pl ?_)))
  refine wpAny_bind (wpAny_field hos hds (x := vu) rfl (wpAny_bind (wpAny_listPart pu (wpAny_pure ?_))))
  first
    | simp only [hsame, Bool.false_eq_true, if_false]
    | refine PySem.W.KFB.if_not hsame ?_
    | (dsimp only
       rw [if_neg (by rw [hsame]; exact Bool.false_ne_true)])
  refine wpAny_bind (m := Builtin.List.listAllItems (.ref b) "must assign iterable to extended slice") ?_
  unfold Builtin.List.listAllItems
  refine wpAny_bind (wpAny_typeOf hb.typeIs ?_)
  first
    | refine PySem.W.KFB.if_so (by decide) ?_
    | rw [if_pos (by decide)]
    | simp only [beq_self_eq_true, Bool.true_or, if_true]
  unfold Builtin.List.listItems
  refine wpAny_bind (wpAny_seqItems e2 rfl (wpAny_pure ?_))
  refine wpAny_bind (wpAny_bind (wpAny_seqItems e rfl (wpAny_pure ?_)))
  refine wpAny_bind (wpAny_of_eq ((sliceIndices_raw (some (a : Int)) (some (c : Int)) none items.size (by simp)).trans (congrArg (pure : Int × Int × Int → Sem (Int × Int × Int)) (bounds_cut ha))) ?_)
  show wpAny _ _ (if ((1 : Int) == 1) = true then _ else _) _ _ s
  rw [if_pos (by decide)]
  refine wpAny_bind (wpAny_rule ?_)
  first
    | simp only [notLongL hsz, Bool.false_eq_true, if_false]
    | refine PySem.W.KFB.if_not (notLongL hsz) ?_
  first | refine wpAny_bind (wpAny_pure ?_) | skip
  show wpAny _ _ (updateSeq l (fun xs => xs.extract 0 ((a : Int)).toNat ++ new ++ xs.extract (max (a : Int) ((min c items.size : Nat) : Int)).toNat xs.size) >>= _) _ _ s
  rw [hmax, Int.toNat_natCast]
  refine wpAny_bind (wpAny_updateSeq (hz := Nat.le_trans (Nat.le_add_right _ _) hsz) (_hz' := hz') e rfl ?_)
  refine wpAny_bind (wpAny_letGo ?_)
  first
    | exact wpAny_bind (wpAny_pure (wpAny_pure ⟨.none, rfl, wpAny_pure h⟩))
    | exact wpAny_pure ⟨.none, rfl, wpAny_pure h⟩
end
def gSl (to : TE) (tl th : TO) : TG := fun v σ H Q => to σ H fun o H1 => tl σ H1 fun x H2 => th σ H2 fun y H3 => ∃ (l b : Addr) (xs ys : List V) (i j : Nat), o = .ref l ∧ v = .ref b ∧ x = some (i : Int) ∧ y = some (j : Int) ∧ H3 l = some (.lst xs) ∧ H3 b = some (.lst ys) ∧ l ≠ b ∧ i ≤ j ∧ i ≤ xs.length ∧
  xs.length + ys.length ≤ sizeLine ∧ Q σ (upd H3 l (.lst (xs.take i ++ ys ++ xs.drop j)))
section
variable {X : Cx} {G : Cfgx} {W : WX} {k : Nat}
theorem pg_sl {o : Expr} {a b : Option Expr} {to : TE} {tl th : TO} {p2 pos : Pos} (ho : PE X o to) (ha : PO X a tl) (hb : PO X b th)
    (has : ∀ v, assign (.Subscript o (.Slice a b none p2) pos) X.env v = (do
      let ov ← holding [v] (eval o X.env)
      let iv ← holding [v, ov] (eval (.Slice a b none p2) X.env)
      standAt pos
      holding [v, ov, iv] (setItem ov iv v)
      release [iv, v, ov] []) := by intro _; rfl) : PG X (.Subscript o (.Slice a b none p2) pos) (gSl to tl th) := by
  refine ⟨fun pins s σ H v u Q I r h => ?_⟩
  rw [has]
  refine wpAny_bind (wpAny_holding (thn (ho.run pins s σ H _ I h) fun ov s1 ⟨x, H1, I1, r1, q1⟩ => ?_))
  refine wpAny_bind (wpAny_holding (wpAny_Slice (thn (ha.run pins s1 σ H1 _ I1 q1) fun vl s2 ⟨l, H2, I2, pl, q2⟩ => thn (hb.run pins s2 σ H2 _ I2 q2) fun vu s3 ⟨h2, H3, I3, pu, q3⟩ => ?_)))
  rw [evalPart_none]
  refine wpAny_pure ?_
  obtain ⟨ad, bd, xs, ys, i, j, rfl, rfl, rfl, rfl, hl, hbb, hne, hij, hi, hz, q⟩ := q3
  cases r
  cases r1
  have I4 : Inv X pins σ H3 { s3 with heap := s3.heap.push { cls := .type "slice", data := .fields #[vl, vu, .none] } } := I3.kept (t' := s3.toks) fun b ob q => Heap.get?_push_of_some _ q
  refine wpAny_bind (wpAny_standAt (wpAny_bind (wpAny_holding ?_)))
  obtain ⟨z, its, n, rr, hl1, e⟩ := I4.lstM hl
  obtain ⟨z2, its2, n2, rr2, hl2, e2⟩ := I4.lstM hbb
  refine setSlice_cut (a := i) (c := j) e e2 hne (Heap.IsSliceOf.new ..) pl pu hij (by rw [List.size_toArray]; omega) (by rw [List.size_toArray, List.size_toArray]; omega) ?_
  refine wpAny_release ⟨σ, _, ?_, q⟩
  refine I4.lset (its' := its.take i ++ its2 ++ its.drop j) hl e ?_ (Vals.append (Vals.append (rr.take _) rr2) (rr.drop _)) ?_
  · show its.toArray.extract 0 i ++ its2.toArray ++ its.toArray.extract (min j its.toArray.size) its.toArray.size = _
    rw [splice_eq its its2 i (min j its.toArray.size), List.size_toArray]
    congr 2
    by_cases hj : j ≤ its.length
    · rw [Nat.min_eq_left hj]
    · rw [Nat.min_eq_right (by omega), List.drop_of_length_le (by omega), List.drop_of_length_le (by omega)]
  · rw [List.length_append, List.length_append, List.length_take, List.length_drop]
    omega
theorem tr_setSl (i : Nat) {x : PySem.Str} {e kx ky : Expr} {m n n2 : E} {p p2 pos' pos : Pos} (h : TrE X G W e m) (h2 : TrE X G W kx n) (h3 : TrE X G W ky n2)
    (hN : X.N[i]? = some x := by rfl) (hv : Vis X.env.scope x := by first | exact Or.inl rfl | exact Or.inr (Or.inl rfl) | exact Or.inr (Or.inr rfl)) (hd : (x == ("__debug__" : PySem.Str)) = false := by decide) (hcd : (x == ("__classdict__" : PySem.Str)) = false := by decide)
    (ha : ∀ v, assign (.Subscript (.Name x p) (.Slice (some kx) (some ky) none p2) pos') X.env v = (do
      let ov ← holding [v] (eval (.Name x p) X.env)
      let iv ← holding [v, ov] (eval (.Slice (some kx) (some ky) none p2) X.env)
      standAt pos'
      holding [v, ov, iv] (setItem ov iv v)
      release [iv, v, ov] []) := by intro _; rfl)
    (hs : swapsWithSole [.Subscript (.Name x p) (.Slice (some kx) (some ky) none p2) pos'] e pos.line X.env = pure false := by rfl) (hw : swappedStores [.Subscript (.Name x p) (.Slice (some kx) (some ky) none p2) pos'] e X.env = pure none := by rfl) (h1 : (assignEach [.Subscript (.Name x p) (.Slice (some kx) (some ky) none p2) pos'] X.env).map (·.2) = [assign (.Subscript (.Name x p) (.Slice (some kx) (some ky) none p2) pos') X.env] := by rfl) :
    TrS X G W (.Assign [.Subscript (.Name x p) (.Slice (some kx) (some ky) none p2) pos'] e pos) (sSetSl i n n2 m) := by
  obtain ⟨t, q, d⟩ := h
  obtain ⟨u, q2, d2⟩ := h2
  obtain ⟨w, q3, d3⟩ := h3
  refine ⟨_, ps_asg q (pg_sl (pe_var hN hv hd hcd) (po_some q2) (po_some q3) ha) hs hw h1, fun F H σ S T D st z => d.dat F H σ S T _ st (PRs.bind z fun y S1 z1 => ?_)⟩
  intro v F1 H1 T1 s1 st1 r1
  obtain ⟨⟨xs0, e0⟩, z1⟩ := has_listS st1 (PRs.reS s1 z1)
  obtain ⟨a, vs0, hv0, _⟩ := own_list st1 e0
  refine ⟨_, hv0, ?_⟩
  refine d2.dat F1 H1 σ S1 T1 _ st1 (PRs.bind z1 fun kl S2 z2 => ?_)
  intro vl F2 H2 T2 s2 st2 r2
  have z2 := PRs.reS s2 z2
  refine (show ∃ i, vl = V.int i ∧ tPart w σ H2 _ from ?_)
  cases r2 with
  | int il =>
    refine ⟨il, rfl, ?_⟩
    refine d3.dat F2 H2 σ S2 T2 _ st2 (PRs.bind z2 fun kh S3 z3 => ?_)
    intro vh F3 H3 T3 s3 st3 r3
    have z3 := PRs.reS s3 z3
    cases r3 with
    | int ih =>
      refine ⟨ih, rfl, ?_⟩
      have r1 := (r1.mono s2.sF).mono s3.sF
      cases r1 with
      | @lst b us ys hb ru =>
        have z3 : PRs G W F3 H3 T3 (KS G F3 H3 T3 D) (match ownL S3 i with | some xs => if 0 ≤ il ∧ il ≤ ih ∧ il ≤ xs.length ∧ xs.length + ys.length ≤ sizeMax then .ok .nx (S3.set i (some (.li .fz, .lst (xs.take il.toNat ++ ys ++ xs.drop ih.toNat)))) else .bad | none => .bad) := z3
        cases e2 : ownL S3 i with
        | none => rw [e2] at z3; exact z3.elim
        | some xs =>
          rw [e2] at z3
          obtain ⟨a', vs, hv2, hH, rs, t1, up⟩ := own_list st3 e2
          rw [hv0] at hv2
          cases hv2
          have z3 : PRs G W F3 H3 T3 (KS G F3 H3 T3 D) (if 0 ≤ il ∧ il ≤ ih ∧ il ≤ xs.length ∧ xs.length + ys.length ≤ sizeMax then .ok .nx (S3.set i (some (.li .fz, .lst (xs.take il.toNat ++ ys ++ xs.drop ih.toNat)))) else .bad) := z3
          split at z3
          · rename_i hz
            obtain ⟨z4, z5, z6, z7⟩ := hz
            obtain ⟨st4, s4⟩ := up (vs.take il.toNat ++ us ++ vs.drop ih.toNat) _ (((rs.take _).app ru).app (rs.drop _))
            have hne : a ≠ b := fun q => by
              subst q
              rw [t1] at hb; cases hb
            exact ⟨a, b, vs, us, il.toNat, ih.toNat, rfl, rfl, by rw [Int.toNat_of_nonneg z4], by rw [Int.toNat_of_nonneg (by omega)], hH, st3.sub _ _ hb, hne, by omega, by rw [rs.len]; omega, by rw [rs.len, ru.len]; exact z7, (show KS G F3 H3 T3 D .nx _ from z3) σ F3 _ T3 s4 st4⟩
          · exact z3.elim
      | _ => exact z3.elim
    | _ => exact z3.elim
  | _ => exact z2.elim
theorem tr_slO (i : Nat) {x : PySem.Str} {lo hi : Option Expr} {ml mh : Option E} {p p2 pos : Pos} (hl : TrO X G W lo ml) (hh : TrO X G W hi mh) (hN : X.N[i]? = some x := by rfl) (hv : Vis X.env.scope x := by first | exact Or.inl rfl | exact Or.inr (Or.inl rfl) | exact Or.inr (Or.inr rfl)) (hd : (x == ("__debug__" : PySem.Str)) = false := by decide) (hcd : (x == ("__classdict__" : PySem.Str)) = false := by decide) :
    TrE X G W (.Subscript (.Name x p) (.Slice lo hi none p2) pos) (eSlO i ml mh) := by
  obtain ⟨u, q, d2⟩ := hl
  obtain ⟨w, r, d3⟩ := hh
  refine ⟨_, pe_slice sl_list (pe_var hN hv hd hcd) q r, fun F H σ S T Q st z => ?_⟩
  obtain ⟨⟨xs0, e0⟩, z1⟩ := has_list st z
  obtain ⟨a, vs0, hv0, _⟩ := own_list st e0
  refine ⟨_, hv0, ?_⟩
  refine d2 F H σ S T _ st (PR.bind z1 fun l S2 y2 => ?_)
  intro F2 H2 T2 s2 st2
  refine d3 F2 H2 σ S2 T2 _ st2 (PR.bind (PR.re s2 (fun _ _ h => h) y2) fun h S3 y3 => ?_)
  intro F3 H3 T3 s3 st3
  cases e2 : ownL S3 i with
  | none => rw [e2] at y3; exact y3.elim
  | some xs =>
    rw [e2] at y3
    obtain ⟨a', vs, hv2, hH, rs, _, up⟩ := own_list st3 e2
    rw [hv0] at hv2
    cases hv2
    have y3 : KE G F H σ T Q (.li .fz, .lst (cutL xs l h)) S3 := y3
    exact ⟨a, vs, rfl, .inl (.inl hH), fun p hp => KE.newL (y3.re (s2.trans s3)) st3 (rs.cut l h) p hp⟩
end
end TB

namespace TB
open PySem PySem.Spec PyProof.Rows L2
theorem S2.or {G : Cfgx} {r r' : R2} {f g : D → D → Option KD} (h : S2 G r f) (h' : S2 G r' g) : S2 G (fun x y H Q => r x y H Q ∨ r' x y H Q) (fOr f g) := by
  intro F H σ S T x y dx dy kd Q st rx ry e q
  unfold fOr at e
  cases e1 : f dx dy with
  | some a => rw [e1] at e; cases e; exact .inl (h F H σ S T x y dx dy kd Q st rx ry e1 q)
  | none => rw [e1] at e; exact .inr (h' F H σ S T x y dx dy kd Q st rx ry e q)
section
variable {X : Cx} {G : Cfgx} {W : WX} {k : Nat}
theorem cls_inA (hK : X.K = G.K) : ∃ r, OpR X (compareOp .In) r ∧ S2 G r fInA := by
  obtain ⟨r, h1, h2⟩ := cls_in (X := X) (G := G) hK
  obtain ⟨r', g1, g2⟩ := cls_inS (X := X) (G := G)
  exact ⟨_, orR h1 g1, h2.or g2⟩
theorem cls_notInA (hK : X.K = G.K) : ∃ r, OpR X (compareOp .NotIn) r ∧ S2 G r fNotInA := by
  obtain ⟨r, h1, h2⟩ := cls_notIn (X := X) (G := G) hK
  obtain ⟨r', g1, g2⟩ := cls_notInS (X := X) (G := G)
  exact ⟨_, orR h1 g1, h2.or g2⟩
theorem cls_isA : ∃ r, OpR X (compareOp .Is) r ∧ S2 G r fIsA := by
  obtain ⟨r, h1, h2⟩ := cls_isN (X := X) (G := G)
  obtain ⟨r', g1, g2⟩ := cls_isB (X := X) (G := G)
  exact ⟨_, orR h1 g1, h2.or g2⟩
theorem cls_notA : ∃ r, OpR X (compareOp .IsNot) r ∧ S2 G r fIsNotA := by
  obtain ⟨r, h1, h2⟩ := cls_notN (X := X) (G := G)
  obtain ⟨r', g1, g2⟩ := cls_notB (X := X) (G := G)
  exact ⟨_, orR h1 g1, h2.or g2⟩
theorem tr_Add (C : Cok X G W k) {a b : Expr} {ma mb : E} {pos : Pos} (ha : TrE X G W a ma) (hb : TrE X G W b mb) : TrE X G W (.BinOp a .Add b pos) (eOp fAdd ma mb) := by
  obtain ⟨r, h1, h2⟩ := cls_add (X := X) (G := G) C.hK
  exact tr_op h1 h2 ha hb
theorem tr_Sub (C : Cok X G W k) {a b : Expr} {ma mb : E} {pos : Pos} (ha : TrE X G W a ma) (hb : TrE X G W b mb) : TrE X G W (.BinOp a .Sub b pos) (eOp fSub ma mb) := by
  obtain ⟨r, h1, h2⟩ := cls_sub (X := X) (G := G)
  exact tr_op h1 h2 ha hb
theorem tr_Mult (C : Cok X G W k) {a b : Expr} {ma mb : E} {pos : Pos} (ha : TrE X G W a ma) (hb : TrE X G W b mb) : TrE X G W (.BinOp a .Mult b pos) (eOp fMul ma mb) := by
  obtain ⟨r, h1, h2⟩ := cls_mul (X := X) (G := G) C.hK
  exact tr_op h1 h2 ha hb
theorem tr_Mod (C : Cok X G W k) {a b : Expr} {ma mb : E} {pos : Pos} (ha : TrE X G W a ma) (hb : TrE X G W b mb) : TrE X G W (.BinOp a .Mod b pos) (eOp fMod ma mb) := by
  obtain ⟨r, h1, h2⟩ := cls_mod (X := X) (G := G)
  exact tr_op h1 h2 ha hb
theorem tr_FloorDiv (C : Cok X G W k) {a b : Expr} {ma mb : E} {pos : Pos} (ha : TrE X G W a ma) (hb : TrE X G W b mb) : TrE X G W (.BinOp a .FloorDiv b pos) (eOp fDiv ma mb) := by
  obtain ⟨r, h1, h2⟩ := cls_div (X := X) (G := G)
  exact tr_op h1 h2 ha hb
theorem tr_Pow (C : Cok X G W k) {a b : Expr} {ma mb : E} {pos : Pos} (ha : TrE X G W a ma) (hb : TrE X G W b mb) : TrE X G W (.BinOp a .Pow b pos) (eOp fPow ma mb) := by
  obtain ⟨r, h1, h2⟩ := cls_pow (X := X) (G := G)
  exact tr_op h1 h2 ha hb
theorem tr_Lt (C : Cok X G W k) {a b : Expr} {ma mb : E} {pos : Pos} (ha : TrE X G W a ma) (hb : TrE X G W b mb) (hm : behindInMarks .Lt b = false := by rfl) : TrE X G W (.Compare a [.Lt] [b] pos) (eOp fLt ma mb) := by
  obtain ⟨r, h1, h2⟩ := cls_lt (X := X) (G := G)
  exact tr_cmp h1 h2 ha hb hm
theorem tt_Lt (C : Cok X G W k) {a b : Expr} {ma mb : E} {pos : Pos} (ha : TrE X G W a ma) (hb : TrE X G W b mb) (hm : behindInMarks .Lt b = false := by rfl) : TrT X G W (.Compare a [.Lt] [b] pos) (eBool (eOp fLt ma mb)) := by
  obtain ⟨r, h1, h2⟩ := cls_lt (X := X) (G := G)
  exact tt_cmp h1 h2 ha hb hm
theorem tr_LtE (C : Cok X G W k) {a b : Expr} {ma mb : E} {pos : Pos} (ha : TrE X G W a ma) (hb : TrE X G W b mb) (hm : behindInMarks .LtE b = false := by rfl) : TrE X G W (.Compare a [.LtE] [b] pos) (eOp fLe ma mb) := by
  obtain ⟨r, h1, h2⟩ := cls_le (X := X) (G := G)
  exact tr_cmp h1 h2 ha hb hm
theorem tt_LtE (C : Cok X G W k) {a b : Expr} {ma mb : E} {pos : Pos} (ha : TrE X G W a ma) (hb : TrE X G W b mb) (hm : behindInMarks .LtE b = false := by rfl) : TrT X G W (.Compare a [.LtE] [b] pos) (eBool (eOp fLe ma mb)) := by
  obtain ⟨r, h1, h2⟩ := cls_le (X := X) (G := G)
  exact tt_cmp h1 h2 ha hb hm
theorem tr_Gt (C : Cok X G W k) {a b : Expr} {ma mb : E} {pos : Pos} (ha : TrE X G W a ma) (hb : TrE X G W b mb) (hm : behindInMarks .Gt b = false := by rfl) : TrE X G W (.Compare a [.Gt] [b] pos) (eOp fGt ma mb) := by
  obtain ⟨r, h1, h2⟩ := cls_gt (X := X) (G := G)
  exact tr_cmp h1 h2 ha hb hm
theorem tt_Gt (C : Cok X G W k) {a b : Expr} {ma mb : E} {pos : Pos} (ha : TrE X G W a ma) (hb : TrE X G W b mb) (hm : behindInMarks .Gt b = false := by rfl) : TrT X G W (.Compare a [.Gt] [b] pos) (eBool (eOp fGt ma mb)) := by
  obtain ⟨r, h1, h2⟩ := cls_gt (X := X) (G := G)
  exact tt_cmp h1 h2 ha hb hm
theorem tr_GtE (C : Cok X G W k) {a b : Expr} {ma mb : E} {pos : Pos} (ha : TrE X G W a ma) (hb : TrE X G W b mb) (hm : behindInMarks .GtE b = false := by rfl) : TrE X G W (.Compare a [.GtE] [b] pos) (eOp fGe ma mb) := by
  obtain ⟨r, h1, h2⟩ := cls_ge (X := X) (G := G)
  exact tr_cmp h1 h2 ha hb hm
theorem tt_GtE (C : Cok X G W k) {a b : Expr} {ma mb : E} {pos : Pos} (ha : TrE X G W a ma) (hb : TrE X G W b mb) (hm : behindInMarks .GtE b = false := by rfl) : TrT X G W (.Compare a [.GtE] [b] pos) (eBool (eOp fGe ma mb)) := by
  obtain ⟨r, h1, h2⟩ := cls_ge (X := X) (G := G)
  exact tt_cmp h1 h2 ha hb hm
theorem tr_Eq (C : Cok X G W k) {a b : Expr} {ma mb : E} {pos : Pos} (ha : TrE X G W a ma) (hb : TrE X G W b mb) (hm : behindInMarks .Eq b = false := by rfl) : TrE X G W (.Compare a [.Eq] [b] pos) (eOp fEq ma mb) := by
  obtain ⟨r, h1, h2⟩ := cls_eq (X := X) (G := G) C.hK C.room
  exact tr_cmp h1 h2 ha hb hm
theorem tt_Eq (C : Cok X G W k) {a b : Expr} {ma mb : E} {pos : Pos} (ha : TrE X G W a ma) (hb : TrE X G W b mb) (hm : behindInMarks .Eq b = false := by rfl) : TrT X G W (.Compare a [.Eq] [b] pos) (eBool (eOp fEq ma mb)) := by
  obtain ⟨r, h1, h2⟩ := cls_eq (X := X) (G := G) C.hK C.room
  exact tt_cmp h1 h2 ha hb hm
theorem tr_NotEq (C : Cok X G W k) {a b : Expr} {ma mb : E} {pos : Pos} (ha : TrE X G W a ma) (hb : TrE X G W b mb) (hm : behindInMarks .NotEq b = false := by rfl) : TrE X G W (.Compare a [.NotEq] [b] pos) (eOp fNe ma mb) := by
  obtain ⟨r, h1, h2⟩ := cls_ne (X := X) (G := G) C.hK C.room
  exact tr_cmp h1 h2 ha hb hm
theorem tt_NotEq (C : Cok X G W k) {a b : Expr} {ma mb : E} {pos : Pos} (ha : TrE X G W a ma) (hb : TrE X G W b mb) (hm : behindInMarks .NotEq b = false := by rfl) : TrT X G W (.Compare a [.NotEq] [b] pos) (eBool (eOp fNe ma mb)) := by
  obtain ⟨r, h1, h2⟩ := cls_ne (X := X) (G := G) C.hK C.room
  exact tt_cmp h1 h2 ha hb hm
theorem tr_In (C : Cok X G W k) {a b : Expr} {ma mb : E} {pos : Pos} (ha : TrE X G W a ma) (hb : TrE X G W b mb) (hm : behindInMarks .In b = false := by rfl) : TrE X G W (.Compare a [.In] [b] pos) (eOp fInA ma mb) := by
  obtain ⟨r, h1, h2⟩ := cls_inA (X := X) (G := G) C.hK
  exact tr_cmp h1 h2 ha hb hm
theorem tt_In (C : Cok X G W k) {a b : Expr} {ma mb : E} {pos : Pos} (ha : TrE X G W a ma) (hb : TrE X G W b mb) (hm : behindInMarks .In b = false := by rfl) : TrT X G W (.Compare a [.In] [b] pos) (eBool (eOp fInA ma mb)) := by
  obtain ⟨r, h1, h2⟩ := cls_inA (X := X) (G := G) C.hK
  exact tt_cmp h1 h2 ha hb hm
theorem tr_NotIn (C : Cok X G W k) {a b : Expr} {ma mb : E} {pos : Pos} (ha : TrE X G W a ma) (hb : TrE X G W b mb) (hm : behindInMarks .NotIn b = false := by rfl) : TrE X G W (.Compare a [.NotIn] [b] pos) (eOp fNotInA ma mb) := by
  obtain ⟨r, h1, h2⟩ := cls_notInA (X := X) (G := G) C.hK
  exact tr_cmp h1 h2 ha hb hm
theorem tt_NotIn (C : Cok X G W k) {a b : Expr} {ma mb : E} {pos : Pos} (ha : TrE X G W a ma) (hb : TrE X G W b mb) (hm : behindInMarks .NotIn b = false := by rfl) : TrT X G W (.Compare a [.NotIn] [b] pos) (eBool (eOp fNotInA ma mb)) := by
  obtain ⟨r, h1, h2⟩ := cls_notInA (X := X) (G := G) C.hK
  exact tt_cmp h1 h2 ha hb hm
theorem tr_Is (C : Cok X G W k) {a b : Expr} {ma mb : E} {pos : Pos} (ha : TrE X G W a ma) (hb : TrE X G W b mb) (hm : behindInMarks .Is b = false := by rfl) : TrE X G W (.Compare a [.Is] [b] pos) (eOp fIsA ma mb) := by
  obtain ⟨r, h1, h2⟩ := cls_isA (X := X) (G := G)
  exact tr_cmp h1 h2 ha hb hm
theorem tt_Is (C : Cok X G W k) {a b : Expr} {ma mb : E} {pos : Pos} (ha : TrE X G W a ma) (hb : TrE X G W b mb) (hm : behindInMarks .Is b = false := by rfl) : TrT X G W (.Compare a [.Is] [b] pos) (eBool (eOp fIsA ma mb)) := by
  obtain ⟨r, h1, h2⟩ := cls_isA (X := X) (G := G)
  exact tt_cmp h1 h2 ha hb hm
theorem tr_IsNot (C : Cok X G W k) {a b : Expr} {ma mb : E} {pos : Pos} (ha : TrE X G W a ma) (hb : TrE X G W b mb) (hm : behindInMarks .IsNot b = false := by rfl) : TrE X G W (.Compare a [.IsNot] [b] pos) (eOp fIsNotA ma mb) := by
  obtain ⟨r, h1, h2⟩ := cls_notA (X := X) (G := G)
  exact tr_cmp h1 h2 ha hb hm
theorem tt_IsNot (C : Cok X G W k) {a b : Expr} {ma mb : E} {pos : Pos} (ha : TrE X G W a ma) (hb : TrE X G W b mb) (hm : behindInMarks .IsNot b = false := by rfl) : TrT X G W (.Compare a [.IsNot] [b] pos) (eBool (eOp fIsNotA ma mb)) := by
  obtain ⟨r, h1, h2⟩ := cls_notA (X := X) (G := G)
  exact tt_cmp h1 h2 ha hb hm
theorem tr_Lt_Lt (C : Cok X G W k) {a b c : Expr} {ma mb mc : E} {pos : Pos} (ha : TrE X G W a ma) (hb : TrE X G W b mb) (hc : TrE X G W c mc) (hm : lastMarks [.Lt, .Lt] [b, c] = false := by with_unfolding_all rfl) : TrE X G W (.Compare a [.Lt, .Lt] [b, c] pos) (eChain fLt fLt ma mb mc) := by
  obtain ⟨r, h1, h2⟩ := cls_lt (X := X) (G := G)
  obtain ⟨r', g1, g2⟩ := cls_lt (X := X) (G := G)
  exact tr_chain h1 g1 h2 g2 ha hb hc hm
theorem tt_Lt_Lt (C : Cok X G W k) {a b c : Expr} {ma mb mc : E} {pos : Pos} (ha : TrE X G W a ma) (hb : TrE X G W b mb) (hc : TrE X G W c mc) (hm : lastMarks [.Lt, .Lt] [b, c] = false := by with_unfolding_all rfl) : TrT X G W (.Compare a [.Lt, .Lt] [b, c] pos) (eBool (eChain fLt fLt ma mb mc)) := by
  obtain ⟨r, h1, h2⟩ := cls_lt (X := X) (G := G)
  obtain ⟨r', g1, g2⟩ := cls_lt (X := X) (G := G)
  exact tt_chain h1 g1 h2 g2 ha hb hc hm
theorem tr_Lt_LtE (C : Cok X G W k) {a b c : Expr} {ma mb mc : E} {pos : Pos} (ha : TrE X G W a ma) (hb : TrE X G W b mb) (hc : TrE X G W c mc) (hm : lastMarks [.Lt, .LtE] [b, c] = false := by with_unfolding_all rfl) : TrE X G W (.Compare a [.Lt, .LtE] [b, c] pos) (eChain fLt fLe ma mb mc) := by
  obtain ⟨r, h1, h2⟩ := cls_lt (X := X) (G := G)
  obtain ⟨r', g1, g2⟩ := cls_le (X := X) (G := G)
  exact tr_chain h1 g1 h2 g2 ha hb hc hm
theorem tt_Lt_LtE (C : Cok X G W k) {a b c : Expr} {ma mb mc : E} {pos : Pos} (ha : TrE X G W a ma) (hb : TrE X G W b mb) (hc : TrE X G W c mc) (hm : lastMarks [.Lt, .LtE] [b, c] = false := by with_unfolding_all rfl) : TrT X G W (.Compare a [.Lt, .LtE] [b, c] pos) (eBool (eChain fLt fLe ma mb mc)) := by
  obtain ⟨r, h1, h2⟩ := cls_lt (X := X) (G := G)
  obtain ⟨r', g1, g2⟩ := cls_le (X := X) (G := G)
  exact tt_chain h1 g1 h2 g2 ha hb hc hm
theorem tr_Lt_Gt (C : Cok X G W k) {a b c : Expr} {ma mb mc : E} {pos : Pos} (ha : TrE X G W a ma) (hb : TrE X G W b mb) (hc : TrE X G W c mc) (hm : lastMarks [.Lt, .Gt] [b, c] = false := by with_unfolding_all rfl) : TrE X G W (.Compare a [.Lt, .Gt] [b, c] pos) (eChain fLt fGt ma mb mc) := by
  obtain ⟨r, h1, h2⟩ := cls_lt (X := X) (G := G)
  obtain ⟨r', g1, g2⟩ := cls_gt (X := X) (G := G)
  exact tr_chain h1 g1 h2 g2 ha hb hc hm
theorem tt_Lt_Gt (C : Cok X G W k) {a b c : Expr} {ma mb mc : E} {pos : Pos} (ha : TrE X G W a ma) (hb : TrE X G W b mb) (hc : TrE X G W c mc) (hm : lastMarks [.Lt, .Gt] [b, c] = false := by with_unfolding_all rfl) : TrT X G W (.Compare a [.Lt, .Gt] [b, c] pos) (eBool (eChain fLt fGt ma mb mc)) := by
  obtain ⟨r, h1, h2⟩ := cls_lt (X := X) (G := G)
  obtain ⟨r', g1, g2⟩ := cls_gt (X := X) (G := G)
  exact tt_chain h1 g1 h2 g2 ha hb hc hm
theorem tr_Lt_GtE (C : Cok X G W k) {a b c : Expr} {ma mb mc : E} {pos : Pos} (ha : TrE X G W a ma) (hb : TrE X G W b mb) (hc : TrE X G W c mc) (hm : lastMarks [.Lt, .GtE] [b, c] = false := by with_unfolding_all rfl) : TrE X G W (.Compare a [.Lt, .GtE] [b, c] pos) (eChain fLt fGe ma mb mc) := by
  obtain ⟨r, h1, h2⟩ := cls_lt (X := X) (G := G)
  obtain ⟨r', g1, g2⟩ := cls_ge (X := X) (G := G)
  exact tr_chain h1 g1 h2 g2 ha hb hc hm
theorem tt_Lt_GtE (C : Cok X G W k) {a b c : Expr} {ma mb mc : E} {pos : Pos} (ha : TrE X G W a ma) (hb : TrE X G W b mb) (hc : TrE X G W c mc) (hm : lastMarks [.Lt, .GtE] [b, c] = false := by with_unfolding_all rfl) : TrT X G W (.Compare a [.Lt, .GtE] [b, c] pos) (eBool (eChain fLt fGe ma mb mc)) := by
  obtain ⟨r, h1, h2⟩ := cls_lt (X := X) (G := G)
  obtain ⟨r', g1, g2⟩ := cls_ge (X := X) (G := G)
  exact tt_chain h1 g1 h2 g2 ha hb hc hm
theorem tr_LtE_Lt (C : Cok X G W k) {a b c : Expr} {ma mb mc : E} {pos : Pos} (ha : TrE X G W a ma) (hb : TrE X G W b mb) (hc : TrE X G W c mc) (hm : lastMarks [.LtE, .Lt] [b, c] = false := by with_unfolding_all rfl) : TrE X G W (.Compare a [.LtE, .Lt] [b, c] pos) (eChain fLe fLt ma mb mc) := by
  obtain ⟨r, h1, h2⟩ := cls_le (X := X) (G := G)
  obtain ⟨r', g1, g2⟩ := cls_lt (X := X) (G := G)
  exact tr_chain h1 g1 h2 g2 ha hb hc hm
theorem tt_LtE_Lt (C : Cok X G W k) {a b c : Expr} {ma mb mc : E} {pos : Pos} (ha : TrE X G W a ma) (hb : TrE X G W b mb) (hc : TrE X G W c mc) (hm : lastMarks [.LtE, .Lt] [b, c] = false := by with_unfolding_all rfl) : TrT X G W (.Compare a [.LtE, .Lt] [b, c] pos) (eBool (eChain fLe fLt ma mb mc)) := by
  obtain ⟨r, h1, h2⟩ := cls_le (X := X) (G := G)
  obtain ⟨r', g1, g2⟩ := cls_lt (X := X) (G := G)
  exact tt_chain h1 g1 h2 g2 ha hb hc hm
theorem tr_LtE_LtE (C : Cok X G W k) {a b c : Expr} {ma mb mc : E} {pos : Pos} (ha : TrE X G W a ma) (hb : TrE X G W b mb) (hc : TrE X G W c mc) (hm : lastMarks [.LtE, .LtE] [b, c] = false := by with_unfolding_all rfl) : TrE X G W (.Compare a [.LtE, .LtE] [b, c] pos) (eChain fLe fLe ma mb mc) := by
  obtain ⟨r, h1, h2⟩ := cls_le (X := X) (G := G)
  obtain ⟨r', g1, g2⟩ := cls_le (X := X) (G := G)
  exact tr_chain h1 g1 h2 g2 ha hb hc hm
theorem tt_LtE_LtE (C : Cok X G W k) {a b c : Expr} {ma mb mc : E} {pos : Pos} (ha : TrE X G W a ma) (hb : TrE X G W b mb) (hc : TrE X G W c mc) (hm : lastMarks [.LtE, .LtE] [b, c] = false := by with_unfolding_all rfl) : TrT X G W (.Compare a [.LtE, .LtE] [b, c] pos) (eBool (eChain fLe fLe ma mb mc)) := by
  obtain ⟨r, h1, h2⟩ := cls_le (X := X) (G := G)
  obtain ⟨r', g1, g2⟩ := cls_le (X := X) (G := G)
  exact tt_chain h1 g1 h2 g2 ha hb hc hm
theorem tr_LtE_Gt (C : Cok X G W k) {a b c : Expr} {ma mb mc : E} {pos : Pos} (ha : TrE X G W a ma) (hb : TrE X G W b mb) (hc : TrE X G W c mc) (hm : lastMarks [.LtE, .Gt] [b, c] = false := by with_unfolding_all rfl) : TrE X G W (.Compare a [.LtE, .Gt] [b, c] pos) (eChain fLe fGt ma mb mc) := by
  obtain ⟨r, h1, h2⟩ := cls_le (X := X) (G := G)
  obtain ⟨r', g1, g2⟩ := cls_gt (X := X) (G := G)
  exact tr_chain h1 g1 h2 g2 ha hb hc hm
theorem tt_LtE_Gt (C : Cok X G W k) {a b c : Expr} {ma mb mc : E} {pos : Pos} (ha : TrE X G W a ma) (hb : TrE X G W b mb) (hc : TrE X G W c mc) (hm : lastMarks [.LtE, .Gt] [b, c] = false := by with_unfolding_all rfl) : TrT X G W (.Compare a [.LtE, .Gt] [b, c] pos) (eBool (eChain fLe fGt ma mb mc)) := by
  obtain ⟨r, h1, h2⟩ := cls_le (X := X) (G := G)
  obtain ⟨r', g1, g2⟩ := cls_gt (X := X) (G := G)
  exact tt_chain h1 g1 h2 g2 ha hb hc hm
theorem tr_LtE_GtE (C : Cok X G W k) {a b c : Expr} {ma mb mc : E} {pos : Pos} (ha : TrE X G W a ma) (hb : TrE X G W b mb) (hc : TrE X G W c mc) (hm : lastMarks [.LtE, .GtE] [b, c] = false := by with_unfolding_all rfl) : TrE X G W (.Compare a [.LtE, .GtE] [b, c] pos) (eChain fLe fGe ma mb mc) := by
  obtain ⟨r, h1, h2⟩ := cls_le (X := X) (G := G)
  obtain ⟨r', g1, g2⟩ := cls_ge (X := X) (G := G)
  exact tr_chain h1 g1 h2 g2 ha hb hc hm
theorem tt_LtE_GtE (C : Cok X G W k) {a b c : Expr} {ma mb mc : E} {pos : Pos} (ha : TrE X G W a ma) (hb : TrE X G W b mb) (hc : TrE X G W c mc) (hm : lastMarks [.LtE, .GtE] [b, c] = false := by with_unfolding_all rfl) : TrT X G W (.Compare a [.LtE, .GtE] [b, c] pos) (eBool (eChain fLe fGe ma mb mc)) := by
  obtain ⟨r, h1, h2⟩ := cls_le (X := X) (G := G)
  obtain ⟨r', g1, g2⟩ := cls_ge (X := X) (G := G)
  exact tt_chain h1 g1 h2 g2 ha hb hc hm
theorem tr_Gt_Lt (C : Cok X G W k) {a b c : Expr} {ma mb mc : E} {pos : Pos} (ha : TrE X G W a ma) (hb : TrE X G W b mb) (hc : TrE X G W c mc) (hm : lastMarks [.Gt, .Lt] [b, c] = false := by with_unfolding_all rfl) : TrE X G W (.Compare a [.Gt, .Lt] [b, c] pos) (eChain fGt fLt ma mb mc) := by
  obtain ⟨r, h1, h2⟩ := cls_gt (X := X) (G := G)
  obtain ⟨r', g1, g2⟩ := cls_lt (X := X) (G := G)
  exact tr_chain h1 g1 h2 g2 ha hb hc hm
theorem tt_Gt_Lt (C : Cok X G W k) {a b c : Expr} {ma mb mc : E} {pos : Pos} (ha : TrE X G W a ma) (hb : TrE X G W b mb) (hc : TrE X G W c mc) (hm : lastMarks [.Gt, .Lt] [b, c] = false := by with_unfolding_all rfl) : TrT X G W (.Compare a [.Gt, .Lt] [b, c] pos) (eBool (eChain fGt fLt ma mb mc)) := by
  obtain ⟨r, h1, h2⟩ := cls_gt (X := X) (G := G)
  obtain ⟨r', g1, g2⟩ := cls_lt (X := X) (G := G)
  exact tt_chain h1 g1 h2 g2 ha hb hc hm
theorem tr_Gt_LtE (C : Cok X G W k) {a b c : Expr} {ma mb mc : E} {pos : Pos} (ha : TrE X G W a ma) (hb : TrE X G W b mb) (hc : TrE X G W c mc) (hm : lastMarks [.Gt, .LtE] [b, c] = false := by with_unfolding_all rfl) : TrE X G W (.Compare a [.Gt, .LtE] [b, c] pos) (eChain fGt fLe ma mb mc) := by
  obtain ⟨r, h1, h2⟩ := cls_gt (X := X) (G := G)
  obtain ⟨r', g1, g2⟩ := cls_le (X := X) (G := G)
  exact tr_chain h1 g1 h2 g2 ha hb hc hm
theorem tt_Gt_LtE (C : Cok X G W k) {a b c : Expr} {ma mb mc : E} {pos : Pos} (ha : TrE X G W a ma) (hb : TrE X G W b mb) (hc : TrE X G W c mc) (hm : lastMarks [.Gt, .LtE] [b, c] = false := by with_unfolding_all rfl) : TrT X G W (.Compare a [.Gt, .LtE] [b, c] pos) (eBool (eChain fGt fLe ma mb mc)) := by
  obtain ⟨r, h1, h2⟩ := cls_gt (X := X) (G := G)
  obtain ⟨r', g1, g2⟩ := cls_le (X := X) (G := G)
  exact tt_chain h1 g1 h2 g2 ha hb hc hm
theorem tr_Gt_Gt (C : Cok X G W k) {a b c : Expr} {ma mb mc : E} {pos : Pos} (ha : TrE X G W a ma) (hb : TrE X G W b mb) (hc : TrE X G W c mc) (hm : lastMarks [.Gt, .Gt] [b, c] = false := by with_unfolding_all rfl) : TrE X G W (.Compare a [.Gt, .Gt] [b, c] pos) (eChain fGt fGt ma mb mc) := by
  obtain ⟨r, h1, h2⟩ := cls_gt (X := X) (G := G)
  obtain ⟨r', g1, g2⟩ := cls_gt (X := X) (G := G)
  exact tr_chain h1 g1 h2 g2 ha hb hc hm
theorem tt_Gt_Gt (C : Cok X G W k) {a b c : Expr} {ma mb mc : E} {pos : Pos} (ha : TrE X G W a ma) (hb : TrE X G W b mb) (hc : TrE X G W c mc) (hm : lastMarks [.Gt, .Gt] [b, c] = false := by with_unfolding_all rfl) : TrT X G W (.Compare a [.Gt, .Gt] [b, c] pos) (eBool (eChain fGt fGt ma mb mc)) := by
  obtain ⟨r, h1, h2⟩ := cls_gt (X := X) (G := G)
  obtain ⟨r', g1, g2⟩ := cls_gt (X := X) (G := G)
  exact tt_chain h1 g1 h2 g2 ha hb hc hm
theorem tr_Gt_GtE (C : Cok X G W k) {a b c : Expr} {ma mb mc : E} {pos : Pos} (ha : TrE X G W a ma) (hb : TrE X G W b mb) (hc : TrE X G W c mc) (hm : lastMarks [.Gt, .GtE] [b, c] = false := by with_unfolding_all rfl) : TrE X G W (.Compare a [.Gt, .GtE] [b, c] pos) (eChain fGt fGe ma mb mc) := by
  obtain ⟨r, h1, h2⟩ := cls_gt (X := X) (G := G)
  obtain ⟨r', g1, g2⟩ := cls_ge (X := X) (G := G)
  exact tr_chain h1 g1 h2 g2 ha hb hc hm
theorem tt_Gt_GtE (C : Cok X G W k) {a b c : Expr} {ma mb mc : E} {pos : Pos} (ha : TrE X G W a ma) (hb : TrE X G W b mb) (hc : TrE X G W c mc) (hm : lastMarks [.Gt, .GtE] [b, c] = false := by with_unfolding_all rfl) : TrT X G W (.Compare a [.Gt, .GtE] [b, c] pos) (eBool (eChain fGt fGe ma mb mc)) := by
  obtain ⟨r, h1, h2⟩ := cls_gt (X := X) (G := G)
  obtain ⟨r', g1, g2⟩ := cls_ge (X := X) (G := G)
  exact tt_chain h1 g1 h2 g2 ha hb hc hm
theorem tr_GtE_Lt (C : Cok X G W k) {a b c : Expr} {ma mb mc : E} {pos : Pos} (ha : TrE X G W a ma) (hb : TrE X G W b mb) (hc : TrE X G W c mc) (hm : lastMarks [.GtE, .Lt] [b, c] = false := by with_unfolding_all rfl) : TrE X G W (.Compare a [.GtE, .Lt] [b, c] pos) (eChain fGe fLt ma mb mc) := by
  obtain ⟨r, h1, h2⟩ := cls_ge (X := X) (G := G)
  obtain ⟨r', g1, g2⟩ := cls_lt (X := X) (G := G)
  exact tr_chain h1 g1 h2 g2 ha hb hc hm
theorem tt_GtE_Lt (C : Cok X G W k) {a b c : Expr} {ma mb mc : E} {pos : Pos} (ha : TrE X G W a ma) (hb : TrE X G W b mb) (hc : TrE X G W c mc) (hm : lastMarks [.GtE, .Lt] [b, c] = false := by with_unfolding_all rfl) : TrT X G W (.Compare a [.GtE, .Lt] [b, c] pos) (eBool (eChain fGe fLt ma mb mc)) := by
  obtain ⟨r, h1, h2⟩ := cls_ge (X := X) (G := G)
  obtain ⟨r', g1, g2⟩ := cls_lt (X := X) (G := G)
  exact tt_chain h1 g1 h2 g2 ha hb hc hm
theorem tr_GtE_LtE (C : Cok X G W k) {a b c : Expr} {ma mb mc : E} {pos : Pos} (ha : TrE X G W a ma) (hb : TrE X G W b mb) (hc : TrE X G W c mc) (hm : lastMarks [.GtE, .LtE] [b, c] = false := by with_unfolding_all rfl) : TrE X G W (.Compare a [.GtE, .LtE] [b, c] pos) (eChain fGe fLe ma mb mc) := by
  obtain ⟨r, h1, h2⟩ := cls_ge (X := X) (G := G)
  obtain ⟨r', g1, g2⟩ := cls_le (X := X) (G := G)
  exact tr_chain h1 g1 h2 g2 ha hb hc hm
theorem tt_GtE_LtE (C : Cok X G W k) {a b c : Expr} {ma mb mc : E} {pos : Pos} (ha : TrE X G W a ma) (hb : TrE X G W b mb) (hc : TrE X G W c mc) (hm : lastMarks [.GtE, .LtE] [b, c] = false := by with_unfolding_all rfl) : TrT X G W (.Compare a [.GtE, .LtE] [b, c] pos) (eBool (eChain fGe fLe ma mb mc)) := by
  obtain ⟨r, h1, h2⟩ := cls_ge (X := X) (G := G)
  obtain ⟨r', g1, g2⟩ := cls_le (X := X) (G := G)
  exact tt_chain h1 g1 h2 g2 ha hb hc hm
theorem tr_GtE_Gt (C : Cok X G W k) {a b c : Expr} {ma mb mc : E} {pos : Pos} (ha : TrE X G W a ma) (hb : TrE X G W b mb) (hc : TrE X G W c mc) (hm : lastMarks [.GtE, .Gt] [b, c] = false := by with_unfolding_all rfl) : TrE X G W (.Compare a [.GtE, .Gt] [b, c] pos) (eChain fGe fGt ma mb mc) := by
  obtain ⟨r, h1, h2⟩ := cls_ge (X := X) (G := G)
  obtain ⟨r', g1, g2⟩ := cls_gt (X := X) (G := G)
  exact tr_chain h1 g1 h2 g2 ha hb hc hm
theorem tt_GtE_Gt (C : Cok X G W k) {a b c : Expr} {ma mb mc : E} {pos : Pos} (ha : TrE X G W a ma) (hb : TrE X G W b mb) (hc : TrE X G W c mc) (hm : lastMarks [.GtE, .Gt] [b, c] = false := by with_unfolding_all rfl) : TrT X G W (.Compare a [.GtE, .Gt] [b, c] pos) (eBool (eChain fGe fGt ma mb mc)) := by
  obtain ⟨r, h1, h2⟩ := cls_ge (X := X) (G := G)
  obtain ⟨r', g1, g2⟩ := cls_gt (X := X) (G := G)
  exact tt_chain h1 g1 h2 g2 ha hb hc hm
theorem tr_GtE_GtE (C : Cok X G W k) {a b c : Expr} {ma mb mc : E} {pos : Pos} (ha : TrE X G W a ma) (hb : TrE X G W b mb) (hc : TrE X G W c mc) (hm : lastMarks [.GtE, .GtE] [b, c] = false := by with_unfolding_all rfl) : TrE X G W (.Compare a [.GtE, .GtE] [b, c] pos) (eChain fGe fGe ma mb mc) := by
  obtain ⟨r, h1, h2⟩ := cls_ge (X := X) (G := G)
  obtain ⟨r', g1, g2⟩ := cls_ge (X := X) (G := G)
  exact tr_chain h1 g1 h2 g2 ha hb hc hm
theorem tt_GtE_GtE (C : Cok X G W k) {a b c : Expr} {ma mb mc : E} {pos : Pos} (ha : TrE X G W a ma) (hb : TrE X G W b mb) (hc : TrE X G W c mc) (hm : lastMarks [.GtE, .GtE] [b, c] = false := by with_unfolding_all rfl) : TrT X G W (.Compare a [.GtE, .GtE] [b, c] pos) (eBool (eChain fGe fGe ma mb mc)) := by
  obtain ⟨r, h1, h2⟩ := cls_ge (X := X) (G := G)
  obtain ⟨r', g1, g2⟩ := cls_ge (X := X) (G := G)
  exact tt_chain h1 g1 h2 g2 ha hb hc hm
theorem tr_Ix (C : Cok X G W k) {a b : Expr} {ma mb : E} {pos : Pos} (ha : TrE X G W a ma) (hb : TrE X G W b mb) (hp : PlainIx b := by exact fun _ _ => rfl) : TrE X G W (.Subscript a b pos) (eOp fIx ma mb) := by
  obtain ⟨r, h1, h2⟩ := cls_ix (X := X) (G := G) C.hK
  exact tr_ix h1 h2 ha hb hp
theorem tr_b_len (C : Cok X G W k) {p pos : Pos} {e : Expr} {es : List Expr} {ms : List E} (hm : X.mg "len" = none) (hg : Gl X "len") (ha : TrA X G W (e :: es) ms) (he : starEach (e :: es) X.env = (false, eval e X.env) :: starEach es X.env := by rfl) (hpl : (backTo pos (starEach es X.env)).any (·.1) = false := by rfl) : TrE X G W (.Call (.Name "len" p) (e :: es) [] pos) (eApp fLen ms) := by
  obtain ⟨r, h1, h2⟩ := cls_len (X := X) (G := G) C.hK
  exact tr_callB h1 h2 hm (by rfl) ha hg (by decide) (by decide) he hpl
theorem tr_b_int (C : Cok X G W k) {p pos : Pos} {e : Expr} {es : List Expr} {ms : List E} (hm : X.mg "int" = none) (hg : Gl X "int") (ha : TrA X G W (e :: es) ms) (he : starEach (e :: es) X.env = (false, eval e X.env) :: starEach es X.env := by rfl) (hpl : (backTo pos (starEach es X.env)).any (·.1) = false := by rfl) : TrE X G W (.Call (.Name "int" p) (e :: es) [] pos) (eApp fIntB ms) := by
  obtain ⟨r, h1, h2⟩ := cls_intB (X := X) (G := G)
  exact tr_callT h1 h2 hm (by rfl) ha hg (by decide) (by decide) he hpl
theorem tr_b_min (C : Cok X G W k) {p pos : Pos} {e : Expr} {es : List Expr} {ms : List E} (hm : X.mg "min" = none) (hg : Gl X "min") (ha : TrA X G W (e :: es) ms) (he : starEach (e :: es) X.env = (false, eval e X.env) :: starEach es X.env := by rfl) (hpl : (backTo pos (starEach es X.env)).any (·.1) = false := by rfl) : TrE X G W (.Call (.Name "min" p) (e :: es) [] pos) (eApp fMin2 ms) := by
  obtain ⟨r, h1, h2⟩ := cls_min2 (X := X) (G := G) C.calm
  exact tr_callB h1 h2 hm (by rfl) ha hg (by decide) (by decide) he hpl
theorem tr_b_max (C : Cok X G W k) {p pos : Pos} {e : Expr} {es : List Expr} {ms : List E} (hm : X.mg "max" = none) (hg : Gl X "max") (ha : TrA X G W (e :: es) ms) (he : starEach (e :: es) X.env = (false, eval e X.env) :: starEach es X.env := by rfl) (hpl : (backTo pos (starEach es X.env)).any (·.1) = false := by rfl) : TrE X G W (.Call (.Name "max" p) (e :: es) [] pos) (eApp fMax2 ms) := by
  obtain ⟨r, h1, h2⟩ := cls_max2 (X := X) (G := G) C.calm
  exact tr_callB h1 h2 hm (by rfl) ha hg (by decide) (by decide) he hpl
theorem tr_b_list (C : Cok X G W k) {p pos : Pos} {e : Expr} {es : List Expr} {ms : List E} (hm : X.mg "list" = none) (hg : Gl X "list") (ha : TrA X G W (e :: es) ms) (he : starEach (e :: es) X.env = (false, eval e X.env) :: starEach es X.env := by rfl) (hpl : (backTo pos (starEach es X.env)).any (·.1) = false := by rfl) : TrE X G W (.Call (.Name "list" p) (e :: es) [] pos) (eApp fList ms) := by
  obtain ⟨r, h1, h2⟩ := cls_list (X := X) (G := G) C.hK C.calm
  exact tr_callT h1 h2 hm (by rfl) ha hg (by decide) (by decide) he hpl
theorem tr_b_tuple (C : Cok X G W k) {p pos : Pos} {e : Expr} {es : List Expr} {ms : List E} (hm : X.mg "tuple" = none) (hg : Gl X "tuple") (ha : TrA X G W (e :: es) ms) (he : starEach (e :: es) X.env = (false, eval e X.env) :: starEach es X.env := by rfl) (hpl : (backTo pos (starEach es X.env)).any (·.1) = false := by rfl) : TrE X G W (.Call (.Name "tuple" p) (e :: es) [] pos) (eApp fTuple ms) := by
  obtain ⟨r, h1, h2⟩ := cls_tuple (X := X) (G := G) C.hK
  exact tr_callT h1 h2 hm (by rfl) ha hg (by decide) (by decide) he hpl
theorem tr_b_all (C : Cok X G W k) {p pos : Pos} {e : Expr} {es : List Expr} {ms : List E} (hm : X.mg "all" = none) (hg : Gl X "all") (ha : TrA X G W (e :: es) ms) (he : starEach (e :: es) X.env = (false, eval e X.env) :: starEach es X.env := by rfl) (hpl : (backTo pos (starEach es X.env)).any (·.1) = false := by rfl) : TrE X G W (.Call (.Name "all" p) (e :: es) [] pos) (eApp fAllB ms) := by
  obtain ⟨r, h1, h2⟩ := cls_all (X := X) (G := G) C.hK C.calm
  exact tr_callB h1 h2 hm (by rfl) ha hg (by decide) (by decide) he hpl
theorem tr_b_sorted (C : Cok X G W k) {p pos : Pos} {e : Expr} {es : List Expr} {ms : List E} (hm : X.mg "sorted" = none) (hg : Gl X "sorted") (ha : TrA X G W (e :: es) ms) (he : starEach (e :: es) X.env = (false, eval e X.env) :: starEach es X.env := by rfl) (hpl : (backTo pos (starEach es X.env)).any (·.1) = false := by rfl) : TrE X G W (.Call (.Name "sorted" p) (e :: es) [] pos) (eApp fSorted ms) := by
  obtain ⟨r, h1, h2⟩ := cls_sorted (X := X) (G := G) C.hK
  exact tr_callB h1 h2 hm (by rfl) ha hg (by decide) (by decide) he hpl
theorem tr_neg (C : Cok X G W k) {a : Expr} {ma : E} {pos : Pos} (ha : TrE X G W a ma) : TrE X G W (.UnaryOp .USub a pos) (eUn fNeg ma) := by
  refine tr_un un_neg (fun F H σ S T x dx kd Q st rx e k => ?_) ha
  cases rx <;> simp only [fNeg, kz, reduceCtorEq] at e
  cases e
  exact ⟨_, rfl, KE.val k st (.int _)⟩
end
end TB

namespace L2
open PySem PySem.Spec PyProof.Rows
/-- the law called, what flies by the world -/
theorem walk_ofEw {l : PySem.W.OpenLaw} {n k : Nat} {q : Program} {loose : List Str} {XP : (Str → Option Value) → Heap → Prop} {YP : World → Heap → Prop} {d : DefRec} {CX : World → CXT} {x : Str}
    (hn : l.most = some n) (hn2 : n ≤ sizeLine) (hdf : d.params.defaults = []) (hr : Room k callerA)
    (F : ∀ (w : World) (mg : Str → Option Value) (fa : Addr) (h : Heap), YP w h → h.Ns mainGlobals mg → mg d.name = some (.ref fa) →
      ∃ (K : PySem.W.Frag) (fd : FuncData) (sp : Sp), K.In h ∧ (∀ (s : Shared) (u : Value), BindsTo s fd ⟨[u], []⟩ [(x, u)]) ∧
        (∀ (H : Hp) (a : Addr) (ns : List Int), ns.length ≤ n → SqL K H a (ns.map V.int) → sp [.ref a] H (fun v _ => v = .bl true) fun _ _ _ => False) ∧
        ∀ base : Heap, K.In base → base.Ns mainGlobals mg → FnOk l.prog w K mg base (CX w) k fa fd [x] sp)
    (hCX : ∀ (w : World) (H : Hp) (s : Shared) (e : Value) (s' : Shared), CX w [] H s (fun _ _ _ => False) e s' → False) :
    PySem.W.WalkO q loose XP YP l.row.toRowW d [] (fun f vs => PySem.call f vs) := by
  refine Att.attach_call hn hdf fun w s₀ s₁ mg mb fa o pm cd doc a vs ns G Y ho hd hcd hmg hobj hints hlen hg => ?_
  obtain ⟨K, fd, sp, KX, hb, hsp, hF⟩ := F w mg fa _ Y G.T.g hmg
  exact law_call KX G.T.g G.T.b G.T.builtins G.T.nolimit hg hobj hints (Nat.le_trans hlen hn2) hr hF hb (fun H hO hS => hsp H a ns hlen hS) fun H e s' => hCX w H s₁ e s'
end L2

namespace TB
open PySem PyProof.Rows L2
mutual
theorem alk_py : ∀ x y : D, D.alk x y = true → PySem.W.alike (toPy x) (toPy y) = true := by
  intro x y h
  cases x <;> cases y <;> first | (simp [D.alk] at h; done) | (simp [toPy, PySem.W.alike]; done) | skip
  rename_i xs ys
  simp only [toPy, PySem.W.alike]
  exact alks_py xs ys (by simpa [D.alk] using h)
theorem alks_py : ∀ xs ys : List D, D.alks xs ys = true → PySem.W.alikeAll (toPys xs) (toPys ys) = true
  | [], ys, _ => by simp [toPys, PySem.W.alikeAll]
  | _ :: _, [], _ => by simp [toPys, PySem.W.alikeAll]
  | x :: xs, y :: ys, h => by
    unfold D.alks at h
    obtain ⟨h1, h2⟩ := Bool.and_eq_true_iff.mp h
    simp only [toPys, PySem.W.alikeAll, alk_py x y h1, alks_py xs ys h2, Bool.and_self]
end
mutual
theorem lt_py : ∀ (n m : Nat) (x y : D), D.alk x y = true → x.lay n = true → y.lay m = true → PySem.W.dataLt (toPy x) (toPy y) = D.lt x y := by
  intro n m x y h h1 h2
  cases x <;> cases y <;> first | (simp [D.alk] at h; done) | skip
  case bl.bl a b => simp only [toPy, PySem.W.dataLt_bool, D.lt]; cases a <;> cases b <;> rfl
  case int.int => simp only [toPy, PySem.W.dataLt_int, D.lt]
  case str.str => simp only [toPy, PySem.W.dataLt_str, D.lt]
  case tup.tup xs ys =>
    simp only [toPy, PySem.W.dataLt_tuple, D.lt]
    cases n with
    | zero => simp [D.lay] at h1
    | succ n =>
      cases m with
      | zero => simp [D.lay] at h2
      | succ m => exact lts_py n m xs ys (by simpa [D.alk] using h) (by simpa [D.lay] using h1) (by simpa [D.lay] using h2)
theorem lts_py : ∀ (n m : Nat) (xs ys : List D), D.alks xs ys = true → D.lays n xs = true → D.lays m ys = true → PyProof.Rows.lexLt itemOrd (PySem.W.keyToksAll (toPys xs)) (PySem.W.keyToksAll (toPys ys)) = D.lts xs ys
  | _, _, [], [], _, _, _ => by simp only [toPys, PySem.W.keyToksAll, D.lts]; decide
  | _, _, [], y :: ys, _, _, _ => by
    simp only [toPys, PySem.W.keyToksAll, D.lts]
    exact (PyProof.Rows.lex_diff (O := itemOrd) (by decide)).trans (by decide)
  | _, _, x :: xs, [], _, _, _ => by
    simp only [toPys, PySem.W.keyToksAll, D.lts]
    exact (PyProof.Rows.lex_diff (O := itemOrd) (by decide)).trans (by decide)
  | n, m, x :: xs, y :: ys, h, hx, hy => by
    unfold D.alks at h
    unfold D.lays at hx hy
    obtain ⟨h1, h2⟩ := Bool.and_eq_true_iff.mp h
    obtain ⟨a1, a2⟩ := Bool.and_eq_true_iff.mp hx
    obtain ⟨b1, b2⟩ := Bool.and_eq_true_iff.mp hy
    simp only [toPys, D.lts]
    rw [PySem.W.dataLt_cons (alk_py x y h1), eqv_py n m x y a1 b1, lts_py n m xs ys h2 a2 b2, lt_py n m x y h1 a1 b1]
end
theorem lays_mem : ∀ {n : Nat} {ds : List D}, D.lays n ds = true → ∀ d ∈ ds, d.lay n = true
  | n, d :: ds, h, e, he => by
    unfold D.lays at h
    obtain ⟨a, b⟩ := Bool.and_eq_true_iff.mp h
    rcases List.mem_cons.mp he with rfl | he
    · exact a
    · exact lays_mem b e he
/-! ### < of tuples -/
section
variable {X : Cx}
def rCmpD (op : PyData → PyData → Bool) (K : PySem.W.Frag) : R2 := fun x y H Q => ∃ d e, Dp K H x d ∧ Dp K H y e ∧ PySem.W.alike d e = true ∧ d ≠ .none ∧ d.depth ≤ 60 ∧ Q (.bl (op d e)) H
theorem op_ltD (hu : X.A.units + 64 < cLine) : OpR X (compareOp .Lt) (rCmpD PySem.W.dataLt X.K) := by
  intro pins s σ H x y v u Q I rx ry ⟨d, e, hd, he, ha, hn, hz, q⟩
  obtain ⟨as, r1⟩ := Dp.reads I d x v hd rx
  obtain ⟨bs, r2⟩ := Dp.reads I e y u he ry
  exact PySem.W.lt_data r1 r2 ha hn (by omega) ⟨.bl _, H, I, rfl, q⟩
theorem op_gtD (hu : X.A.units + 64 < cLine) : OpR X (compareOp .Gt) (rCmpD (fun d e => PySem.W.dataLt e d) X.K) := by
  intro pins s σ H x y v u Q I rx ry ⟨d, e, hd, he, ha, hn, hz, q⟩
  obtain ⟨as, r1⟩ := Dp.reads I d x v hd rx
  obtain ⟨bs, r2⟩ := Dp.reads I e y u he ry
  exact PySem.W.gt_data r1 r2 ha hn (by omega) ⟨.bl _, H, I, rfl, q⟩
theorem op_leD (hu : X.A.units + 64 < cLine) : OpR X (compareOp .LtE) (rCmpD (fun d e => !PySem.W.dataLt e d) X.K) := by
  intro pins s σ H x y v u Q I rx ry ⟨d, e, hd, he, ha, hn, hz, q⟩
  obtain ⟨as, r1⟩ := Dp.reads I d x v hd rx
  obtain ⟨bs, r2⟩ := Dp.reads I e y u he ry
  exact PySem.W.le_data r1 r2 ha hn (by omega) ⟨.bl _, H, I, rfl, q⟩
theorem op_geD (hu : X.A.units + 64 < cLine) : OpR X (compareOp .GtE) (rCmpD (fun d e => !PySem.W.dataLt d e) X.K) := by
  intro pins s σ H x y v u Q I rx ry ⟨d, e, hd, he, ha, hn, hz, q⟩
  obtain ⟨as, r1⟩ := Dp.reads I d x v hd rx
  obtain ⟨bs, r2⟩ := Dp.reads I e y u he ry
  exact PySem.W.ge_data r1 r2 ha hn (by omega) ⟨.bl _, H, I, rfl, q⟩
end
section
variable {X : Cx} {G : Cfgx} {W : WX} {k : Nat} {F H : Hp} {σ : L2.St} {S : List Slot} {T : Cnt}
theorem alk_comm : ∀ x y : D, D.alk x y = true → PySem.W.alike (toPy y) (toPy x) = true := fun x y h => by rw [PySem.W.alike_comm]; exact alk_py x y h
theorem S2_or {r r' : R2} {f g : D → D → Option KD} (h : S2 G r f) (h' : S2 G r' g) : S2 G (fun x y H Q => r x y H Q ∨ r' x y H Q) (fOr f g) := fun F H σ S T x y dx dy kd Q st rx ry e k => by
  unfold fOr at e
  cases e1 : f dx dy with
  | some a => rw [e1] at e; cases e; exact .inl (h F H σ S T x y dx dy _ Q st rx ry e1 k)
  | none => rw [e1] at e; exact .inr (h' F H σ S T x y dx dy _ Q st rx ry e k)
theorem cmp_core (hK : X.K = G.K) {x y : V} {dx dy : D} {op : PyData → PyData → Bool} {b : Bool} {Q : VK} (st : St' G F H σ S T) (rx : Rep G F x dx) (ry : Rep G F y dy) (h : cmpOk dx dy = true) (hb : ∀ n m, D.alk dx dy = true → dx.lay n = true → dy.lay m = true → op (toPy dx) (toPy dy) = b) (k : KE G F H σ T Q (.fz, .bl b) S) : rCmpD op X.K x y H Q := by
  unfold cmpOk at h
  obtain ⟨h, h4⟩ := Bool.and_eq_true_iff.mp h
  obtain ⟨h, h3⟩ := Bool.and_eq_true_iff.mp h
  obtain ⟨h1, h2⟩ := Bool.and_eq_true_iff.mp h
  refine ⟨toPy dx, toPy dy, ?_, ?_, alk_py dx dy h2, ?_, ?_, ?_⟩
  · rw [hK]; exact dp_of 60 dx x h3 (rx.mono st.sub)
  · rw [hK]; exact dp_of 60 dy y h4 (ry.mono st.sub)
  · cases dx <;> simp [D.isTup] at h1
    simp [toPy]
  · exact (lay_py 60 dx h3).2
  · rw [hb 60 60 h2 h3 h4]
    exact KE.val k st (.bl _)
theorem alk_symm {x y : D} (n m : Nat) (h : D.alk x y = true) (hx : x.lay n = true) (hy : y.lay m = true) : PySem.W.dataLt (toPy y) (toPy x) = D.lt y x := by
  have : ∀ x y : D, D.alk x y = D.alk y x := by
    have main : (∀ x y : D, D.alk x y = D.alk y x) := fun x => by
      refine D.rec (motive_1 := fun x => ∀ y, D.alk x y = D.alk y x) (motive_2 := fun xs => ∀ ys, D.alks xs ys = D.alks ys xs) (motive_3 := fun _ => True) (motive_4 := fun _ => True) ?_ ?_ ?_ ?_ ?_ ?_ ?_ ?_ ?_ ?_ ?_ ?_ ?_ ?_ ?_ ?_ x
      all_goals first | trivial | skip
      case refine_6 => intro xs ih y; cases y <;> simp [D.alk, ih]
      case refine_12 => intro ys; cases ys <;> simp [D.alks]
      case refine_13 =>
        intro hd tl h1 h2 ys
        cases ys with
        | nil => simp [D.alks]
        | cons z zs => simp [D.alks, h1, h2]
      all_goals first | (intros; trivial) | (intros; rename_i y; cases y <;> simp [D.alk])
    exact main
  exact lt_py m n y x (by rw [this]; exact h) hy hx
theorem cls_ltD (hK : X.K = G.K) (hr : Room k X.A) : ∃ r, OpR X (compareOp .Lt) r ∧ S2 G r fLtA := by
  obtain ⟨r, h1, h2⟩ := cls_lt (X := X) (G := G)
  refine ⟨_, orR h1 (op_ltD hr.units), S2_or h2 fun F H σ S T x y dx dy kd Q st rx ry e k => ?_⟩
  unfold fLtD kz at e
  split at e
  · rename_i h; cases e; exact cmp_core hK st rx ry h (fun n m a b c => lt_py n m dx dy a b c) k
  · cases e
theorem cls_gtD (hK : X.K = G.K) (hr : Room k X.A) : ∃ r, OpR X (compareOp .Gt) r ∧ S2 G r fGtA := by
  obtain ⟨r, h1, h2⟩ := cls_gt (X := X) (G := G)
  refine ⟨_, orR h1 (op_gtD hr.units), S2_or h2 fun F H σ S T x y dx dy kd Q st rx ry e k => ?_⟩
  unfold fGtD kz at e
  split at e
  · rename_i h; cases e; exact cmp_core hK st rx ry h (fun n m a b c => alk_symm n m a b c) k
  · cases e
theorem cls_leD (hK : X.K = G.K) (hr : Room k X.A) : ∃ r, OpR X (compareOp .LtE) r ∧ S2 G r fLeA := by
  obtain ⟨r, h1, h2⟩ := cls_le (X := X) (G := G)
  refine ⟨_, orR h1 (op_leD hr.units), S2_or h2 fun F H σ S T x y dx dy kd Q st rx ry e k => ?_⟩
  unfold fLeD kz at e
  split at e
  · rename_i h; cases e; exact cmp_core hK st rx ry h (fun n m a b c => congrArg _ (alk_symm n m a b c)) k
  · cases e
theorem cls_geD (hK : X.K = G.K) (hr : Room k X.A) : ∃ r, OpR X (compareOp .GtE) r ∧ S2 G r fGeA := by
  obtain ⟨r, h1, h2⟩ := cls_ge (X := X) (G := G)
  refine ⟨_, orR h1 (op_geD hr.units), S2_or h2 fun F H σ S T x y dx dy kd Q st rx ry e k => ?_⟩
  unfold fGeD kz at e
  split at e
  · rename_i h; cases e; exact cmp_core hK st rx ry h (fun n m a b c => congrArg _ (lt_py n m dx dy a b c)) k
  · cases e
end
end TB

namespace TB
open PySem PyProof.Rows L2
theorem dp_reads_each {X : Cx} {pins : List (Addr × Obj)} {σ : L2.St} {H : Hp} {s : Shared} (I : Inv X pins σ H s) : ∀ {bs : List (V × PyData)} {us : List Value}, Vals (bs.map (·.1)) us → (∀ b ∈ bs, Dp X.K H b.1 b.2) →
    PySem.W.EachIs (fun u (b : V × PyData) => RelV b.1 u) us bs ∧ PySem.W.EachIs (fun u (b : V × PyData) => ∃ as, Reads s.heap u b.2 as) us bs
  | [], us, r, _ => by
    cases r; exact ⟨.nil, .nil⟩
  | b :: bs, us, r, h => by
    have r : Vals (b.1 :: bs.map (·.1)) us := r
    cases r with
    | cons r1 r2 =>
      obtain ⟨x, y⟩ := dp_reads_each I r2 fun c hc => h c (List.mem_cons_of_mem _ hc)
      exact ⟨.cons r1 x, .cons (Dp.reads I _ _ _ (h b List.mem_cons_self) r1) y⟩
theorem vals_each : ∀ {bs : List (V × PyData)} {us : List Value}, PySem.W.EachIs (fun u (b : V × PyData) => RelV b.1 u) us bs → Vals (bs.map (·.1)) us
  | _, _, .nil => .nil
  | _, _, .cons a r => .cons a (vals_each r)
/-- sorted(xs), xs a list of data of one form, of any length -/
def rSortedD (K : PySem.W.Frag) : List V → Hp → VK → Prop := fun vs H Q => ∃ (a : Addr) (bs : List (V × PyData)), vs = [V.ref a] ∧ SqL K H a (bs.map (·.1)) ∧ (∀ b ∈ bs, Dp K H b.1 b.2) ∧ PySem.W.AllAlike (bs.map (·.2)) ∧ PySem.W.Sortable (bs.map (·.2)) ∧ (∀ b ∈ bs, b.2.depth ≤ 60) ∧
  ∀ p, H p = none → Q (.ref p) (upd H p (.lst ((bs.mergeSort (PySem.W.dataLe false (·.2))).map (·.1))))
theorem cr_sortedD {X : Cx} (hu : X.A.units + 64 < cLine) : CallR X (.builtin "sorted") (rSortedD X.K) := by
  intro pins s σ H vs us Q I r ⟨a, bs, e, hs, hd, ha, hk, hz, q⟩
  subst e
  obtain ⟨its, rv, hl, hzl⟩ := I.list hs
  obtain ⟨u, rfl, ru⟩ := vals1 r
  obtain rfl : u = Value.ref a := ru
  obtain ⟨e1, e2⟩ := dp_reads_each I rv hd
  have hlen : bs.length ≤ sizeLine := by simpa using hzl
  refine PySem.W.sorted_data (enc := fun b : V × PyData => b.2) hl.isList e1 e2 ha hk hlen (fun b hb => by have := hz b hb; omega) fun out ho he => ?_
  obtain ⟨n, hn⟩ := sortedAll_at s.heap its (List.toArray out)
  refine ⟨.ref (s.heap.objs.size + 1), _, I.laid (t' := s.toks) (o := .lst ((bs.mergeSort (PySem.W.dataLe false (·.2))).map (·.1))) (fun b o e => sortedAll_old e) (Nat.le_succ _) ⟨?_, out, n, vals_each he, hn⟩, rfl, q _ (I.hok.fresh (Nat.le_succ _))⟩
  rw [List.length_map, List.length_mergeSort]
  exact hlen
section
variable {X : Cx} {G : Cfgx} {W : WX} {k : Nat} {F H : Hp} {σ : L2.St} {S : List Slot} {T : Cnt}
theorem reps_zip {F : Hp} : ∀ {zs : List (V × D)}, (∀ p ∈ zs, Rep G F p.1 p.2) → Reps G F (zs.map (·.1)) (zs.map (·.2))
  | [], _ => .nil
  | p :: zs, h => .cons (h p List.mem_cons_self) (reps_zip fun q hq => h q (List.mem_cons_of_mem _ hq))
theorem zip_reps {F : Hp} : ∀ {vs : List V} {ds : List D}, Reps G F vs ds → ∀ p ∈ vs.zip ds, Rep G F p.1 p.2
  | _, _, .nil, p, h => by simp at h
  | _, _, .cons a r, p, h => by
    rw [List.zip_cons_cons] at h
    rcases List.mem_cons.mp h with rfl | h
    · exact a
    · exact zip_reps r p h
theorem zip_fst {α β : Type} : ∀ {as : List α} {bs : List β}, as.length = bs.length → (as.zip bs).map (·.1) = as
  | [], [], _ => rfl
  | a :: as, b :: bs, h => by simp [zip_fst (as := as) (bs := bs) (by simpa using h)]
theorem zip_snd {α β : Type} : ∀ {as : List α} {bs : List β}, as.length = bs.length → (as.zip bs).map (·.2) = bs
  | [], [], _ => rfl
  | a :: as, b :: bs, h => by simp [zip_snd (as := as) (bs := bs) (by simpa using h)]
theorem mem_zip_snd {α β : Type} {as : List α} {bs : List β} {p : α × β} (h : p ∈ as.zip bs) : p.2 ∈ bs := (List.of_mem_zip h).2
/-- the core: data vs of one form sorted by le -/
theorem sorted_core (hK : X.K = G.K) {a : Addr} {xs : List V} {ds : List D} {Q : VK} (le : D → D → Bool) (st : St' G F H σ S T) (hl : F a = some (.lst xs)) (rs : Reps G F xs ds) (hy : D.lays 60 ds = true) (ha : ∀ x ∈ ds, ∀ y ∈ ds, D.alk x y = true) (hk : PySem.W.Sortable (ds.map toPy))
    (he : ∀ x ∈ ds, ∀ y ∈ ds, PySem.W.dataLt (toPy y) (toPy x) = !le x y) (k : KE G F H σ T Q (.li .fz, .lst (ds.mergeSort le)) S) : rSortedD X.K [.ref a] H Q := by
  have hlen : xs.length = ds.length := rs.len
  have e1 : ((xs.zip ds).map fun p => (p.1, toPy p.2)).map (·.1) = xs := by
    rw [List.map_map]; exact zip_fst hlen
  have e2 : ((xs.zip ds).map fun p => (p.1, toPy p.2)).map (·.2) = ds.map toPy := by
    rw [List.map_map]
    have : (xs.zip ds).map ((fun x : V × PyData => x.2) ∘ fun p : V × D => (p.1, toPy p.2)) = ((xs.zip ds).map (·.2)).map toPy := by rw [List.map_map]; rfl
    rw [this, zip_snd hlen]
  have hz := zip_reps (rs.mono st.sub)
  refine ⟨a, (xs.zip ds).map fun p => (p.1, toPy p.2), rfl, ?_, ?_, ?_, ?_, ?_, fun p hp => ?_⟩
  · rw [e1]; exact .inl (.inl (st.sub _ _ hl))
  · intro b hb
    obtain ⟨p, hp, rfl⟩ := List.mem_map.mp hb
    rw [hK]
    exact dp_of 60 p.2 p.1 (lays_mem hy _ (mem_zip_snd hp)) (hz p hp)
  · rw [e2]
    intro d hd d' hd'
    obtain ⟨x, hx, rfl⟩ := List.mem_map.mp hd
    obtain ⟨y, hyy, rfl⟩ := List.mem_map.mp hd'
    exact alk_py x y (ha x hx y hyy)
  · rw [e2]; exact hk
  · intro b hb
    obtain ⟨p, hp, rfl⟩ := List.mem_map.mp hb
    exact (lay_py 60 p.2 (lays_mem hy _ (mem_zip_snd hp))).2
  · have m1 : ((xs.zip ds).mergeSort fun p q => le p.2 q.2).map (fun p => (p.1, toPy p.2)) = ((xs.zip ds).map fun p => (p.1, toPy p.2)).mergeSort (PySem.W.dataLe false (·.2)) := by
      refine List.map_mergeSort fun p hp q hq => ?_
      rw [PySem.W.dataLe_eq]
      show le p.2 q.2 = !PySem.W.dataLt (toPy q.2) (toPy p.2)
      rw [he _ (mem_zip_snd hp) _ (mem_zip_snd hq), Bool.not_not]
    have m2 : ((xs.zip ds).mergeSort fun p q => le p.2 q.2).map (·.2) = ds.mergeSort le := by
      have := List.map_mergeSort (r := fun p q : V × D => le p.2 q.2) (s := le) (f := (·.2)) (l := xs.zip ds) fun p hp q hq => rfl
      rw [this, zip_snd hlen]
    have m3 : (((xs.zip ds).map fun p => (p.1, toPy p.2)).mergeSort (PySem.W.dataLe false (·.2))).map (·.1) = ((xs.zip ds).mergeSort fun p q => le p.2 q.2).map (·.1) := by
      rw [← m1, List.map_map]; rfl
    rw [m3]
    refine KE.newL k st ?_ p hp
    rw [← m2]
    exact reps_zip fun p hp => zip_reps rs p ((List.mergeSort_perm _ _).mem_iff.mp hp)
theorem alkAll_ok {ds : List D} (h : alkAll ds = true) : ∀ x ∈ ds, ∀ y ∈ ds, D.alk x y = true := fun x hx y hy => List.all_eq_true.mp (List.all_eq_true.mp h x hx) y hy
theorem toPys_map : ∀ ds : List D, toPys ds = ds.map toPy
  | [] => rfl
  | d :: ds => by simp [toPys, toPys_map ds]
theorem lay_str {F : Hp} {v : V} {s : List Nat} (n : Nat) (r : Rep G F v (.str s)) : (D.str s).lay n = true ∨ ∃ z : PySem.Str, v = .str z ∧ z.cps.toList = s := by
  cases r with
  | str z => exact .inr ⟨z, rfl, rfl⟩
theorem SN_or1 {r r' : List V → Hp → VK → Prop} {f g : List D → Option KD} (h : SN G r f) (h' : SN G r' g) : SN G (fun x H Q => r x H Q ∨ r' x H Q) (fOr1 f g) := fun F H σ S T xs ds kd Q st rs e k => by
  unfold fOr1 at e
  cases e1 : f ds with
  | some a => rw [e1] at e; cases e; exact .inl (h F H σ S T xs ds _ Q st rs e1 k)
  | none => rw [e1] at e; exact .inr (h' F H σ S T xs ds _ Q st rs e k)
theorem sn_sortedT (hK : X.K = G.K) : SN G (rSortedD X.K) fSortedT := fun F H σ S T xs ds kd Q st rs e k => by
  rcases rs with _ | ⟨r1, _ | ⟨r2, r3⟩⟩
  · simp [fSortedT] at e
  · cases r1 <;> simp only [fSortedT, reduceCtorEq] at e
    rename_i a ys as hl ra
    cases e2 : strsOf as with
    | some ss =>
      rw [e2] at e
      have e : (if ss.length ≤ sizeMax then some ((.li .fz, .lst ((sortT ss).map D.str)) : KD) else none) = some kd := e
      split at e
      · rename_i hz
        cases e
        obtain ⟨zs, ex, ez⟩ := strs_of ra e2
        subst ex ez
        refine ⟨a, zs.map fun z => (V.str z, PyData.str z), rfl, ?_, ?_, ?_, ?_, ?_, fun p hp => ?_⟩
        · rw [List.map_map]; exact .inl (.inl (st.sub _ _ hl))
        · intro b hb
          obtain ⟨z, _, rfl⟩ := List.mem_map.mp hb
          exact .str z
        · rw [List.map_map]; exact PySem.W.AllAlike.of fun _ _ => by simp [PySem.W.alike]
        · rw [List.map_map]; exact PySem.W.Sortable.others fun z => ⟨by simp, by simp⟩
        · intro b hb
          obtain ⟨z, _, rfl⟩ := List.mem_map.mp hb
          exact Nat.zero_le _
        · have m1 : (zs.mergeSort fun z w => !decide (w.cps.toList < z.cps.toList)).map (fun z => (V.str z, PyData.str z)) = (zs.map fun z => (V.str z, PyData.str z)).mergeSort (PySem.W.dataLe false (·.2)) := by
            refine List.map_mergeSort fun z _ w _ => ?_
            rw [PySem.W.dataLe_eq]
            show _ = !PySem.W.dataLt (.str w) (.str z)
            rw [PySem.W.dataLt_str]
          have m2 : ((zs.mergeSort fun z w => !decide (w.cps.toList < z.cps.toList)).map fun z => z.cps.toList) = sortT (zs.map fun z => z.cps.toList) := by
            unfold sortT
            exact List.map_mergeSort fun z _ w _ => rfl
          rw [← m1, List.map_map]
          rw [← m2] at k
          exact KE.newL k st (reps_strs _) p hp
      · cases e
    | none => rw [e2] at e; cases e
  · cases r1 <;> simp [fSortedT] at e
theorem sn_sortD (hK : X.K = G.K) : SN G (rSortedD X.K) fSortD := fun F H σ S T xs ds kd Q st rs e k => by
  rcases rs with _ | ⟨r1, _ | ⟨r2, r3⟩⟩
  · simp [fSortD] at e
  · cases r1 <;> simp only [fSortD, reduceCtorEq] at e
    rename_i a ys as hl ra
    split at e
    · rename_i hz
      obtain ⟨hz, hn⟩ := hz
      cases e
      unfold sortOk at hz
      obtain ⟨hz, h3⟩ := Bool.and_eq_true_iff.mp hz
      obtain ⟨h1, h2⟩ := Bool.and_eq_true_iff.mp hz
      refine sorted_core hK leD st hl ra h3 (alkAll_ok h2) (.inl fun d hd => ?_) (fun x hx y hy => ?_) k
      · obtain ⟨x, hx, rfl⟩ := List.mem_map.mp hd
        have := List.all_eq_true.mp h1 x hx
        cases x with
        | tup xs =>
          cases xs with
          | nil => simp [D.isTup1] at this
          | cons x xs => exact ⟨toPy x, toPys xs, by simp only [toPy, toPys]⟩
        | _ => simp [D.isTup1] at this
      · unfold leD
        rw [Bool.not_not]
        exact lt_py 60 60 y x (alkAll_ok h2 y hy x hx) (lays_mem h3 y hy) (lays_mem h3 x hx)
    · cases e
  · cases r1 <;> simp [fSortD] at e
theorem cls_sortedA (hK : X.K = G.K) (hr : Room k X.A) : ∃ r, CallR X (.builtin "sorted") r ∧ SN G r fSortedA := by
  obtain ⟨r, h1, h2⟩ := cls_sorted (X := X) (G := G) hK
  exact ⟨_, h1.or ((cr_sortedD hr.units).or (cr_sortedD hr.units)), SN_or1 h2 (SN_or1 (sn_sortedT hK) (sn_sortD hK))⟩
end
end TB

namespace TB
open PySem PyProof.Rows L2
mutual
theorem py_inj : ∀ (n m : Nat) (x y : D), x.lay n = true → y.lay m = true → toPy x = toPy y → x = y := by
  intro n m x y hx hy e
  cases x <;> cases y <;> first | (simp [D.lay] at hx; done) | (simp [D.lay] at hy; done) | (simp [toPy] at e; done) | rfl | skip
  case bl.bl => simp [toPy] at e; rw [e]
  case int.int => simp [toPy] at e; rw [e]
  case str.str => simp [toPy] at e; rw [e]
  case lst.lst xs ys =>
    cases n with
    | zero => simp [D.lay] at hx
    | succ n =>
      cases m with
      | zero => simp [D.lay] at hy
      | succ m => rw [pys_inj n m xs ys (by simpa [D.lay] using hx) (by simpa [D.lay] using hy) (by simpa [toPy] using e)]
  case tup.tup xs ys =>
    cases n with
    | zero => simp [D.lay] at hx
    | succ n =>
      cases m with
      | zero => simp [D.lay] at hy
      | succ m => rw [pys_inj n m xs ys (by simpa [D.lay] using hx) (by simpa [D.lay] using hy) (by simpa [toPy] using e)]
theorem pys_inj : ∀ (n m : Nat) (xs ys : List D), D.lays n xs = true → D.lays m ys = true → toPys xs = toPys ys → xs = ys
  | _, _, [], [], _, _, _ => rfl
  | _, _, [], _ :: _, _, _, e => by simp [toPys] at e
  | _, _, _ :: _, [], _, _, e => by simp [toPys] at e
  | n, m, x :: xs, y :: ys, hx, hy, e => by
    unfold D.lays at hx hy
    obtain ⟨h1, h2⟩ := Bool.and_eq_true_iff.mp hx
    obtain ⟨h3, h4⟩ := Bool.and_eq_true_iff.mp hy
    have e : toPy x = toPy y ∧ toPys xs = toPys ys := by simpa [toPys] using e
    rw [py_inj n m x y h1 h3 e.1, pys_inj n m xs ys h2 h4 e.2]
end
theorem fold_mem {α : Type} (f : α → α → Bool) : ∀ (xs : List α) (x : α), xs.foldl (fun a y => if f y a = true then y else a) x ∈ x :: xs
  | [], x => by simp
  | y :: ys, x => by
    simp only [List.foldl_cons]
    have := fold_mem f ys (if f y x = true then y else x)
    rcases List.mem_cons.mp this with h | h
    · rw [h]; split <;> simp
    · exact List.mem_cons_of_mem _ (List.mem_cons_of_mem _ h)
theorem min_py : ∀ (ds : List D) (d : D), (∀ x ∈ d :: ds, ∀ y ∈ d :: ds, D.alk x y = true) → (∀ x ∈ d :: ds, x.lay 60 = true) → PySem.W.minD (toPy d) (ds.map toPy) = toPy (minD d ds)
  | [], d, _, _ => rfl
  | e :: ds, d, h, hl => by
    have e1 : PySem.W.dataLt (toPy e) (toPy d) = D.lt e d := lt_py 60 60 e d (h e (by simp) d (by simp)) (hl e (by simp)) (hl d (by simp))
    have := min_py ds (if D.lt e d = true then e else d) (fun x hx y hy => h x (by
        rcases List.mem_cons.mp hx with q | q
        · rw [q]; split <;> simp
        · simp [q]) y (by
        rcases List.mem_cons.mp hy with q | q
        · rw [q]; split <;> simp
        · simp [q])) (fun x hx => hl x (by
        rcases List.mem_cons.mp hx with q | q
        · rw [q]; split <;> simp
        · simp [q]))
    unfold PySem.W.minD minD at this ⊢
    simp only [List.map_cons, List.foldl_cons]
    rw [← this, e1]
    congr 1
    split <;> rfl
theorem max_py : ∀ (ds : List D) (d : D), (∀ x ∈ d :: ds, ∀ y ∈ d :: ds, D.alk x y = true) → (∀ x ∈ d :: ds, x.lay 60 = true) → PySem.W.maxD (toPy d) (ds.map toPy) = toPy (maxD d ds)
  | [], d, _, _ => rfl
  | e :: ds, d, h, hl => by
    have e1 : PySem.W.dataLt (toPy d) (toPy e) = D.lt d e := lt_py 60 60 d e (h d (by simp) e (by simp)) (hl d (by simp)) (hl e (by simp))
    have := max_py ds (if D.lt d e = true then e else d) (fun x hx y hy => h x (by
        rcases List.mem_cons.mp hx with q | q
        · rw [q]; split <;> simp
        · simp [q]) y (by
        rcases List.mem_cons.mp hy with q | q
        · rw [q]; split <;> simp
        · simp [q])) (fun x hx => hl x (by
        rcases List.mem_cons.mp hx with q | q
        · rw [q]; split <;> simp
        · simp [q]))
    unfold PySem.W.maxD maxD at this ⊢
    simp only [List.map_cons, List.foldl_cons]
    rw [← this, e1]
    congr 1
    split <;> rfl
theorem depthAll_le : ∀ {n : Nat} {ds : List D}, D.lays n ds = true → PyData.depthAll (ds.map toPy) ≤ n := fun {n ds} h => by
  rw [← toPys_map]; exact (lays_py n ds h).2
def rBestD (best : PyData → List PyData → PyData) (K : PySem.W.Frag) : List V → Hp → VK → Prop := fun vs H Q => ∃ (a : Addr) (xs : List V) (d : PyData) (ds : List PyData), vs = [V.ref a] ∧ SqL K H a xs ∧ DpAll K H xs (d :: ds) ∧ PySem.W.AlikeAll (d :: ds) ∧ PyData.depthAll (d :: ds) ≤ 60 ∧
  ∀ (i : Nat) (v : V), xs[i]? = some v → (d :: ds)[i]? = some (best d ds) → Q v H
theorem dps_reads {X : Cx} {pins : List (Addr × Obj)} {σ : L2.St} {H : Hp} {s : Shared} (I : Inv X pins σ H s) : ∀ {xs : List V} {ds : List PyData} {us : List Value}, Vals xs us → DpAll X.K H xs ds → ∃ as, ReadsAll s.heap us ds as
  | _, _, _, .nil, .nil => ⟨_, .nil⟩
  | _, _, _, .cons r1 r2, .cons d1 d2 => by
    obtain ⟨as, a⟩ := Dp.reads I _ _ _ d1 r1
    obtain ⟨bs, b⟩ := dps_reads I r2 d2
    exact ⟨_, .cons a b⟩
theorem alike_one {h : Heap} {ds : List PyData} {u : Value} {d e : PyData} {as bs : List Addr} (al : PySem.W.alike d e = true) (r1 : Reads h u d as) (r2 : Reads h u e bs) : d = e := PySem.W.alike_unique d e u as bs al r1 r2
theorem vals_back : ∀ {xs : List V} {us : List Value} {i : Nat} {u : Value}, Vals xs us → us[i]? = some u → ∃ x, xs[i]? = some x ∧ RelV x u
  | _, _, i, u, .nil, h => by simp at h
  | _, _, 0, u, .cons a r, h => by simp at h; subst h; exact ⟨_, rfl, a⟩
  | _, _, i + 1, u, .cons a r, h => vals_back (i := i) r (by simpa using h)
theorem cr_minD {X : Cx} (hh : X.A.handled = none) (hu : X.A.units + 64 < cLine) : CallR X (.builtin "min") (rBestD PySem.W.minD X.K) := by
  intro pins s σ H vs us Q I r ⟨a, xs, d, ds, e, hs, hd, ha, hz, q⟩
  subst e
  obtain ⟨its, rv, hl, hzl⟩ := I.list hs
  obtain ⟨u, rfl, ru⟩ := vals1 r
  obtain rfl : u = Value.ref a := ru
  obtain ⟨as, ra⟩ := dps_reads I rv hd
  refine PySem.W.min_list_data hh hl.isList (by simpa using ra) ha (by omega) fun i v h' tk bs hv rd kp => ?_
  have hv : its[i]? = some v := by simpa using hv
  obtain ⟨x, hx, rx⟩ := vals_back rv hv
  refine ⟨x, H, I.kept (t' := tk) kp, rx, q i x hx ?_⟩
  obtain ⟨cs, rc, hi, hm, _⟩ := PySem.W.readsAll_at ra i v hv
  have hg : (d :: ds).getD i .none = PySem.W.minD d ds := by
    refine alike_one (ds := d :: ds) (ha.1 _ hm _ ?_) (Reads.keeps kp rc) rd
    unfold PySem.W.minD
    exact fold_mem PySem.W.dataLt ds d
  rw [← hg, List.getD_eq_getElem?_getD, List.getElem?_eq_getElem hi]; rfl
theorem cr_maxD {X : Cx} (hh : X.A.handled = none) (hu : X.A.units + 64 < cLine) : CallR X (.builtin "max") (rBestD PySem.W.maxD X.K) := by
  intro pins s σ H vs us Q I r ⟨a, xs, d, ds, e, hs, hd, ha, hz, q⟩
  subst e
  obtain ⟨its, rv, hl, hzl⟩ := I.list hs
  obtain ⟨u, rfl, ru⟩ := vals1 r
  obtain rfl : u = Value.ref a := ru
  obtain ⟨as, ra⟩ := dps_reads I rv hd
  refine PySem.W.max_list_data hh hl.isList (by simpa using ra) ha (by omega) fun i v h' tk bs hv rd kp => ?_
  have hv : its[i]? = some v := by simpa using hv
  obtain ⟨x, hx, rx⟩ := vals_back rv hv
  refine ⟨x, H, I.kept (t' := tk) kp, rx, q i x hx ?_⟩
  obtain ⟨cs, rc, hi, hm, _⟩ := PySem.W.readsAll_at ra i v hv
  have hg : (d :: ds).getD i .none = PySem.W.maxD d ds := by
    refine alike_one (ds := d :: ds) (ha.1 _ hm _ ?_) (Reads.keeps kp rc) rd
    unfold PySem.W.maxD
    exact fold_mem (fun x y => PySem.W.dataLt y x) ds d
  rw [← hg, List.getD_eq_getElem?_getD, List.getElem?_eq_getElem hi]; rfl
section
variable {X : Cx} {G : Cfgx} {W : WX} {k : Nat} {F H : Hp} {σ : L2.St} {S : List Slot} {T : Cnt}
theorem best_core (hK : X.K = G.K) {a : Addr} {xs : List V} {d : D} {ds : List D} {Q : VK} {best : PyData → List PyData → PyData} {b : D} (st : St' G F H σ S T) (hl : F a = some (.lst xs)) (rs : Reps G F xs (d :: ds)) (hy : D.lays 60 (d :: ds) = true) (ha : alkAll (d :: ds) = true)
    (hb : best (toPy d) (ds.map toPy) = toPy b) (hm : b ∈ d :: ds) (k : KE G F H σ T Q (.fz, b) S) : rBestD best X.K [.ref a] H Q := by
  have al := alkAll_ok ha
  have ly := lays_mem hy
  refine ⟨a, xs, toPy d, ds.map toPy, rfl, .inl (.inl (st.sub _ _ hl)), ?_, ⟨?_, ?_⟩, ?_, fun i v hv e => ?_⟩
  · rw [hK]
    have := dps_of 60 (d :: ds) xs hy (rs.mono st.sub)
    rwa [toPys_map] at this
  · intro x hx y hyy
    have hx : x ∈ (d :: ds).map toPy := hx
    have hyy : y ∈ (d :: ds).map toPy := hyy
    obtain ⟨x', h1, rfl⟩ := List.mem_map.mp hx
    obtain ⟨y', h2, rfl⟩ := List.mem_map.mp hyy
    exact alk_py _ _ (al _ h1 _ h2)
  · intro x hx
    have hx : x ∈ (d :: ds).map toPy := hx
    obtain ⟨x', h1, rfl⟩ := List.mem_map.mp hx
    have := al _ h1 _ h1
    cases x' <;> simp [D.alk, toPy] at this ⊢
  · exact depthAll_le hy
  · have e : ((d :: ds).map toPy)[i]? = some (best (toPy d) (ds.map toPy)) := e
    rw [List.getElem?_map, hb] at e
    cases e2 : (d :: ds)[i]? with
    | none => rw [e2] at e; cases e
    | some c =>
      rw [e2] at e
      have e : toPy c = toPy b := by simpa using e
      have : c = b := py_inj 60 60 c b (ly c (List.mem_of_getElem? e2)) (ly b hm) e
      subst this
      obtain ⟨w, hw, rw'⟩ := rs.get e2
      rw [hv] at hw; cases hw
      exact KE.val k st rw'
theorem cls_minL (hK : X.K = G.K) (hr : Room k X.A) (hc : X.calm = true) : ∃ r, CallR X (.builtin "min") r ∧ SN G r (fOr1 fMin2 fMinL) := by
  obtain ⟨r, h1, h2⟩ := cls_min2 (X := X) (G := G) hc
  refine ⟨_, h1.or (cr_minD hr.hd hr.units), SN_or1 h2 fun F H σ S T xs ds kd Q st rs e k => ?_⟩
  rcases rs with _ | ⟨r1, _ | ⟨r2, r3⟩⟩
  · simp [fMinL] at e
  · cases r1 <;> simp only [fMinL, reduceCtorEq] at e
    rename_i a ys as hl ra
    cases as with
    | nil => simp [fMinL] at e
    | cons d as =>
      simp only [fMinL] at e
      split at e
      · rename_i hz
        cases e
        exact best_core hK st hl ra hz.2.1 hz.1 (min_py as d (alkAll_ok hz.1) (lays_mem hz.2.1)) (by unfold minD; exact fold_mem D.lt as d) k
      · cases e
  · cases r1 <;> simp [fMinL] at e
theorem cls_maxL (hK : X.K = G.K) (hr : Room k X.A) (hc : X.calm = true) : ∃ r, CallR X (.builtin "max") r ∧ SN G r (fOr1 fMax2 fMaxL) := by
  obtain ⟨r, h1, h2⟩ := cls_max2 (X := X) (G := G) hc
  refine ⟨_, h1.or (cr_maxD hr.hd hr.units), SN_or1 h2 fun F H σ S T xs ds kd Q st rs e k => ?_⟩
  rcases rs with _ | ⟨r1, _ | ⟨r2, r3⟩⟩
  · simp [fMaxL] at e
  · cases r1 <;> simp only [fMaxL, reduceCtorEq] at e
    rename_i a ys as hl ra
    cases as with
    | nil => simp [fMaxL] at e
    | cons d as =>
      simp only [fMaxL] at e
      split at e
      · rename_i hz
        cases e
        exact best_core hK st hl ra hz.2.1 hz.1 (max_py as d (alkAll_ok hz.1) (lays_mem hz.2.1)) (by unfold maxD; exact fold_mem (fun x y => D.lt y x) as d) k
      · cases e
  · cases r1 <;> simp [fMaxL] at e
end
end TB

/-! TbT1: what is owned, at a path. -/
namespace TB
open PySem L2
mutual
theorem Kd.eq_of_beq : ∀ {a b : Kd}, Kd.beq a b = true → a = b
  | .fz, .fz, _ => rfl
  | .dN, .dN, _ => rfl
  | .li a, .li b, h => by simp only [Kd.beq] at h; rw [Kd.eq_of_beq h]
  | .dK a, .dK b, h => by simp only [Kd.beq] at h; rw [Kd.eq_of_beq h]
  | .dT a, .dT b, h => by simp only [Kd.beq] at h; rw [Kd.eq_of_beq h]
  | .dR a, .dR b, h => by simp only [Kd.beq] at h; rw [Kd.eqs_of_beq h]
  | .ob a, .ob b, h => by simp only [Kd.beq] at h; rw [Kd.eqs_of_beq h]
  | .fz, .li _, h => by simp [Kd.beq] at h
  | .fz, .dK _, h => by simp [Kd.beq] at h
  | .fz, .dT _, h => by simp [Kd.beq] at h
  | .fz, .dR _, h => by simp [Kd.beq] at h
  | .fz, .dN, h => by simp [Kd.beq] at h
  | .fz, .ob _, h => by simp [Kd.beq] at h
  | .li _, .fz, h => by simp [Kd.beq] at h
  | .li _, .dK _, h => by simp [Kd.beq] at h
  | .li _, .dT _, h => by simp [Kd.beq] at h
  | .li _, .dR _, h => by simp [Kd.beq] at h
  | .li _, .dN, h => by simp [Kd.beq] at h
  | .li _, .ob _, h => by simp [Kd.beq] at h
  | .dK _, .fz, h => by simp [Kd.beq] at h
  | .dK _, .li _, h => by simp [Kd.beq] at h
  | .dK _, .dT _, h => by simp [Kd.beq] at h
  | .dK _, .dR _, h => by simp [Kd.beq] at h
  | .dK _, .dN, h => by simp [Kd.beq] at h
  | .dK _, .ob _, h => by simp [Kd.beq] at h
  | .dT _, .fz, h => by simp [Kd.beq] at h
  | .dT _, .li _, h => by simp [Kd.beq] at h
  | .dT _, .dK _, h => by simp [Kd.beq] at h
  | .dT _, .dR _, h => by simp [Kd.beq] at h
  | .dT _, .dN, h => by simp [Kd.beq] at h
  | .dT _, .ob _, h => by simp [Kd.beq] at h
  | .dR _, .fz, h => by simp [Kd.beq] at h
  | .dR _, .li _, h => by simp [Kd.beq] at h
  | .dR _, .dK _, h => by simp [Kd.beq] at h
  | .dR _, .dT _, h => by simp [Kd.beq] at h
  | .dR _, .dN, h => by simp [Kd.beq] at h
  | .dR _, .ob _, h => by simp [Kd.beq] at h
  | .dN, .fz, h => by simp [Kd.beq] at h
  | .dN, .li _, h => by simp [Kd.beq] at h
  | .dN, .dK _, h => by simp [Kd.beq] at h
  | .dN, .dT _, h => by simp [Kd.beq] at h
  | .dN, .dR _, h => by simp [Kd.beq] at h
  | .dN, .ob _, h => by simp [Kd.beq] at h
  | .ob _, .fz, h => by simp [Kd.beq] at h
  | .ob _, .li _, h => by simp [Kd.beq] at h
  | .ob _, .dK _, h => by simp [Kd.beq] at h
  | .ob _, .dT _, h => by simp [Kd.beq] at h
  | .ob _, .dR _, h => by simp [Kd.beq] at h
  | .ob _, .dN, h => by simp [Kd.beq] at h
theorem Kd.eqs_of_beq : ∀ {a b : List Kd}, Kd.beqs a b = true → a = b
  | [], [], _ => rfl
  | a :: as, b :: bs, h => by
    simp only [Kd.beqs, Bool.and_eq_true] at h
    rw [Kd.eq_of_beq h.1, Kd.eqs_of_beq h.2]
  | [], _ :: _, h => by simp [Kd.beqs] at h
  | _ :: _, [], h => by simp [Kd.beqs] at h
end
/-- the way through what is owned -/
inductive Nav (G : Cfg) (H : Hp) : V → List PV → V → Prop
  | nil (v : V) : Nav G H v [] v
  | fld {a dx : Addr} {c n : Nat} {fs : List (PySem.Str × V)} {w v : V} {p : List PV} : H a = some (.ins (G.ca c) dx fs) → fs.map (·.1) = (G.cn c).take fs.length → (fs.map (·.2))[n]? = some w → Nav G H w p v → Nav G H (.ref a) (.fld c n :: p) v
  | key {a : Addr} {kvs : List (Key × V)} {kk : Key} {w v : V} {p : List PV} : H a = some (.dK kvs) → valV kvs kk = some w → Nav G H w p v → Nav G H (.ref a) (.key (keyD kk) :: p) v
  | ix {a : Addr} {xs : List V} {i : Int} {n : Nat} {w v : V} {p : List PV} : H a = some (.lst xs) → normIx xs.length i = some n → xs[n]? = some w → Nav G H w p v → Nav G H (.ref a) (.ix i :: p) v
theorem keyD_inj {a b : Key} (h : keyD a = keyD b) : a = b := by
  have : D.eqv (keyD a) (keyD b) = true := by rw [h, key_eqv]; simp
  rw [key_eqv] at this
  exact of_decide_eq_true this
theorem Nav.uniq {G : Cfg} {H : Hp} : ∀ {p : List PV} {v a b : V}, Nav G H v p a → Nav G H v p b → a = b
  | _, _, _, _, .nil _, .nil _ => rfl
  | _, _, _, _, .fld h1 _ h2 r, .fld g1 _ g2 r' => by
    obtain ⟨_, _, rfl⟩ := HO.ins.inj (Option.some.inj (h1.symm.trans g1))
    rw [h2] at g2; cases g2
    exact r.uniq r'
  | _, _, _, _, .key (kk := kk) h1 h2 r, n2 => by
    generalize hk : keyD kk = x at n2
    cases n2 with
    | @key _ _ kk' _ _ _ g1 g2 r' =>
      have := keyD_inj hk
      subst this
      rw [h1] at g1; cases g1
      rw [h2] at g2; cases g2
      exact r.uniq r'
  | _, _, _, _, .ix h1 h0 h2 r, .ix g1 g0 g2 r' => by
    rw [h1] at g1; cases g1
    rw [h0] at g0; cases g0
    rw [h2] at g2; cases g2
    exact r.uniq r'
section
variable {G : Cfg} {F H : Hp}
theorem OwnL.at : ∀ {ks : List Kd} {vs : List V} {ds : List D} {g : Cnt} {n : Nat} {k : Kd} {d : D}, OwnL G F H ks vs ds g → ks[n]? = some k → ds[n]? = some d → ∃ v f g0, (∀ a, g a = f a + g0 a) ∧ vs[n]? = some v ∧ Own G F H k v d f ∧
    ∀ F1 H1 k1 d1 f1, Same F F1 → (∀ a o, g0 a ≠ 0 → H a = some o → H1 a = some o) → Own G F1 H1 k1 v d1 f1 → OwnL G F1 H1 (ks.set n k1) vs (ds.set n d1) (add f1 g0)
  | _, _, _, _, n, _, _, .nil, e, _ => by simp at e
  | _, _, _, _, 0, k, d, .cons (f := f) (g := g) h r, e1, e2 => by
    cases (show some _ = some k from e1)
    cases (show some _ = some d from e2)
    exact ⟨_, f, g, fun a => rfl, rfl, h, fun F1 H1 k1 d1 f1 sf m o => .cons o (r.mono sf m)⟩
  | _, _, _, _, n + 1, k, d, .cons (f := f) (g := g) h r, e1, e2 => by
    obtain ⟨v, f2, g0, hg, hv, ho, back⟩ := OwnL.at (n := n) r e1 e2
    refine ⟨v, f2, add f g0, fun a => by simp only [add]; have := hg a; omega, hv, ho, fun F1 H1 k1 d1 f1 sf m o => ?_⟩
    have q := OwnL.cons (h.mono sf fun a o n => m a o (by simp only [add]; omega)) (back F1 H1 k1 d1 f1 sf (fun a o n => m a o (by simp only [add]; omega)) o)
    have e3 : add f (add f1 g0) = add f1 (add f g0) := by funext a; simp only [add]; omega
    rw [e3] at q
    exact q
theorem Owns.at : ∀ {k : Kd} {vs : List V} {ds : List D} {g : Cnt} {n : Nat} {d : D}, Owns G F H k vs ds g → ds[n]? = some d → ∃ v f g0, (∀ a, g a = f a + g0 a) ∧ vs[n]? = some v ∧ Own G F H k v d f ∧
    ∀ F1 H1 d1 f1, Same F F1 → (∀ a o, g0 a ≠ 0 → H a = some o → H1 a = some o) → Own G F1 H1 k v d1 f1 → Owns G F1 H1 k vs (ds.set n d1) (add f1 g0)
  | _, _, _, _, n, _, .nil, e => by simp at e
  | _, _, _, _, 0, d, .cons (f := f) (g := g) h r, e2 => by
    cases (show some _ = some d from e2)
    exact ⟨_, f, g, fun a => rfl, rfl, h, fun F1 H1 d1 f1 sf m o => .cons o (r.mono sf m)⟩
  | _, _, _, _, n + 1, d, .cons (f := f) (g := g) h r, e2 => by
    obtain ⟨v, f2, g0, hg, hv, ho, back⟩ := Owns.at (n := n) r e2
    refine ⟨v, f2, add f g0, fun a => by simp only [add]; have := hg a; omega, hv, ho, fun F1 H1 d1 f1 sf m o => ?_⟩
    have q := Owns.cons (h.mono sf fun a o n => m a o (by simp only [add]; omega)) (back F1 H1 d1 f1 sf (fun a o n => m a o (by simp only [add]; omega)) o)
    have e3 : add f (add f1 g0) = add f1 (add f g0) := by funext a; simp only [add]; omega
    rw [e3] at q
    exact q
theorem OwnL.len : ∀ {ks : List Kd} {vs : List V} {ds : List D} {g : Cnt}, OwnL G F H ks vs ds g → vs.length = ds.length ∧ ks.length = ds.length
  | _, _, _, _, .nil => ⟨rfl, rfl⟩
  | _, _, _, _, .cons _ r => ⟨by simp [r.len.1], by simp [r.len.2]⟩
theorem Owns.len : ∀ {k : Kd} {vs : List V} {ds : List D} {g : Cnt}, Owns G F H k vs ds g → vs.length = ds.length
  | _, _, _, _, .nil => rfl
  | _, _, _, _, .cons _ r => by simp [r.len]
theorem map_fst_set {α β : Type} {l : List (α × β)} {n : Nat} {q : α × β} {b : β} (h : l[n]? = some q) : (l.set n (q.1, b)).map (·.1) = l.map (·.1) := by
  obtain ⟨hn, rfl⟩ := List.getElem?_eq_some_iff.mp h
  rw [List.map_set]
  have e : l[n].1 = (l.map (·.1))[n]'(by simpa using hn) := by simp
  rw [e, List.set_getElem_self]
theorem map_snd_set {α β : Type} {l : List (α × β)} {n : Nat} {a : α} {b : β} : (l.set n (a, b)).map (·.2) = (l.map (·.2)).set n b := by rw [List.map_set]
theorem key_at {kvs : List (Key × V)} {kds : List (D × D)} (hk : kds.map (·.1) = kvs.map (fun p => keyD p.1)) {kk : Key} {n : Nat} {w : V} (e : keyAt kds (keyD kk) = some n) (hw : (kvs.map (·.2))[n]? = some w) : valV kvs kk = some w := by
  induction kvs generalizing kds n with
  | nil => simp at hw
  | cons p r ih => cases kds with
    | nil => simp at hk
    | cons a b =>
      obtain ⟨h1, h2⟩ := List.cons.inj (show a.1 :: b.map (·.1) = keyD p.1 :: r.map (fun p => keyD p.1) from hk)
      unfold keyAt at e
      rw [List.findIdx?_cons, h1, key_eqv] at e
      unfold valV
      rw [List.find?_cons]
      by_cases z : p.1 = kk
      · rw [decide_eq_true z] at e ⊢
        simp at e
        subst e
        simpa using hw
      · rw [decide_eq_false z] at e ⊢
        simp only [Bool.false_eq_true, if_false, Option.map_eq_some_iff] at e
        obtain ⟨m, e, rfl⟩ := e
        exact ih h2 (n := m) e (by simpa using hw)
theorem isKey_of {x : D} {kvs : List (Key × V)} {kds : List (D × D)} {n : Nat} (hk : kds.map (·.1) = kvs.map (fun p => keyD p.1)) (e : keyAt kds x = some n) (h : isKey x = true) : ∃ kk, x = keyD kk := by
  cases x <;> simp [isKey] at h
  · rename_i i; exact ⟨.inl i, rfl⟩
  · rename_i s
    -- the stored key is the text
    unfold keyAt at e
    rw [List.findIdx?_eq_some_iff_getElem] at e
    obtain ⟨hn, e, _⟩ := e
    have hm : kds[n].1 ∈ kds.map (·.1) := List.mem_map.mpr ⟨_, List.getElem_mem hn, rfl⟩
    rw [hk] at hm
    obtain ⟨p, _, hp⟩ := List.mem_map.mp hm
    rw [← hp] at e
    cases h1 : p.1 with
    | inl j => rw [h1] at e; simp [keyD, D.eqv] at e
    | inr z =>
      rw [h1] at e
      simp [keyD, D.eqv] at e
      exact ⟨.inr z, by rw [keyD, e]⟩
theorem Own.at : ∀ (pv : List PV) {k : Kd} {v : V} {d : D} {f : Cnt}, Own G F H k v d f → ∀ {k' : Kd} {d' : D}, getKD pv k d = some (k', d') → ∃ v' f' f0, (∀ a, f a = f' a + f0 a) ∧ Nav G H v pv v' ∧ Own G F H k' v' d' f' ∧
    ∀ F1 H1 k1 d1 f1 r, Same F F1 → (∀ a o, f0 a ≠ 0 → H a = some o → H1 a = some o) → Own G F1 H1 k1 v' d1 f1 → setKD pv k d (k1, d1) = some r → Own G F1 H1 r.1 v r.2 (add f1 f0)
  | [], k, v, d, f, o, k', d', e => by
    cases (show some (k, d) = some (k', d') from e)
    refine ⟨v, f, nil0, fun a => rfl, .nil v, o, fun F1 H1 k1 d1 f1 r sf m o1 er => ?_⟩
    cases (show some (k1, d1) = some r from er)
    exact o1.cast fun a => rfl
  | .fld c0 n :: pv, k, v, d, f, o, k', d', e => by
    cases o with
    | @ob ks a dx c fs ds g h hn r =>
      unfold getKD at e
      by_cases hc : c = c0
      case neg => rw [if_neg hc] at e; cases e
      subst hc
      rw [if_pos rfl] at e
      cases e1 : ks[n]? with
      | none => rw [e1] at e; cases e
      | some kn =>
        cases e2 : ds[n]? with
        | none => rw [e1, e2] at e; cases e
        | some dn =>
          rw [e1, e2] at e
          obtain ⟨vn, fn, g0, hg, hv, on, back⟩ := r.at e1 e2
          obtain ⟨v', f', f0, hf, nv, o', back'⟩ := Own.at pv on e
          have hlen : fs.length = ds.length := by have := r.len.1; simpa using this
          refine ⟨v', f', add (one a) (add g0 f0), fun b => by simp only [add]; have := hg b; have := hf b; omega, .fld h (by rw [hlen]; exact hn) hv nv, o', fun F1 H1 k1 d1 f1 r sf m o1 er => ?_⟩
          unfold setKD at er
          rw [if_pos rfl, e1, e2] at er
          simp only at er
          cases e3 : setKD pv kn dn (k1, d1) with
          | none => rw [e3] at er; cases er
          | some q =>
            rw [e3] at er
            cases er
            have oq := back' F1 H1 k1 d1 f1 q sf (fun b o n => m b o (by simp only [add]; omega)) o1 e3
            have ol := back F1 H1 q.1 q.2 (add f1 f0) sf (fun b o n => m b o (by simp only [add]; omega)) oq
            have hh := m a _ (by simp [add, one]) h
            refine (Own.ob (ds := ds.set n q.2) hh (by rw [List.length_set]; exact hn) ol).cast fun b => by simp only [add]; omega
    | _ => unfold getKD at e; cases e
  | .key x :: pv, k, v, d, f, o, k', d', e => by
    cases o with
    | @dK k a kvs kds g h hn r =>
      unfold getKD at e
      split at e
      · rename_i hx
        cases e1 : keyAt kds x with
        | none => rw [e1] at e; cases e
        | some n =>
          rw [e1] at e
          cases e2 : kds[n]? with
          | none => simp [e2] at e
          | some q =>
            have e : getKD pv k q.2 = some (k', d') := by simpa [e2] using e
            have e2' : (kds.map (·.2))[n]? = some q.2 := by rw [List.getElem?_map, e2]; rfl
            obtain ⟨vn, fn, g0, hg, hv, on, back⟩ := r.at e2'
            obtain ⟨v', f', f0, hf, nv, o', back'⟩ := Own.at pv on e
            obtain ⟨kk, rfl⟩ := isKey_of hn e1 hx
            refine ⟨v', f', add (one a) (add g0 f0), fun b => by simp only [add]; have := hg b; have := hf b; omega, .key h (key_at hn e1 hv) nv, o', fun F1 H1 k1 d1 f1 r1 sf m o1 er => ?_⟩
            unfold setKD at er
            rw [if_pos hx, e1] at er
            simp only [Option.bind_some, e2] at er
            cases e3 : setKD pv k q.2 (k1, d1) with
            | none => rw [e3] at er; cases er
            | some p =>
              rw [e3] at er
              simp only [Option.bind_some] at er
              split at er
              · rename_i hb
                cases er
                have oq := back' F1 H1 k1 d1 f1 p sf (fun b o n => m b o (by simp only [add]; omega)) o1 e3
                rw [Kd.eq_of_beq hb] at oq
                have ol := back F1 H1 p.2 (add f1 f0) sf (fun b o n => m b o (by simp only [add]; omega)) oq
                have hh := m a _ (by simp [add, one]) h
                refine (Own.dK (kds := kds.set n (q.1, p.2)) hh (by rw [map_fst_set e2]; exact hn) (by rw [map_snd_set]; exact ol)).cast fun b => by simp only [add]; omega
              · cases er
      · cases e
    | @dR ks a kvs kds g h hn r =>
      unfold getKD at e
      split at e
      · rename_i hx
        cases e1 : keyAt kds x with
        | none => rw [e1] at e; cases e
        | some n =>
          rw [e1] at e
          cases e0 : ks[n]? with
          | none => simp [e0] at e
          | some kn =>
          cases e2 : kds[n]? with
          | none => simp [e0, e2] at e
          | some q =>
            have e : getKD pv kn q.2 = some (k', d') := by simpa [e0, e2] using e
            have e2' : (kds.map (·.2))[n]? = some q.2 := by rw [List.getElem?_map, e2]; rfl
            obtain ⟨vn, fn, g0, hg, hv, on, back⟩ := r.at e0 e2'
            obtain ⟨v', f', f0, hf, nv, o', back'⟩ := Own.at pv on e
            obtain ⟨kk, rfl⟩ := isKey_of hn e1 hx
            refine ⟨v', f', add (one a) (add g0 f0), fun b => by simp only [add]; have := hg b; have := hf b; omega, .key h (key_at hn e1 hv) nv, o', fun F1 H1 k1 d1 f1 r1 sf m o1 er => ?_⟩
            unfold setKD at er
            rw [if_pos hx, e1] at er
            simp only [Option.bind_some, e0, e2] at er
            cases e3 : setKD pv kn q.2 (k1, d1) with
            | none => rw [e3] at er; cases er
            | some p =>
              rw [e3] at er
              cases er
              have oq := back' F1 H1 k1 d1 f1 p sf (fun b o n => m b o (by simp only [add]; omega)) o1 e3
              have ol := back F1 H1 p.1 p.2 (add f1 f0) sf (fun b o n => m b o (by simp only [add]; omega)) oq
              have hh := m a _ (by simp [add, one]) h
              refine (Own.dR (kds := kds.set n (q.1, p.2)) hh (by rw [map_fst_set e2]; exact hn) (by rw [map_snd_set]; exact ol)).cast fun b => by simp only [add]; omega
      · cases e
    | _ => unfold getKD at e; cases e
  | .ix i :: pv, k, v, d, f, o, k', d', e => by
    cases o with
    | @li k a vs ds g h r =>
      unfold getKD at e
      cases e1 : normIx ds.length i with
      | none => rw [e1] at e; cases e
      | some n =>
        rw [e1] at e
        cases e2 : ds[n]? with
        | none => simp [e2] at e
        | some dn =>
          have e : getKD pv k dn = some (k', d') := by simpa [e2] using e
          obtain ⟨vn, fn, g0, hg, hv, on, back⟩ := r.at e2
          obtain ⟨v', f', f0, hf, nv, o', back'⟩ := Own.at pv on e
          refine ⟨v', f', add (one a) (add g0 f0), fun b => by simp only [add]; have := hg b; have := hf b; omega, .ix h (by rw [r.len]; exact e1) hv nv, o', fun F1 H1 k1 d1 f1 r1 sf m o1 er => ?_⟩
          unfold setKD at er
          rw [e1] at er
          simp only [Option.bind_some, e2] at er
          cases e3 : setKD pv k dn (k1, d1) with
          | none => rw [e3] at er; cases er
          | some p =>
            rw [e3] at er
            simp only [Option.bind_some] at er
            split at er
            · rename_i hb
              cases er
              have oq := back' F1 H1 k1 d1 f1 p sf (fun b o n => m b o (by simp only [add]; omega)) o1 e3
              rw [Kd.eq_of_beq hb] at oq
              have ol := back F1 H1 p.2 (add f1 f0) sf (fun b o n => m b o (by simp only [add]; omega)) oq
              have hh := m a _ (by simp [add, one]) h
              exact (Own.li hh ol).cast fun b => by simp only [add]; omega
            · cases er
    | _ => unfold getKD at e; cases e
end
end TB

/-! TbT2: quiet expressions, paths, reads and stores there. -/
namespace TB
open PySem L2
section
variable {G : Cfgx} {F F' H H' : Hp} {σ : L2.St} {S : List Slot} {T T' : Cnt}
def tupOf : Option HO → Option HO
  | some (.tup xs) => some (.tup xs)
  | some (.frz o (.tup xs)) => some (.frz o (.tup xs))
  | _ => none
theorem tupOf_some {o : Option HO} {u : HO} (h : tupOf o = some u) : o = some u ∧ TupAt o := by
  unfold tupOf at h
  split at h
  · cases h; exact ⟨rfl, .inl ⟨_, rfl⟩⟩
  · cases h; exact ⟨rfl, .inr ⟨_, _, rfl⟩⟩
  · cases h
def exT (F H : Hp) : Hp := fun a => match F a with
  | some o => some o
  | none => tupOf (H a)
theorem exT_some {F H : Hp} {a : Addr} {u : HO} (h : exT F H a = some u) : F a = some u ∨ (F a = none ∧ H a = some u ∧ TupAt (H a)) := by
  unfold exT at h
  cases e : F a with
  | some o => rw [e] at h; exact .inl h
  | none => rw [e] at h; obtain ⟨a, b⟩ := tupOf_some h; exact .inr ⟨rfl, a, b⟩
theorem exT_of {F H : Hp} {a : Addr} {u : HO} (s : Same F H) (h : H a = some u) (t : TupAt (H a)) : exT F H a = some u := by
  unfold exT
  cases e : F a with
  | some o => rw [s _ _ e] at h; exact h
  | none =>
    show tupOf (H a) = some u
    rcases t with ⟨xs, t⟩ | ⟨o, xs, t⟩ <;> rw [t] at h ⊢ <;> exact h
mutual
theorem rep_exT {F H : Hp} (s : Same F H) : ∀ {v : V} {d : D}, d.imm = true → Rep G H v d → Rep G (exT F H) v d
  | _, _, _, .non => .non
  | _, _, _, .bl b => .bl b
  | _, _, _, .int i => .int i
  | _, _, _, .str z => .str z
  | _, _, h, .tup q r => .tup (by
      rcases q with (q | ⟨o, q⟩) | q
      · exact .inl (.inl (exT_of s q (.inl ⟨_, q⟩)))
      · exact .inl (.inr ⟨o, exT_of s q (.inr ⟨_, _, q⟩)⟩)
      · exact .inr q) (reps_exT s (by simpa [D.imm] using h) r)
  | _, _, h, .scr _ => by simp [D.imm] at h
  | _, _, h, .lst _ _ => by simp [D.imm] at h
  | _, _, h, .dK _ _ _ => by simp [D.imm] at h
  | _, _, h, .dN _ _ _ _ => by simp [D.imm] at h
  | _, _, h, .ob _ _ _ => by simp [D.imm] at h
  | _, _, h, .fn _ => by simp [D.imm] at h
theorem reps_exT {F H : Hp} (s : Same F H) : ∀ {vs : List V} {ds : List D}, D.imms ds = true → Reps G H vs ds → Reps G (exT F H) vs ds
  | _, _, _, .nil => .nil
  | _, _, h, .cons a r => by
    simp only [D.imms, Bool.and_eq_true] at h
    exact .cons (rep_exT s h.1 a) (reps_exT s h.2 r)
end
/-- what is new and a tuple is frozen -/
theorem St'.exT (st : St' G F H σ S T) (e : Same H H') : Same F H' ∧ St' G (TB.exT F H') H' σ S T ∧ Step F H T (TB.exT F H') H' T := by
  have s : Same F H' := st.sub.trans e
  have sf : Same F (TB.exT F H') := fun a o h => by unfold TB.exT; rw [h]
  have nt : ∀ a, T a ≠ 0 → ¬ TupAt (H' a) := fun a n => by
    have h1 := st.there a n
    have h2 := st.noT a n
    cases q : H a with
    | none => exact absurd q h1
    | some o => rw [e _ _ q, ← q]; exact h2
  refine ⟨s, ⟨st.pi, fun a u h => ?_, st.sl.mono sf fun a o n h => e _ _ h, st.le, fun a n => ?_⟩, ⟨sf, fun a o _ h => e _ _ h, fun a n => .inl n, fun a h n => ?_, fun a h => ?_⟩⟩
  · rcases exT_some h with h | ⟨_, h, _⟩
    · exact s _ _ h
    · exact h
  · cases q : TB.exT F H' a with
    | none => exact absurd q n
    | some u =>
      rcases exT_some q with h | ⟨_, h, t⟩
      · exact st.di a (by rw [h]; simp)
      · exact Decidable.byContradiction fun z => nt a z t
  · cases q : TB.exT F H' a with
    | none => exact absurd q n
    | some u =>
      rcases exT_some q with h2 | ⟨_, h2, t⟩
      · rw [h] at h2; cases h2
      · cases z : H a with
        | none => exact .inl rfl
        | some o => rw [e _ _ z, ← z] at t; exact .inr (.inr (by rw [← z]; exact t))
  · cases q : H a with
    | none => exact absurd q h
    | some o => rw [e _ _ q]; simp
end
/-! ### quiet: nothing that is owned changes -/
def DenQ (G : Cfgx) (t : TE) (m : E) : Prop := ∀ F H σ S T Q d S', St' G F H σ S T → m S = .ok (.fz, d) S' → (∀ v F' H', Step F H T F' H' T → St' G F' H' σ S T → Same H H' → Rep G F' v d → Q v H') → t σ H Q
def TrQ (X : Cx) (G : Cfgx) (e : Expr) (m : E) : Prop := ∃ t, PE X e t ∧ DenQ G t m
def Qt (m : E) : Prop := ∀ S, m S = .bad ∨ ∃ d, m S = .ok (.fz, d) S
section
variable {X : Cx} {G : Cfgx} {W : WX} {k : Nat}
theorem qt_rd (i : Nat) (ps : List PS) : Qt (pRd i ps) := fun S => by
  unfold pRd
  split
  · exact .inr ⟨_, rfl⟩
  · exact .inl rfl
theorem qt_peek (m : E) : Qt (ePeekI m) := fun S => by
  unfold ePeekI
  split
  · split
    · exact .inr ⟨_, rfl⟩
    · exact .inl rfl
  · exact .inl rfl
theorem qt_con (d : D) : Qt (eCon d) := fun S => .inr ⟨_, rfl⟩
theorem tr_ofQ {e : Expr} {m : E} (h : TrQ X G e m) (q : Qt m) : TrE X G W e m := by
  obtain ⟨t, p, d⟩ := h
  refine ⟨t, p, fun F H σ S T Q st z => ?_⟩
  rcases q S with e | ⟨d', e⟩
  · rw [e] at z; exact z.elim
  · rw [e] at z
    have z : KE G F H σ T Q (.fz, d') S := z
    exact d F H σ S T Q d' S st e fun v F' H' s st' _ r => z v F' H' T nil0 (s.castR fun a => rfl) st' (.fz r) (fun a => st'.le a) fun _ _ => rfl
theorem q_var (i : Nat) {x : PySem.Str} {pos : Pos} (hN : X.N[i]? = some x := by rfl) (hv : Vis X.env.scope x := by first | exact Or.inl rfl | exact Or.inr (Or.inl rfl) | exact Or.inr (Or.inr rfl)) (hd : (x == ("__debug__" : PySem.Str)) = false := by decide)
    (hcd : (x == ("__classdict__" : PySem.Str)) = false := by decide) : TrQ X G (.Name x pos) (eVar i) := by
  refine ⟨_, pe_var hN hv hd hcd, fun F H σ S T Q d S' st e k => ?_⟩
  unfold eVar at e
  split at e
  · rename_i d' q
    cases e
    obtain ⟨v, f, hv, o, _⟩ := st.sl.var q
    cases o with
    | fz r => exact ⟨v, hv, k v F H (Step.refl F H T) st (Same.refl H) r⟩
  · cases e
theorem q_int {i : Int} {j} {pos : Pos} : TrQ X G (.Constant (.int i) j pos) (eCon (.int i)) := ⟨_, pe_int, fun F H σ S T Q d S' st e k => by cases e; exact k _ F H (Step.refl F H T) st (Same.refl H) (.int i)⟩
theorem q_non {j} {pos : Pos} : TrQ X G (.Constant .none j pos) (eCon .non) := ⟨_, pe_non, fun F H σ S T Q d S' st e k => by cases e; exact k _ F H (Step.refl F H T) st (Same.refl H) .non⟩
theorem q_bl {b : Bool} {j} {pos : Pos} : TrQ X G (.Constant (.bool b) j pos) (eCon (.bl b)) := ⟨_, pe_bl, fun F H σ S T Q d S' st e k => by cases e; exact k _ F H (Step.refl F H T) st (Same.refl H) (.bl b)⟩
theorem q_str {z : PySem.Str} {j} {pos : Pos} (s : List Nat) (hs : z.cps.toList = s := by rfl) : TrQ X G (.Constant (.str z) j pos) (eCon (.str s)) := ⟨_, pe_str, fun F H σ S T Q d S' st e k => by cases e; exact k _ F H (Step.refl F H T) st (Same.refl H) (hs ▸ .str z)⟩
theorem peek_world {F H : Hp} {σ : L2.St} {S : List Slot} {T : Cnt} (st : St' G F H σ S T) : St' G H H σ (S.map frz) nil0 := ⟨st.pi, Same.refl H, slots_frz st.sub st.sl, fun _ => Nat.zero_le _, fun _ _ => rfl⟩
theorem q_peek {e : Expr} {m : E} {W' : WX} (h : TrE X G W' e m) : TrQ X G e (ePeekI m) := by
  obtain ⟨t, hp, hd⟩ := h
  refine ⟨t, hp, fun F H σ S T Q d S' st e k => ?_⟩
  unfold ePeekI at e
  split at e
  · rename_i kd d' S1 em
    split at e
    · rename_i hi
      cases e
      refine hd H H σ (S.map frz) nil0 Q (peek_world st) ?_
      rw [em]
      intro v F' H' T' f s' st' o le di
      have sHH : Same H H' := fun a u e => s'.fr a u rfl e
      have rep := o.rep st'.sub
      obtain ⟨sF, st2, s2⟩ := st.exT sHH
      exact k v _ H' s2 st2 sHH (rep_exT sF hi rep)
    · cases e
  · cases e
theorem tr_peekI {e : Expr} {m : E} {W' : WX} (h : TrE X G W' e m) : TrE X G W e (ePeekI m) := tr_ofQ (q_peek h) (qt_peek m)
/-- a new list of such -/
theorem tr_peekLI {e : Expr} {m : E} {W' : WX} (h : TrE X G W' e m) : TrE X G W e (ePeekLI m) := by
  obtain ⟨t, hp, hd⟩ := h
  refine ⟨t, hp, fun F H σ S T Q st p => ?_⟩
  unfold ePeekLI at p
  refine hd H H σ (S.map frz) nil0 Q (peek_world st) ?_
  split at p
  · rename_i ds S1 em
    split at p
    · rename_i hi
      rw [em]
      have p : KE G F H σ T Q (.li .fz, .lst ds) S := p
      intro v F' H' T' f s' st' o le di
      have sHH : Same H H' := fun a u e => s'.fr a u rfl e
      have sub' := st'.sub
      cases o with
      | @li k a vs ds g h r =>
        obtain ⟨rr, rfl⟩ := reps_fz r
        obtain ⟨sF, st2, s2⟩ := st.exT sHH
        have hn : H a = none := by
          rcases s'.nT a (by simp [add, one]) with z | z
          · exact absurd rfl z
          · exact z
        have tz : T a = 0 := Decidable.byContradiction fun n => st.there a n hn
        have r2 : Reps G (exT F H') vs ds := reps_exT sF hi ((owns_fz (H := H') rr).rep sub')
        refine p (.ref a) _ H' T (add (one a) nil0) ⟨s2.sF, s2.fr, fun b n => ?_, s2.nF, s2.tl⟩ st2 (.li h (owns_fz r2)) (fun b => ?_) fun b n => ?_
        · by_cases q : b = a
          · rw [q]; exact .inr hn
          · exact .inl (by simp only [add, one, if_neg q, nil0] at n; omega)
        · by_cases q : b = a
          · rw [q]; simp [add, one, nil0, tz]
          · have := st2.le b; simp only [add, one, if_neg q, nil0]; omega
        · by_cases q : b = a
          · exfalso
            rw [q] at n
            cases z : exT F H' a with
            | none => exact n z
            | some u =>
              rcases exT_some z with z | ⟨_, _, t⟩
              · have := st.sub _ _ z; rw [hn] at this; cases this
              · rw [h] at t; rcases t with ⟨_, t⟩ | ⟨_, _, t⟩ <;> cases t
          · simp [add, one, if_neg q, nil0]
    · exact p.elim
  · exact p.elim
/-! ### paths -/
theorem Nav.mono {G : Cfg} {H H' : Hp} (e : Same H H') : ∀ {p : List PV} {v w : V}, Nav G H v p w → Nav G H' v p w
  | _, _, _, .nil v => .nil v
  | _, _, _, .fld h n g r => .fld (e _ _ h) n g (Nav.mono e r)
  | _, _, _, .key h g r => .key (e _ _ h) g (Nav.mono e r)
  | _, _, _, .ix h n g r => .ix (e _ _ h) n g (Nav.mono e r)
theorem Nav.snoc {G : Cfg} {H : Hp} {s : PV} : ∀ {p : List PV} {v w u : V}, Nav G H v p w → Nav G H w [s] u → Nav G H v (p ++ [s]) u
  | _, _, _, _, .nil v, h => h
  | _, _, _, _, .fld h n g r, q => .fld h n g (Nav.snoc r q)
  | _, _, _, _, .key h g r, q => .key h g (Nav.snoc r q)
  | _, _, _, _, .ix h n g r, q => .ix h n g (Nav.snoc r q)
def getKD1 (s : PV) (q : KD) : Option KD := getKD [s] q.1 q.2
theorem getKD_snoc (s : PV) : ∀ (p : List PV) (k : Kd) (d : D), getKD (p ++ [s]) k d = (getKD p k d).bind (getKD1 s)
  | [], k, d => rfl
  | .fld c n :: p, k, d => by
    cases k <;> first | rfl | skip
    rename_i ks
    cases d <;> first | rfl | skip
    rename_i c' ds
    show getKD (.fld c n :: (p ++ [s])) _ _ = _
    unfold getKD
    split
    · split
      · rename_i e1 e2; exact getKD_snoc s p _ _
      · rfl
    · rfl
  | .key x :: p, k, d => by
    cases k <;> first | rfl | skip
    · rename_i k
      cases d <;> first | rfl | skip
      rename_i kvs
      show getKD (.key x :: (p ++ [s])) _ _ = _
      unfold getKD
      split
      · cases keyAt kvs x with
        | none => rfl
        | some n =>
          simp only [Option.bind_some]
          cases kvs[n]? with
          | none => rfl
          | some q => exact getKD_snoc s p _ _
      · rfl
    · rename_i ks
      cases d <;> first | rfl | skip
      rename_i kvs
      show getKD (.key x :: (p ++ [s])) _ _ = _
      unfold getKD
      split
      · cases keyAt kvs x with
        | none => rfl
        | some n =>
          simp only [Option.bind_some]
          cases ks[n]? with
          | none => rfl
          | some k =>
            cases kvs[n]? with
            | none => rfl
            | some q => exact getKD_snoc s p _ _
      · rfl
  | .ix i :: p, k, d => by
    cases k <;> first | rfl | skip
    rename_i k
    cases d <;> first | rfl | skip
    rename_i ds
    show getKD (.ix i :: (p ++ [s])) _ _ = _
    unfold getKD
    cases normIx ds.length i with
    | none => rfl
    | some n =>
      simp only [Option.bind_some]
      cases ds[n]? with
      | none => rfl
      | some q => exact getKD_snoc s p _ _
def pEv1 (s : PS) (S : List Slot) : Option PV := match s with
  | .fld c n => some (.fld c n)
  | .key e => (eFzD e S).map .key
  | .ix e => match eFzD e S with
    | some (.int i) => some (.ix i)
    | _ => none
theorem pEv_snoc (s : PS) (S : List Slot) : ∀ ps, pEv (ps ++ [s]) S = (pEv ps S).bind fun pv => (pEv1 s S).map fun x => pv ++ [x]
  | [] => by
    cases s with
    | fld c n => rfl
    | key e => simp only [List.nil_append, pEv, pEv1]; cases eFzD e S <;> rfl
    | ix e =>
      simp only [List.nil_append, pEv, pEv1]
      cases eFzD e S with
      | none => rfl
      | some d => cases d <;> rfl
  | .fld c n :: ps => by
    show (pEv (ps ++ [s]) S).map _ = _
    rw [pEv_snoc s S ps]
    show _ = ((pEv ps S).map _).bind _
    cases pEv ps S with
    | none => rfl
    | some pv => cases pEv1 s S <;> rfl
  | .key e :: ps => by
    show (eFzD e S).bind (fun d => (pEv (ps ++ [s]) S).map _) = ((eFzD e S).bind fun d => (pEv ps S).map _).bind _
    cases eFzD e S with
    | none => rfl
    | some d =>
      simp only [Option.bind_some]
      rw [pEv_snoc s S ps]
      cases pEv ps S with
      | none => rfl
      | some pv => cases pEv1 s S <;> rfl
  | .ix e :: ps => by
    simp only [List.cons_append, pEv]
    cases eFzD e S with
    | none => rfl
    | some d =>
      cases d <;> first | rfl | skip
      simp only
      rw [pEv_snoc s S ps]
      cases pEv ps S with
      | none => rfl
      | some pv => cases pEv1 s S <;> rfl
def DenP (G : Cfgx) (t : TE) (i : Nat) (ps : List PS) : Prop := ∀ F H σ S T Q g, St' G F H σ S T → tgt i ps S = some g → (∀ v0 v F' H', Step F H T F' H' T → St' G F' H' σ S T → Same H H' → σ[i]? = some (some v0) → Nav G H' v0 g.pv v → Q v H') → t σ H Q
def TrP (X : Cx) (G : Cfgx) (e : Expr) (i : Nat) (ps : List PS) : Prop := ∃ t, PE X e t ∧ DenP G t i ps
theorem tgt_eq {i : Nat} {ps : List PS} {S : List Slot} {g : Tgt} (h : tgt i ps S = some g) : S[i]? = some (some (g.rk, g.rd)) ∧ pEv ps S = some g.pv ∧ getKD g.pv g.rk g.rd = some (g.k, g.d) := by
  unfold tgt at h
  split at h
  · rename_i rk rd pv e1 e2
    cases e3 : getKD pv rk rd with
    | none => rw [e3] at h; cases h
    | some kd => rw [e3] at h; cases h; exact ⟨e1, e2, e3⟩
  · cases h
theorem tgt_mk {i : Nat} {ps : List PS} {S : List Slot} {pv : List PV} {rk k : Kd} {rd d : D} (h1 : S[i]? = some (some (rk, rd))) (h2 : pEv ps S = some pv) (h3 : getKD pv rk rd = some (k, d)) : tgt i ps S = some ⟨pv, rk, rd, k, d⟩ := by
  unfold tgt
  rw [h1, h2]
  simp only [h3]; rfl
theorem tgt_snoc {i : Nat} {ps : List PS} {s : PS} {S : List Slot} {g : Tgt} (h : tgt i (ps ++ [s]) S = some g) : ∃ g0 x, tgt i ps S = some g0 ∧ pEv1 s S = some x ∧ g.pv = g0.pv ++ [x] ∧ g.rk = g0.rk ∧ g.rd = g0.rd ∧ getKD [x] g0.k g0.d = some (g.k, g.d) := by
  obtain ⟨h1, h2, h3⟩ := tgt_eq h
  rw [pEv_snoc] at h2
  cases e1 : pEv ps S with
  | none => rw [e1] at h2; cases h2
  | some pv =>
    rw [e1] at h2
    cases e2 : pEv1 s S with
    | none => rw [e2] at h2; cases h2
    | some x =>
      rw [e2] at h2
      have h2 : pv ++ [x] = g.pv := Option.some.inj h2
      rw [← h2, getKD_snoc] at h3
      cases e3 : getKD pv g.rk g.rd with
      | none => rw [e3] at h3; cases h3
      | some q => rw [e3] at h3; exact ⟨_, x, tgt_mk h1 e1 e3, rfl, h2.symm, rfl, rfl, h3⟩
/-- what stands at the path, and a way to put something else there -/
theorem tgt_own {F H : Hp} {σ : L2.St} {S : List Slot} {T : Cnt} {i : Nat} {ps : List PS} {g : Tgt} (st : St' G F H σ S T) (h : tgt i ps S = some g) : ∃ v0 v' f' T0, σ[i]? = some (some v0) ∧ (∀ a, T a = f' a + T0 a) ∧ Nav G H v0 g.pv v' ∧ Own G F H g.k v' g.d f' ∧
    ∀ F1 H1 k1 d1 f1 S1, Same F F1 → Same F1 H1 → (∀ a o, T0 a ≠ 0 → H a = some o → H1 a = some o) → Own G F1 H1 k1 v' d1 f1 → (∀ a, f1 a + T0 a ≤ 1) → (∀ a, F1 a ≠ none → f1 a + T0 a = 0) → g.put i (k1, d1) S = some S1 → St' G F1 H1 σ S1 (add f1 T0) := by
  obtain ⟨h1, h2, h3⟩ := tgt_eq h
  obtain ⟨v0, f, T0, hT, hv, so, back⟩ := st.sl.at h1
  cases so with
  | @yes k v d f o =>
    obtain ⟨v', f', f0, hf, nv, o', back'⟩ := Own.at g.pv o h3
    refine ⟨v, v', f', add f0 T0, hv, fun a => by simp only [add]; have := hT a; have := hf a; omega, nv, o', fun F1 H1 k1 d1 f1 S1 sf sub m o1 le di e => ?_⟩
    unfold Tgt.put at e
    cases e1 : setKD g.pv g.rk g.rd (k1, d1) with
    | none => rw [e1] at e; cases e
    | some r =>
      rw [e1] at e
      cases e
      have oo := back' F1 H1 k1 d1 f1 r sf (fun a o n => m a o (by simp only [add]; omega)) o1 e1
      have sl := back F1 H1 (some v) (some (r.1, r.2)) (add f1 f0) sf (fun a o n => m a o (by simp only [add]; omega)) (.yes oo)
      have e2 : σ.set i (some v) = σ := by
        obtain ⟨hi, q1⟩ := List.getElem?_eq_some_iff.mp hv
        rw [← q1, List.set_getElem_self]
      rw [e2] at sl
      have e3 : add (add f1 f0) T0 = add f1 (add f0 T0) := by funext a; simp only [add]; omega
      rw [e3] at sl
      exact ⟨st.pi, sub, sl, fun a => by have := le a; simp only [add] at this ⊢; omega, fun a n => by have := di a n; simp only [add] at this ⊢; omega⟩
theorem tp_root (i : Nat) {x : PySem.Str} {pos : Pos} (hN : X.N[i]? = some x := by rfl) (hv : Vis X.env.scope x := by first | exact Or.inl rfl | exact Or.inr (Or.inl rfl) | exact Or.inr (Or.inr rfl)) (hd : (x == ("__debug__" : PySem.Str)) = false := by decide)
    (hcd : (x == ("__classdict__" : PySem.Str)) = false := by decide) : TrP X G (.Name x pos) i [] := by
  refine ⟨_, pe_var hN hv hd hcd, fun F H σ S T Q g st e k => ?_⟩
  obtain ⟨h1, h2, h3⟩ := tgt_eq e
  obtain ⟨v, f, hv, o, _⟩ := st.sl.var h1
  have h2 : [] = g.pv := Option.some.inj h2
  exact ⟨v, hv, k v v F H (Step.refl F H T) st (Same.refl H) hv (h2 ▸ .nil v)⟩
theorem lookup_at {α : Type} : ∀ {fs : List (PySem.Str × α)} {n : Nat} {x : PySem.Str} {w : α}, (fs.map (·.1)).Nodup → (fs.map (·.1))[n]? = some x → (fs.map (·.2))[n]? = some w → fs.lookup x = some w
  | [], n, x, w, _, h, _ => by simp at h
  | p :: fs, 0, x, w, _, h1, h2 => by
    simp at h1 h2
    obtain ⟨a, b⟩ := p
    subst h1 h2
    simp [List.lookup]
  | p :: fs, n + 1, x, w, nd, h1, h2 => by
    rw [List.map_cons, List.nodup_cons] at nd
    have h1 : (fs.map (·.1))[n]? = some x := by simpa using h1
    have h2 : (fs.map (·.2))[n]? = some w := by simpa using h2
    have ne : (x == p.1) = false := beq_eq_false_iff_ne.mpr fun e => nd.1 (by rw [← e]; exact List.mem_of_getElem? h1)
    obtain ⟨a, b⟩ := p
    simp only [List.lookup, ne]
    exact lookup_at nd.2 h1 h2
theorem take_at {cn : List PySem.Str} {fs : List (PySem.Str × V)} {m n : Nat} {x : PySem.Str} (h : fs.map (·.1) = cn.take m) (hx : cn[n]? = some x) (hn : n < fs.length) : (fs.map (·.1))[n]? = some x := by
  have hl : (fs.map (·.1)).length = fs.length := by simp
  rw [h] at hl ⊢
  rw [List.getElem?_take]
  have : n < m := by rw [List.length_take] at hl; omega
  rw [if_pos this, hx]
/-- a field of what stands there -/
theorem tp_fld (c n : Nat) {e : Expr} {f : PySem.Str} {i : Nat} {ps : List PS} {pos : Pos} (h : TrP X G e i ps) (hc : L2.Cls X.K (G.ca c)) (hf : L2.NoAttr X.K (G.ca c) f) (hn : (G.cn c)[n]? = some f := by rfl) (nd : (G.cn c).Nodup := by decide)
    (hb : attributeBase e f X.env (eval e X.env) = eval e X.env := by rfl) : TrP X G (.Attribute e f pos) i (ps ++ [.fld c n]) := by
  obtain ⟨t, p, d⟩ := h
  refine ⟨_, pe_fld p hb, fun F H σ S T Q g st eg k => ?_⟩
  obtain ⟨g0, x, h1, h2, h3, h4, h5, h6⟩ := tgt_snoc eg
  cases (show some (PV.fld c n) = some x from h2)
  refine d F H σ S T _ g0 st h1 fun v0 v F1 H1 s1 st1 sH hv nv => ?_
  obtain ⟨v0', v', f', T0, hv', hT, nv', o, _⟩ := tgt_own st1 h1
  rw [hv] at hv'; cases hv'
  have := nv.uniq nv'
  subst this
  generalize hk : g0.k = gk at o h6
  generalize hd : g0.d = gd at o h6
  cases o with
  | @ob ks a dx c' fs ds gg ho hnm r =>
    unfold getKD at h6
    by_cases hcc : c' = c
    case neg => rw [if_neg hcc] at h6; cases h6
    subst hcc
    rw [if_pos rfl] at h6
    cases e1 : ks[n]? with
    | none => rw [e1] at h6; cases h6
    | some kn =>
      cases e2 : ds[n]? with
      | none => rw [e1, e2] at h6; cases h6
      | some dn =>
        obtain ⟨w, fw, g1, _, hw, ow, _⟩ := r.at e1 e2
        have hl : fs.length = ds.length := by have := r.len.1; simpa using this
        have hnl : n < fs.length := by rw [hl]; exact (List.getElem?_eq_some_iff.mp e2).1
        refine ⟨a, _, dx, fs, w, rfl, ho, hc, hf, lookup_at (by rw [hnm]; exact nd.sublist (List.take_sublist _ _)) (take_at hnm hn hnl) hw, ?_⟩
        refine k v0 w F1 H1 s1 st1 sH hv ?_
        rw [h3]
        exact nv.snoc (.fld ho (by rw [hl]; exact hnm) hw (.nil w))
  | _ => unfold getKD at h6; cases h6
theorem fzD_eq {m : E} {S : List Slot} {d : D} (h : eFzD m S = some d) : ∃ S', m S = .ok (.fz, d) S' := by
  unfold eFzD at h
  split at h
  · rename_i d' S1 e; cases h; exact ⟨_, e⟩
  · cases h
theorem keyAt_key {F : Hp} {kvs : List (Key × V)} {kds : List (D × D)} (hk : kds.map (·.1) = kvs.map (fun p => keyD p.1)) {v : V} {x : D} {n : Nat} (e : keyAt kds x = some n) (hx : isKey x = true) (r : Rep G F v x) : ∃ kk, v = kV kk ∧ x = keyD kk := key_of hx r
/-- an item of a dict that stands there -/
theorem tp_key {e ke : Expr} {i : Nat} {ps : List PS} {m : E} {pos : Pos} (C : Cok X G W k) (h : TrP X G e i ps) (hk : TrQ X G ke m) (hs : NoSl ke := by exact fun _ _ => rfl) : TrP X G (.Subscript e ke pos) i (ps ++ [.key m]) := by
  obtain ⟨t, p, d⟩ := h
  obtain ⟨u, q, d2⟩ := hk
  refine ⟨_, pe_dget (by have := C.room.units; omega) p q hs, fun F H σ S T Q g st eg k => ?_⟩
  obtain ⟨g0, x, h1, h2, h3, h4, h5, h6⟩ := tgt_snoc eg
  refine d F H σ S T _ g0 st h1 fun v0 v F1 H1 s1 st1 sH hv nv => ?_
  cases e2 : eFzD m S with
  | none => simp [pEv1, e2] at h2
  | some dk =>
    have h2 : PV.key dk = x := by simpa [pEv1, e2] using h2
    subst h2
    obtain ⟨S', em⟩ := fzD_eq e2
    refine d2 F1 H1 σ S T _ dk S' st1 em fun y F2 H2 s2 st2 sH2 ry => ?_
    obtain ⟨v0', v', f', T0, hv', hT, nv', o, _⟩ := tgt_own st2 h1
    rw [hv] at hv'; cases hv'
    have := (nv.mono sH2).uniq nv'
    subst this
    generalize hkk : g0.k = gk at o h6
    generalize hd : g0.d = gd at o h6
    cases o with
    | @dK kk a kvs kds gg ho hnm r =>
      unfold getKD at h6
      split at h6
      · rename_i hx
        cases e1 : keyAt kds dk with
        | none => rw [e1] at h6; cases h6
        | some n =>
          rw [e1] at h6
          cases e3 : kds[n]? with
          | none => simp [e3] at h6
          | some qq =>
            have e3' : (kds.map (·.2))[n]? = some qq.2 := by rw [List.getElem?_map, e3]; rfl
            obtain ⟨w, fw, g1, _, hw, ow, _⟩ := r.at e3'
            obtain ⟨kx, rfl, rfl⟩ := key_of hx ry
            have hval := key_at hnm e1 hw
            refine ⟨a, w, rfl, ?_, k v0 w F2 H2 (s1.trans s2) st2 (sH.trans sH2) hv ?_⟩
            · rw [← hval]; exact .k ho
            · rw [h3]; exact nv'.snoc (.key ho hval (.nil w))
      · cases h6
    | @dR ks a kvs kds gg ho hnm r =>
      unfold getKD at h6
      split at h6
      · rename_i hx
        cases e1 : keyAt kds dk with
        | none => rw [e1] at h6; cases h6
        | some n =>
          rw [e1] at h6
          cases e0 : ks[n]? with
          | none => simp [e0] at h6
          | some kn =>
          cases e3 : kds[n]? with
          | none => simp [e0, e3] at h6
          | some qq =>
            have e3' : (kds.map (·.2))[n]? = some qq.2 := by rw [List.getElem?_map, e3]; rfl
            obtain ⟨w, fw, g1, _, hw, ow, _⟩ := r.at e0 e3'
            obtain ⟨kx, rfl, rfl⟩ := key_of hx ry
            have hval := key_at hnm e1 hw
            refine ⟨a, w, rfl, ?_, k v0 w F2 H2 (s1.trans s2) st2 (sH.trans sH2) hv ?_⟩
            · rw [← hval]; exact .k ho
            · rw [h3]; exact nv'.snoc (.key ho hval (.nil w))
      · cases h6
    | _ => unfold getKD at h6; cases h6
/-- an item of a list that stands there -/
theorem tp_ix {e ke : Expr} {i : Nat} {ps : List PS} {m : E} {pos : Pos} (h : TrP X G e i ps) (hk : TrQ X G ke m) (hs : PlainIx ke := by exact fun _ _ => rfl) : TrP X G (.Subscript e ke pos) i (ps ++ [.ix m]) := by
  obtain ⟨t, p, d⟩ := h
  obtain ⟨u, q, d2⟩ := hk
  refine ⟨_, pe_ix ix_list p q hs, fun F H σ S T Q g st eg k => ?_⟩
  obtain ⟨g0, x, h1, h2, h3, h4, h5, h6⟩ := tgt_snoc eg
  refine d F H σ S T _ g0 st h1 fun v0 v F1 H1 s1 st1 sH hv nv => ?_
  unfold pEv1 at h2
  split at h2
  · rename_i heq; cases heq
  · rename_i heq; cases heq
  · rename_i e' heq
    cases heq
    split at h2
    · rename_i j e2
      cases h2
      obtain ⟨S', em⟩ := fzD_eq e2
      refine d2 F1 H1 σ S T _ (.int j) S' st1 em fun y F2 H2 s2 st2 sH2 ry => ?_
      cases ry
      obtain ⟨v0', v', f', T0, hv', hT, nv', o, _⟩ := tgt_own st2 h1
      rw [hv] at hv'; cases hv'
      have := (nv.mono sH2).uniq nv'
      subst this
      generalize hkk : g0.k = gk at o h6
      generalize hd : g0.d = gd at o h6
      cases o with
      | @li kk a vs ds gg ho r =>
        unfold getKD at h6
        cases e1 : normIx ds.length j with
        | none => rw [e1] at h6; cases h6
        | some n =>
          rw [e1] at h6
          cases e3 : ds[n]? with
          | none => simp [e3] at h6
          | some qq =>
            obtain ⟨w, fw, g1, _, hw, ow, _⟩ := r.at e3
            have e1' : normIx vs.length j = some n := by rw [r.len]; exact e1
            refine ⟨a, vs, j, w, rfl, rfl, .inl (.inl ho), atI_of e1' hw, k v0 w F2 H2 (s1.trans s2) st2 (sH.trans sH2) hv ?_⟩
            rw [h3]; exact nv'.snoc (.ix ho e1' hw (.nil w))
      | _ => unfold getKD at h6; cases h6
    · cases h2
/-- what is frozen there -/
theorem q_rd {e : Expr} {i : Nat} {ps : List PS} (h : TrP X G e i ps) : TrQ X G e (pRd i ps) := by
  obtain ⟨t, p, d⟩ := h
  refine ⟨t, p, fun F H σ S T Q d' S' st e k => ?_⟩
  unfold pRd at e
  split at e
  · rename_i pv rk rd dd eg
    cases e
    refine d F H σ S T _ _ st eg fun v0 v F1 H1 s1 st1 sH hv nv => ?_
    obtain ⟨v0', v', f', T0, hv', hT, nv', o, _⟩ := tgt_own st1 eg
    rw [hv] at hv'; cases hv'
    have := nv.uniq nv'
    subst this
    cases o with
    | fz r => exact k v F1 H1 s1 st1 sH r
  · cases e
theorem tr_rd {e : Expr} {i : Nat} {ps : List PS} (h : TrP X G e i ps) : TrE X G W e (pRd i ps) := tr_ofQ (q_rd h) (qt_rd i ps)
end
end TB

/-! TbT3: stores at a path. -/
namespace TB
open PySem L2
section
variable {G : Cfg} {F F' H H' : Hp}
theorem OwnL.put : ∀ {ks : List Kd} {vs : List V} {ds : List D} {g : Cnt} (n : Nat) {k : Kd} {v : V} {d : D} {f : Cnt}, OwnL G F H ks vs ds g → n < ds.length → Own G F H k v d f → ∃ g', OwnL G F H (ks.set n k) (vs.set n v) (ds.set n d) g' ∧ ∀ a, g' a ≤ g a + f a
  | _, _, _, _, n, _, _, _, _, .nil, h, _ => absurd h (Nat.not_lt_zero _)
  | _, _, _, _, 0, _, _, _, f, .cons (f := f0) (g := g) h r, _, o => ⟨add f g, .cons o r, fun a => by simp only [add]; omega⟩
  | _, _, _, _, n + 1, _, _, _, f, .cons (f := f0) (g := g) h r, hn, o => by
    obtain ⟨g', r', l⟩ := OwnL.put n r (by simpa using hn) o
    exact ⟨add f0 g', .cons h r', fun a => by have := l a; simp only [add]; omega⟩
theorem OwnL.app1 : ∀ {ks : List Kd} {vs : List V} {ds : List D} {g : Cnt} {k : Kd} {v : V} {d : D} {f : Cnt}, OwnL G F H ks vs ds g → Own G F H k v d f → ∃ g', OwnL G F H (ks ++ [k]) (vs ++ [v]) (ds ++ [d]) g' ∧ ∀ a, g' a ≤ g a + f a
  | _, _, _, _, _, _, _, f, .nil, o => ⟨add f nil0, .cons o .nil, fun a => by simp only [add, nil0]; omega⟩
  | _, _, _, _, _, _, _, f, .cons (f := f0) h r, o => by
    obtain ⟨g', r', l⟩ := OwnL.app1 r o
    exact ⟨add f0 g', .cons h r', fun a => by have := l a; simp only [add]; omega⟩
theorem Owns.put : ∀ {k : Kd} {vs : List V} {ds : List D} {g : Cnt} (n : Nat) {v : V} {d : D} {f : Cnt}, Owns G F H k vs ds g → Own G F H k v d f → ∃ g', Owns G F H k (vs.set n v) (ds.set n d) g' ∧ ∀ a, g' a ≤ g a + f a
  | _, _, _, _, n, _, _, f, .nil, _ => ⟨nil0, by simpa using Owns.nil, fun a => by simp [nil0]⟩
  | _, _, _, _, 0, _, _, f, .cons (f := f0) (g := g) h r, o => ⟨add f g, .cons o r, fun a => by simp only [add]; omega⟩
  | _, _, _, _, n + 1, _, _, f, .cons (f := f0) (g := g) h r, o => by
    obtain ⟨g', r', l⟩ := Owns.put n r o
    exact ⟨add f0 g', .cons h r', fun a => by have := l a; simp only [add]; omega⟩
theorem Owns.app1 : ∀ {k : Kd} {vs : List V} {ds : List D} {g : Cnt} {v : V} {d : D} {f : Cnt}, Owns G F H k vs ds g → Own G F H k v d f → ∃ g', Owns G F H k (vs ++ [v]) (ds ++ [d]) g' ∧ ∀ a, g' a ≤ g a + f a
  | _, _, _, _, _, _, f, .nil, o => ⟨add f nil0, .cons o .nil, fun a => by simp only [add, nil0]; omega⟩
  | _, _, _, _, _, _, f, .cons (f := f0) h r, o => by
    obtain ⟨g', r', l⟩ := Owns.app1 r o
    exact ⟨add f0 g', .cons h r', fun a => by have := l a; simp only [add]; omega⟩
end
section
variable {X : Cx} {G : Cfgx} {W : WX} {k : Nat} {F H : Hp} {σ : L2.St} {S : List Slot} {T : Cnt}
/-- what a temporary owns stays while quiet things go on -/
theorem frame_own {F1 H1 : Hp} {fe : Cnt} {kk : Kd} {v : V} {d : D} (s : Step F H T F1 H1 T) (sH : Same H H1) (o : Own G F H kk v d fe) (le : ∀ a, T a + fe a ≤ 1) (di : ∀ a, F a ≠ none → fe a = 0) :
    Step F H (add T fe) F1 H1 (add T fe) ∧ Own G F1 H1 kk v d fe ∧ ∀ a, F1 a ≠ none → fe a = 0 := by
  have th : ∀ a, fe a ≠ 0 → H a ≠ none := fun a n => o.there a n
  refine ⟨(s.frame le th).1, o.mono s.sF fun a u _ e => sH _ _ e, fun a n => ?_⟩
  by_cases z : fe a = 0
  · exact z
  · exfalso
    by_cases w : F a = none
    · exact n (s.keepF w (th a z) (by have := le a; omega) (o.noT a z))
    · exact z (di a w)
/-- something else put at the path -/
theorem put_core {i : Nat} {g : Tgt} {a : Addr} {o : HO} {fe f' f1 T0 : Cnt} {k1 : Kd} {d1 : D} {S1 : List Slot} (st : St' G F H σ S T) (hT : ∀ b, T b = f' b + T0 b) (ha : f' a ≠ 0)
    (back : ∀ F1 H1 k1 d1 f1 S1, Same F F1 → Same F1 H1 → (∀ a o, T0 a ≠ 0 → H a = some o → H1 a = some o) → Own G F1 H1 k1 (.ref a) d1 f1 → (∀ a, f1 a + T0 a ≤ 1) → (∀ a, F1 a ≠ none → f1 a + T0 a = 0) → g.put i (k1, d1) S = some S1 → St' G F1 H1 σ S1 (add f1 T0))
    (le : ∀ b, T b + fe b ≤ 1) (di : ∀ b, F b ≠ none → fe b = 0) (ow : Own G F (upd H a o) k1 (.ref a) d1 f1) (hf : ∀ b, f1 b ≤ f' b + fe b) (e : g.put i (k1, d1) S = some S1) :
    St' G F (upd H a o) σ S1 (add f1 T0) ∧ Step F H (add T fe) F (upd H a o) (add f1 T0) := by
  have hta : T a ≠ 0 := by have := hT a; omega
  have hfa : F a = none := Decidable.byContradiction fun n => hta (st.di a n)
  refine ⟨back F _ k1 d1 f1 S1 (Same.refl F) (fun x u h => ?_) (fun x u n h => ?_) ow (fun b => ?_) (fun b n => ?_) e, ⟨Same.refl F, fun x u t h => ?_, fun b n => .inl ?_, fun b h n => absurd h n, fun b h => ?_⟩⟩
  · rw [upd_ne (fun q => by rw [q, hfa] at h; cases h)]; exact st.sub _ _ h
  · have : x ≠ a := fun q => by rw [q] at n; have := hT a; have := st.le a; omega
    rw [upd_ne this]; exact h
  · have := hT b; have := hf b; have := le b; omega
  · have := hT b; have := hf b; have := st.di b n; have := di b n; omega
  · have : x ≠ a := fun q => by rw [q] at t; simp only [add] at t; omega
    rw [upd_ne this]; exact h
  · have := hT b; have := hf b; simp only [add] at n ⊢; omega
  · by_cases q : b = a
    · rw [q, upd_same]; simp
    · rw [upd_ne q]; exact h
theorem putF_set {f : PySem.Str} {v : V} : ∀ {fs : List (PySem.Str × V)} {n : Nat}, (fs.map (·.1)).Nodup → (fs.map (·.1))[n]? = some f → putF f v fs = fs.set n (f, v)
  | [], n, _, h => by simp at h
  | p :: fs, 0, _, h => by
    have h : p.1 = f := by simpa using h
    show (if p.1 = f then (p.1, v) :: fs else p :: putF f v fs) = _
    rw [if_pos h, h]; rfl
  | p :: fs, n + 1, nd, h => by
    rw [List.map_cons, List.nodup_cons] at nd
    have h : (fs.map (·.1))[n]? = some f := by simpa using h
    have ne : ¬ p.1 = f := fun e => nd.1 (by rw [e]; exact List.mem_of_getElem? h)
    show (if p.1 = f then (p.1, v) :: fs else p :: putF f v fs) = _
    rw [if_neg ne, putF_set nd.2 h]; rfl
theorem putF_new {f : PySem.Str} {v : V} : ∀ {fs : List (PySem.Str × V)}, f ∉ fs.map (·.1) → putF f v fs = fs ++ [(f, v)]
  | [], _ => rfl
  | p :: fs, h => by
    rw [List.map_cons, List.mem_cons, not_or] at h
    show (if p.1 = f then (p.1, v) :: fs else p :: putF f v fs) = _
    rw [if_neg (fun e => h.1 e.symm), putF_new h.2]; rfl
theorem nx_of {F H : Hp} {T : Cnt} {D : Ends} {S' : List Slot} (h : KS G F H T D .nx S') {σ' : L2.St} {F' H' : Hp} {T' : Cnt} (s : Step F H T F' H' T') (st : St' G F' H' σ' S' T') : D.nx σ' H' :=
  (show ∀ σ' F' H' T', Step F H T F' H' T' → St' G F' H' σ' S' T' → D.nx σ' H' from h) σ' F' H' T' s st
/-- o.f = e -/
theorem fld_put {g : Tgt} {i n c : Nat} {f : PySem.Str} {a dx : Addr} {fs : List (PySem.Str × V)} {ks : List Kd} {ds : List D} {gg fe f' T0 : Cnt} {kd : KD} {v : V} {r : List Kd × List D} {S1 : List Slot} (st : St' G F H σ S T)
    (hn : (G.cn c)[n]? = some f) (nd : (G.cn c).Nodup) (ho : H a = some (.ins (G.ca c) dx fs)) (hnm : fs.map (·.1) = (G.cn c).take ds.length) (rl : OwnL G F H ks (fs.map (·.2)) ds gg) (hf' : ∀ b, f' b = one a b + gg b) (hT : ∀ b, T b = f' b + T0 b)
    (back : ∀ F1 H1 k1 d1 f1 S1, Same F F1 → Same F1 H1 → (∀ a o, T0 a ≠ 0 → H a = some o → H1 a = some o) → Own G F1 H1 k1 (.ref a) d1 f1 → (∀ a, f1 a + T0 a ≤ 1) → (∀ a, F1 a ≠ none → f1 a + T0 a = 0) → g.put i (k1, d1) S = some S1 → St' G F1 H1 σ S1 (add f1 T0))
    (oe : Own G F H kd.1 v kd.2 fe) (le : ∀ b, T b + fe b ≤ 1) (di : ∀ b, F b ≠ none → fe b = 0) (er : fldPut ks ds n kd = some r) (es : g.put i (.ob r.1, .ob c r.2) S = some S1) :
    fs.length < 1000 ∧ ∃ T', St' G F (upd H a (.ins (G.ca c) dx (putF f v fs))) σ S1 T' ∧ Step F H (add T fe) F (upd H a (.ins (G.ca c) dx (putF f v fs))) T' := by
  have hl : fs.length = ds.length := by have := rl.len.1; simpa using this
  have ga : gg a = 0 := by have := hf' a; have := hT a; have := st.le a; simp only [one, if_true] at *; omega
  have fa : fe a = 0 := by have := hf' a; have := hT a; have := le a; simp only [one, if_true] at *; omega
  have nd' : (fs.map (·.1)).Nodup := by rw [hnm]; exact nd.sublist (List.take_sublist _ _)
  have hcn : ds.length ≤ (G.cn c).length := by
    have : (fs.map (·.1)).length = fs.length := by simp
    rw [hnm, List.length_take] at this; omega
  unfold fldPut at er
  split at er
  · rename_i hlt
    obtain ⟨hlt, h9⟩ := hlt
    cases er
    obtain ⟨g', rl', l'⟩ := rl.put n hlt oe
    have e1 := putF_set (v := v) nd' (take_at hnm hn (by omega))
    have nm : (putF f v fs).map (·.1) = (G.cn c).take (ds.set n kd.2).length := by
      rw [e1, List.map_set, List.length_set, ← hnm]
      obtain ⟨hn', e2⟩ := List.getElem?_eq_some_iff.mp (take_at hnm hn (show n < fs.length by omega))
      show (fs.map (·.1)).set n f = _
      rw [← e2, List.set_getElem_self]
    have sn : (putF f v fs).map (·.2) = (fs.map (·.2)).set n v := by rw [e1, List.map_set]
    have ow : Own G F (upd H a (.ins (G.ca c) dx (putF f v fs))) (.ob (ks.set n kd.1)) (.ref a) (.ob c (ds.set n kd.2)) (add (one a) g') := by
      refine .ob upd_same nm ?_
      rw [sn]
      refine rl'.mono (Same.refl F) fun b u nb e => ?_
      rw [upd_ne (fun q => by rw [q] at nb; have := l' a; omega)]; exact e
    obtain ⟨x, y⟩ := put_core st hT (by rw [hf' a]; simp [one]) back le di ow (fun b => by have := l' b; have := hf' b; simp only [add]; omega) es
    exact ⟨by omega, _, x, y⟩
  · split at er
    · rename_i hge heq
      obtain ⟨heq, h9⟩ := heq
      cases er
      obtain ⟨g', rl', l'⟩ := rl.app1 oe
      have hnew : f ∉ fs.map (·.1) := by
        rw [hnm]
        intro hm
        obtain ⟨j, hj⟩ := List.mem_iff_getElem?.mp hm
        have hj2 : j < ds.length := by
          have := (List.getElem?_eq_some_iff.mp hj).1
          rw [List.length_take] at this; omega
        rw [List.getElem?_take, if_pos hj2] at hj
        have := (List.getElem?_inj (List.getElem?_eq_some_iff.mp hj).1 nd).mp (hj.trans hn.symm)
        omega
      have e1 := putF_new (v := v) hnew
      have nm : (putF f v fs).map (·.1) = (G.cn c).take (ds ++ [kd.2]).length := by
        rw [e1, List.map_append, hnm, List.length_append]
        show (G.cn c).take ds.length ++ [f] = (G.cn c).take (ds.length + 1)
        rw [List.take_succ, ← heq, hn]; rfl
      have sn : (putF f v fs).map (·.2) = fs.map (·.2) ++ [v] := by rw [e1, List.map_append]; rfl
      have ow : Own G F (upd H a (.ins (G.ca c) dx (putF f v fs))) (.ob (ks ++ [kd.1])) (.ref a) (.ob c (ds ++ [kd.2])) (add (one a) g') := by
        refine .ob upd_same nm ?_
        rw [sn]
        refine rl'.mono (Same.refl F) fun b u nb e => ?_
        rw [upd_ne (fun q => by rw [q] at nb; have := l' a; omega)]; exact e
      obtain ⟨x, y⟩ := put_core st hT (by rw [hf' a]; simp [one]) back le di ow (fun b => by have := l' b; have := hf' b; simp only [add]; omega) es
      exact ⟨by omega, _, x, y⟩
    · cases er
theorem tr_pFld (c n : Nat) {o e : Expr} {f : PySem.Str} {i : Nat} {ps : List PS} {m : E} {p' pos : Pos} (h : TrP X G o i ps) (he : TrE X G W e m) (hc : L2.Cls X.K (G.ca c)) (hf : L2.NoAttr X.K (G.ca c) f) (hn : (G.cn c)[n]? = some f := by rfl) (nd : (G.cn c).Nodup := by decide)
    (hs : swapsWith e (some (.Attribute o f p')) pos.line X.env = pure false := by rfl) : TrS X G W (.Assign [.Attribute o f p'] e pos) (pFld i ps c n m) := by
  obtain ⟨t, p, d⟩ := h
  obtain ⟨u, q, d2⟩ := he
  refine ⟨_, ps_fld p q hs, fun F H σ S T D st z => d2 F H σ S T _ st (PRs.bind z fun kd S1 y => ?_)⟩
  intro v F1 H1 T1 fe s1 st1 oe le di
  have y : PRs G W F H T (KS G F H T D) (match tgt i ps S1 with
    | some t => match t.k, t.d with
      | .ob ks, .ob c' ds => if c' = c then (match fldPut ks ds n kd with
        | some r => pOk .nx (t.put i (.ob r.1, .ob c r.2) S1)
        | none => .bad) else .bad
      | _, _ => .bad
    | none => .bad) := y
  cases eg : tgt i ps S1 with
  | none => rw [eg] at y; exact y.elim
  | some g =>
    rw [eg] at y
    refine d F1 H1 σ S1 T1 _ g st1 eg fun v0 w F2 H2 s2 st2 sH hv nv => ?_
    obtain ⟨v0', v', f', T0, hv', hT, nv', o', back⟩ := tgt_own st2 eg
    rw [hv] at hv'; cases hv'
    have := nv.uniq nv'
    subst this
    obtain ⟨fr, oe2, di2⟩ := frame_own s2 sH oe le di
    obtain ⟨pv, rk, rd, gk, gd⟩ := g
    cases o' with
    | @ob ks a dx c' fs ds gg ho hnm rl =>
      by_cases hcc : c' = c
      case neg => simp only [if_neg hcc] at y; exact y.elim
      subst hcc
      simp only [if_true] at y
      cases er : fldPut ks ds n kd with
      | none => simp only [er] at y; exact y.elim
      | some r =>
        simp only [er] at y
        cases es : (⟨pv, rk, rd, .ob ks, .ob c' ds⟩ : Tgt).put i (.ob r.1, .ob c' r.2) S1 with
        | none => simp only [es] at y; exact y.elim
        | some S2 =>
          simp only [es] at y
          obtain ⟨hl, T', st3, s3⟩ := fld_put st2 hn nd ho hnm rl (fun b => rfl) hT back oe2 le di2 er es
          exact ⟨a, _, dx, fs, rfl, ho, hc, hf, hl, nx_of (show KS G F H T D .nx S2 from y) ((s1.trans fr).trans s3) st3⟩
    | _ => exact y.elim
end
end TB

/-! TbT4: dicts, lists, methods at a path. -/
namespace TB
open PySem L2
section
variable {X : Cx} {G : Cfgx} {W : WX} {k : Nat} {F H : Hp} {σ : L2.St} {S : List Slot} {T : Cnt}
/-! ### quiet arguments -/
def DenAQ (G : Cfgx) (t : TA) (ms : List E) : Prop := ∀ F H σ S T Q ds, St' G F H σ S T → eFzDs ms S = some ds → (∀ vs F' H', Step F H T F' H' T → St' G F' H' σ S T → Same H H' → Reps G F' vs ds → Q vs H') → t σ H Q
def TrAQ (X : Cx) (G : Cfgx) (es : List Expr) (ms : List E) : Prop := ∃ t, PA X es t ∧ DenAQ G t ms
theorem taq_nil : TrAQ X G [] [] := ⟨_, pa_nil, fun F H σ S T Q ds st e k => by cases e; exact k [] F H (Step.refl F H T) st (Same.refl H) .nil⟩
theorem taq_cons {e : Expr} {es : List Expr} {m : E} {ms : List E} (h : TrQ X G e m) (r : TrAQ X G es ms) (hs : starEach (e :: es) X.env = (false, eval e X.env) :: starEach es X.env := by rfl) : TrAQ X G (e :: es) (m :: ms) := by
  obtain ⟨t, p, d⟩ := h
  obtain ⟨u, q, d2⟩ := r
  refine ⟨_, pa_cons p q hs, fun F H σ S T Q ds st e k => ?_⟩
  unfold eFzDs at e
  cases e1 : eFzD m S with
  | none => rw [e1] at e; cases e
  | some x =>
    rw [e1] at e
    cases e2 : eFzDs ms S with
    | none => simp [e2] at e
    | some ys =>
      have e : x :: ys = ds := by simpa [e2] using e
      obtain ⟨S', em⟩ := fzD_eq e1
      refine d F H σ S T _ x S' st em fun v F1 H1 s1 st1 h1 r1 => d2 F1 H1 σ S T _ ys st1 e2 fun vs F2 H2 s2 st2 h2 r2 => ?_
      exact k (v :: vs) F2 H2 (s1.trans s2) st2 (h1.trans h2) (by rw [← e]; exact .cons (r1.mono s2.sF) r2)
/-- a list that stands there, changed -/
theorem list_up {g : Tgt} {i : Nat} {a : Addr} {vs ws : List V} {ys : List D} {f' T0 : Cnt} {S1 : List Slot} (st : St' G F H σ S T) (ho : H a = some (.lst vs)) (hf' : ∀ b, f' b = one a b) (hT : ∀ b, T b = f' b + T0 b)
    (back : ∀ F1 H1 k1 d1 f1 S1, Same F F1 → Same F1 H1 → (∀ a o, T0 a ≠ 0 → H a = some o → H1 a = some o) → Own G F1 H1 k1 (.ref a) d1 f1 → (∀ a, f1 a + T0 a ≤ 1) → (∀ a, F1 a ≠ none → f1 a + T0 a = 0) → g.put i (k1, d1) S = some S1 → St' G F1 H1 σ S1 (add f1 T0))
    (r : Reps G F ws ys) (es : g.put i (.li .fz, .lst ys) S = some S1) : ∃ T', St' G F (upd H a (.lst ws)) σ S1 T' ∧ Step F H T F (upd H a (.lst ws)) T' := by
  have ow : Own G F (upd H a (.lst ws)) (.li .fz) (.ref a) (.lst ys) (add (one a) nil0) := .li upd_same (owns_fz r)
  obtain ⟨x, y⟩ := put_core (fe := nil0) st hT (by rw [hf' a]; simp [one]) back (fun b => by simp only [nil0]; exact st.le b) (fun _ _ => rfl) ow (fun b => by have := hf' b; simp only [add, nil0]; omega) es
  exact ⟨_, x, y.castL fun b => by simp [add, nil0]⟩
/-- o.m(..) of a list that stands at a path -/
theorem tr_pMth {o : Expr} {i : Nat} {ps : List PS} {name : PySem.Str} {id : String} {r : V → List V → Hp → VK → Prop} {f : List D → List D → Option (D × List D)} {e : Expr} {es : List Expr} {ms : List E} {apos cpos : Pos} (slot : PySem.Slot "list" name id) (hty : typeOf (.builtin id) = pure (.type "method_descriptor")) (hm : MtR X id r) (ok : MthOk G r f)
    (ho : TrP X G o i ps) (h : TrAQ X G (e :: es) ms) (hbase : attributeBase o name X.env (eval o X.env) = eval o X.env := by rfl)
    (hfew : ((backTo cpos (starEach (e :: es) X.env)).all (fun x => !x.1) && (backToKw cpos (keywordEach [] X.env)).all (fun x => x.1.isSome)
      && decide ((e :: es).length + ([] : List Keyword).length + (if ([] : List Keyword).isEmpty then 0 else 1) < 30)) = true := by rfl)
    (hline : (apos.endLine == cpos.line) = true := by rfl) (hs : starEach (e :: es) X.env = (false, eval e X.env) :: starEach es X.env := by rfl) (hplain : (backTo cpos (starEach es X.env)).any (·.1) = false := by rfl) :
    TrE X G W (.Call (.Attribute o name apos) (e :: es) [] cpos) (pMth f i ps ms) := by
  obtain ⟨t, p, d⟩ := ho
  obtain ⟨u, q, d2⟩ := h
  refine ⟨_, pe_bm F.plainAttrs_list slot hty hm p q hbase hfew hline hs hplain, fun F H σ S T Q st z => ?_⟩
  unfold pMth at z
  cases eg : tgt i ps S with
  | none => rw [eg] at z; exact z.elim
  | some g =>
    cases ed : eFzDs ms S with
    | none => rw [eg, ed] at z; exact z.elim
    | some ds =>
      rw [eg, ed] at z
      simp only at z
      obtain ⟨pv, rk, rd, gk, gd⟩ := g
      simp only at z
      split at z
      · rename_i xs
        refine d F H σ S T _ _ st eg fun v0 w F1 H1 s1 st1 h1 hv nv => ?_
        obtain ⟨v0', v', f', T0, hv', hT, nv', o', back⟩ := tgt_own st1 eg
        rw [hv] at hv'; cases hv'
        have := nv.uniq nv'
        subst this
        cases o' with
        | @li _ a vs _ gg hl rl =>
          refine ⟨.inl ⟨rfl, vs, .inl (.inl hl)⟩, ?_⟩
          refine d2 F1 H1 σ S T _ ds st1 ed fun us F2 H2 s2 st2 h2 ru => ?_
          obtain ⟨w0, w', f2, T2, hw, hT2, nw, o2, back2⟩ := tgt_own st2 eg
          rw [hv] at hw; cases hw
          have := (nv.mono h2).uniq nw
          subst this
          cases o2 with
          | @li _ _ vs2 _ gg2 hl2 rl2 =>
            obtain ⟨rr, rfl⟩ := reps_fz rl2
            split at z
            · rename_i rd' ys e3
              refine ok F2 H2 a vs2 xs us ds rd' ys Q hl2 rr ru e3 fun v ws rv rws => ?_
              cases e4 : (⟨pv, rk, rd, .li .fz, .lst xs⟩ : Tgt).put i (.li .fz, .lst ys) S with
              | none => rw [e4] at z; exact z.elim
              | some S3 =>
                rw [e4] at z
                have z : KE G F H σ T Q (.fz, rd') S3 := z
                obtain ⟨T3, st3, s3⟩ := list_up st2 hl2 (fun b => rfl) hT2 back2 rws e4
                exact z v F2 _ T3 nil0 (((s1.trans s2).trans s3).castR fun a => rfl) st3 (.fz rv) (fun a => st3.le a) fun _ _ => rfl
            · exact z.elim
      · exact z.elim
/-- .. without arguments -/
theorem tr_pMth0 {o : Expr} {i : Nat} {ps : List PS} {name : PySem.Str} {id : String} {r : V → Hp → VK → Prop} {f : List D → List D → Option (D × List D)} {apos cpos : Pos} (slot : PySem.Slot "list" name id) (hty : typeOf (.builtin id) = pure (.type "method_descriptor")) (hm : MtR X id (fun x vs H Q => vs = [] ∧ r x H Q)) (ok : MthOk G (fun x _ H Q => r x H Q) f)
    (ho : TrP X G o i ps) (hbase : attributeBase o name X.env (eval o X.env) = eval o X.env := by rfl) (hline : (apos.endLine == cpos.line) = true := by rfl) : True := trivial
/-- o[k] = e of a dict that stands there -/
theorem dict_up {g : Tgt} {i : Nat} {a : Addr} {kvs : List (Key × V)} {kds : List (D × D)} {kk : Kd} {gg fe f' T0 : Cnt} {kx : Key} {v : V} {d : D} {S1 : List Slot} (st : St' G F H σ S T) (ho : H a = some (.dK kvs)) (hk : kds.map (·.1) = kvs.map (fun p => keyD p.1)) (r : Owns G F H kk (kvs.map (·.2)) (kds.map (·.2)) gg)
    (hf' : ∀ b, f' b = one a b + gg b) (hT : ∀ b, T b = f' b + T0 b)
    (back : ∀ F1 H1 k1 d1 f1 S1, Same F F1 → Same F1 H1 → (∀ a o, T0 a ≠ 0 → H a = some o → H1 a = some o) → Own G F1 H1 k1 (.ref a) d1 f1 → (∀ a, f1 a + T0 a ≤ 1) → (∀ a, F1 a ≠ none → f1 a + T0 a = 0) → g.put i (k1, d1) S = some S1 → St' G F1 H1 σ S1 (add f1 T0))
    (oe : Own G F H kk v d fe) (le : ∀ b, T b + fe b ≤ 1) (di : ∀ b, F b ≠ none → fe b = 0) (hn : (kk.isF || (keyAt kds (keyD kx)).isNone) = true) (es : g.put i (.dK kk, .dic (putD kds (keyD kx) d)) S = some S1) :
    ∃ T', St' G F (upd H a (.dK (putK kvs kx v))) σ S1 T' ∧ Step F H (add T fe) F (upd H a (.dK (putK kvs kx v))) T' := by
  have ga : gg a = 0 := by have := hf' a; have := hT a; have := st.le a; simp only [one, if_true] at *; omega
  have fa : fe a = 0 := by have := hf' a; have := hT a; have := le a; simp only [one, if_true] at *; omega
  have key : ∃ g', (putD kds (keyD kx) d).map (·.1) = (putK kvs kx v).map (fun p => keyD p.1) ∧ Owns G F H kk ((putK kvs kx v).map (·.2)) ((putD kds (keyD kx) d).map (·.2)) g' ∧ ∀ b, g' b ≤ gg b + fe b := by
    rcases Bool.or_eq_true_iff.mp hn with h | h
    · cases kk with
      | fz =>
        cases oe with
        | fz rv =>
          obtain ⟨rr, rfl⟩ := reps_fz r
          obtain ⟨h1, h2⟩ := put_rep hk rr kx rv
          exact ⟨nil0, h1, owns_fz h2, fun b => Nat.zero_le _⟩
      | _ => cases h
    · have e1 : (kds.any fun p => D.eqv p.1 (keyD kx)) = false := by
        unfold keyAt at h
        rw [Option.isNone_iff_eq_none, List.findIdx?_eq_none_iff] at h
        rw [List.any_eq_false]
        intro p hp
        rw [h p hp]; simp
      have e2 : (kvs.any fun kv => decide (kv.1 = kx)) = false := by rw [← put_any hk]; exact e1
      obtain ⟨g', r', l⟩ := r.app1 oe
      refine ⟨g', ?_, ?_, l⟩
      · unfold putD putK
        rw [e1, e2]
        simp only [Bool.false_eq_true, if_false, List.map_append, hk]
        rfl
      · unfold putD putK
        rw [e1, e2]
        simp only [Bool.false_eq_true, if_false, List.map_append]
        exact r'
  obtain ⟨g', h1, h2, l⟩ := key
  have ow : Own G F (upd H a (.dK (putK kvs kx v))) (.dK kk) (.ref a) (.dic (putD kds (keyD kx) d)) (add (one a) g') := by
    refine .dK upd_same h1 (h2.mono (Same.refl F) fun b u nb e => ?_)
    rw [upd_ne (fun q => by rw [q] at nb; have := l a; omega)]; exact e
  obtain ⟨x, y⟩ := put_core st hT (by rw [hf' a]; simp [one]) back le di ow (fun b => by have := l b; have := hf' b; simp only [add]; omega) es
  exact ⟨_, x, y⟩
theorem tr_pDput {o e ke : Expr} {i : Nat} {ps : List PS} {n m : E} {p' pos : Pos} (C : Cok X G W k) (h : TrP X G o i ps) (hk : TrQ X G ke n) (he : TrE X G W e m)
    (hs : swapsWith e (some (.Subscript o ke p')) pos.line X.env = pure false := by rfl) : TrS X G W (.Assign [.Subscript o ke p'] e pos) (pDput i ps n m) := by
  obtain ⟨t, p, d⟩ := h
  obtain ⟨u, q, d2⟩ := he
  obtain ⟨t3, q3, d3⟩ := hk
  refine ⟨_, ps_dput (by have := C.room.units; omega) p q3 q hs, fun F H σ S T D st z => d2 F H σ S T _ st (PRs.bind z fun kd S1 y => ?_)⟩
  intro v F1 H1 T1 fe s1 st1 oe le di
  have y : PRs G W F H T (KS G F H T D) (match tgt i ps S1, eFzD n S1 with
    | some t, some x => match t.k, t.d with
      | .dK kk, .dic kvs => if isKey x = true ∧ kvs.length < sizeMax ∧ Kd.beq kd.1 kk = true ∧ (kk.isF || (keyAt kvs x).isNone) = true then pOk .nx (t.put i (.dK kk, .dic (putD kvs x kd.2)) S1) else .bad
      | _, _ => .bad
    | _, _ => .bad) := y
  cases eg : tgt i ps S1 with
  | none => rw [eg] at y; exact y.elim
  | some g =>
    cases ek : eFzD n S1 with
    | none => rw [eg, ek] at y; exact y.elim
    | some x =>
      rw [eg, ek] at y
      obtain ⟨pv, rk, rd, gk, gd⟩ := g
      simp only at y
      split at y
      · rename_i kk kds
        split at y
        · rename_i hc
          obtain ⟨hx, hz, hb, hn⟩ := hc
          refine d F1 H1 σ S1 T1 _ _ st1 eg fun v0 w F2 H2 s2 st2 sH hv nv => ?_
          obtain ⟨S', em⟩ := fzD_eq ek
          refine d3 F2 H2 σ S1 T1 _ x S' st2 em fun yv F3 H3 s3 st3 sH3 ry => ?_
          obtain ⟨v0', v', f', T0, hv', hT, nv', o', back⟩ := tgt_own st3 eg
          rw [hv] at hv'; cases hv'
          have := (nv.mono sH3).uniq nv'
          subst this
          obtain ⟨fr, oe2, di2⟩ := frame_own (s2.trans s3) (sH.trans sH3) oe le di
          cases o' with
          | @dK _ a kvs _ gg ho hnm rl =>
            obtain ⟨kx, rfl, rfl⟩ := key_of hx ry
            rw [Kd.eq_of_beq hb] at oe2
            cases es : (⟨pv, rk, rd, .dK kk, .dic kds⟩ : Tgt).put i (.dK kk, .dic (putD kds (keyD kx) kd.2)) S1 with
            | none => rw [es] at y; exact y.elim
            | some S2 =>
              rw [es] at y
              obtain ⟨T', st4, s4⟩ := dict_up st3 ho hnm rl (fun b => rfl) hT back oe2 le di2 hn es
              have hl : kvs.length = kds.length := by have := congrArg List.length hnm; simpa using this.symm
              have l2 : sizeLine = sizeMax := rfl
              exact ⟨a, _, rfl, .k ho (by rw [hl, l2]; exact hz), nx_of (show KS G F H T D .nx S2 from y) ((s1.trans fr).trans s4) st4⟩
        · exact y.elim
      · exact y.elim
theorem val_at {kvs : List (Key × V)} {kds : List (D × D)} {F : Hp} (hk : kds.map (·.1) = kvs.map (fun p => keyD p.1)) (r : Reps G F (kvs.map (·.2)) (kds.map (·.2))) (kk : Key) : match valD kds (keyD kk), valV kvs kk with
    | some d, some v => Rep G F v d
    | none, none => True
    | _, _ => False := by
  induction kvs generalizing kds with
  | nil => cases kds with
    | nil => exact trivial
    | cons a b => simp at hk
  | cons p q ih => cases kds with
    | nil => simp at hk
    | cons a b =>
      obtain ⟨h1, h2⟩ := List.cons.inj (show a.1 :: b.map (·.1) = keyD p.1 :: q.map (fun p => keyD p.1) from hk)
      cases r with
      | cons r1 r2 =>
        have := ih h2 r2
        unfold valD valV at this ⊢
        rw [List.find?_cons, List.find?_cons, h1, key_eqv]
        by_cases z : p.1 = kk
        · rw [decide_eq_true z]; exact r1
        · rw [decide_eq_false z]; exact this
theorem q_get2 {o ke ze : Expr} {i : Nat} {ps : List PS} {m n : E} {apos pos : Pos} (C : Cok X G W k) (h : TrP X G o i ps) (hk : TrQ X G ke m) (hz : TrQ X G ze n) (m2 : M2 X o "get" apos ke ze pos := by exact ⟨rfl, rfl, rfl, rfl⟩) : TrQ X G (.Call (.Attribute o "get" apos) [ke, ze] [] pos) (pGet2 i ps m n) := by
  obtain ⟨t, p, d⟩ := h
  obtain ⟨t2, p2, d2⟩ := hk
  obtain ⟨t3, p3, d3⟩ := hz
  refine ⟨_, pe_dget2 (by have := C.room.units; omega) p p2 p3 m2, fun F H σ S T Q d0 S' st e k => ?_⟩
  unfold pGet2 at e
  cases eg : tgt i ps S with
  | none => rw [eg] at e; cases e
  | some g =>
    cases e1 : eFzD m S with
    | none => rw [eg, e1] at e; cases e
    | some x =>
      cases e2 : eFzD n S with
      | none => rw [eg, e1, e2] at e; cases e
      | some w =>
        rw [eg, e1, e2] at e
        obtain ⟨pv, rk, rd, gk, gd⟩ := g
        simp only at e
        split at e
        · rename_i kds
          split at e
          · rename_i hx
            cases e
            refine d F H σ S T _ _ st eg fun v0 u F1 H1 s1 st1 h1 hv nv => ?_
            obtain ⟨v0', v', f', T0, hv', hT, nv', o', _⟩ := tgt_own st1 eg
            rw [hv] at hv'; cases hv'
            have := nv.uniq nv'
            subst this
            cases o' with
            | @dK _ a kvs _ gg ho hnm rl =>
              obtain ⟨Sx, em⟩ := fzD_eq e1
              obtain ⟨Sy, en⟩ := fzD_eq e2
              refine ⟨a, rfl, .inl ⟨kvs, .inl ho⟩, ?_⟩
              refine d2 F1 H1 σ S T _ x Sx st1 em fun yv F2 H2 s2 st2 h2 ry => d3 F2 H2 σ S T _ w Sy st2 en fun zv F3 H3 s3 st3 h3 rz => ?_
              obtain ⟨rr, rfl⟩ := reps_fz rl
              obtain ⟨kx, rfl, rfl⟩ := key_of hx ry
              have sF := s2.sF.trans s3.sF
              have va := val_at hnm (rr.mono sF) kx
              refine ⟨_, .k (h3 _ _ (h2 _ _ ho)), ?_⟩
              refine k _ F3 H3 ((s1.trans s2).trans s3) st3 ((h1.trans h2).trans h3) ?_
              cases q1 : valD kds (keyD kx) with
              | none =>
                cases q2 : valV kvs kx with
                | none => exact rz
                | some v => rw [q1, q2] at va; exact va.elim
              | some dd =>
                cases q2 : valV kvs kx with
                | none => rw [q1, q2] at va; exact va.elim
                | some v => rw [q1, q2] at va; exact va
          · cases e
        · cases e
end
end TB

/-! TbN4: dicts whose keys are tuples of numbers, texts, tuples. -/
namespace TB
open PySem L2
mutual
def toNK : D → NestedKey
  | .int i => .num i
  | .str s => .text ⟨s.toArray⟩
  | .tup xs => .tup (toNKs xs)
  | _ => .none
def toNKs : List D → List NestedKey
  | [] => []
  | x :: xs => toNK x :: toNKs xs
end
mutual
theorem nkD_to : ∀ (n : Nat) (d : D), d.nk n = true → nkD (toNK d) = d ∧ (toNK d).depth ≤ n := by
  intro n d h
  cases d with
  | int i => exact ⟨rfl, Nat.zero_le _⟩
  | str s => exact ⟨by simp [toNK, nkD], Nat.zero_le _⟩
  | tup xs =>
    cases n with
    | zero => simp [D.nk] at h
    | succ n =>
      obtain ⟨a, b⟩ := nkDs_to n xs (by simpa [D.nk] using h)
      exact ⟨by simp only [toNK, nkD, a], by simp only [toNK, NestedKey.depth]; omega⟩
  | _ => simp [D.nk] at h
theorem nkDs_to : ∀ (n : Nat) (ds : List D), D.nks n ds = true → nkDs (toNKs ds) = ds ∧ NestedKey.depthAll (toNKs ds) ≤ n
  | _, [], _ => ⟨rfl, Nat.zero_le _⟩
  | n, x :: xs, h => by
    simp only [D.nks, Bool.and_eq_true] at h
    obtain ⟨a, b⟩ := nkD_to n x h.1
    obtain ⟨c, d⟩ := nkDs_to n xs h.2
    exact ⟨by simp only [toNKs, nkDs, a, c], by simp only [toNKs, NestedKey.depthAll]; omega⟩
end
mutual
theorem nk_eqv : ∀ a b : NestedKey, D.eqv (nkD a) (nkD b) = NestedKey.beq a b
  | .none, .none => rfl
  | .none, .num _ => rfl
  | .none, .text _ => rfl
  | .none, .tup _ => rfl
  | .num _, .none => rfl
  | .num a, .num b => by simp [nkD, D.eqv, NestedKey.beq, BEq.beq]
  | .num _, .text _ => rfl
  | .num _, .tup _ => rfl
  | .text _, .none => rfl
  | .text _, .num _ => rfl
  | .text a, .text b => by
    have := key_eqv (.inr a) (.inr b)
    simp only [keyD] at this
    simp only [nkD, NestedKey.beq]
    rw [this]
    exact decide_eq_decide.mpr ⟨fun e => Sum.inr.inj e, fun e => e ▸ rfl⟩
  | .text _, .tup _ => rfl
  | .tup _, .none => rfl
  | .tup _, .num _ => rfl
  | .tup _, .text _ => rfl
  | .tup xs, .tup ys => by
    simp only [nkD, D.eqv, NestedKey.beq]
    exact nks_eqv xs ys
theorem nks_eqv : ∀ a b : List NestedKey, D.eqvs (nkDs a) (nkDs b) = NestedKey.beqAll a b
  | [], [] => rfl
  | [], _ :: _ => rfl
  | _ :: _, [] => rfl
  | a :: as, b :: bs => by simp only [nkDs, D.eqvs, NestedKey.beqAll, nk_eqv a b, nks_eqv as bs]
end
theorem nk_dec (a b : NestedKey) : D.eqv (nkD a) (nkD b) = decide (a = b) := by rw [nk_eqv, NestedKey.decide_eq]
section
variable {X : Cx} {G : Cfgx} {pins : List (Addr × Obj)} {σ : L2.St} {H : Hp} {s : Shared}
mutual
theorem nested_of (I : Inv X pins σ H s) (hK : X.K = G.K) : ∀ (k : NestedKey) (v : V) (u : Value), Rep G H v (nkD k) → RelV v u → NestedIs s.heap k u
  | .none, v, u, r, e => by
    simp only [nkD] at r
    cases r
    cases (show u = Value.none from e)
    exact .none
  | .num i, v, u, r, e => by
    simp only [nkD] at r
    cases r
    obtain ⟨t, rfl⟩ := (show ∃ t, u = Value.int i t from e)
    exact .int i t
  | .text z, v, u, r, e => by
    simp only [nkD] at r
    generalize hz : z.cps.toList = l at r
    cases r with
    | str z' =>
      have : z = z' := by
        cases z; cases z'
        have h := Array.toList_inj.mp hz
        simp at h
        rw [h]
      subst this
      obtain ⟨t, rfl⟩ := (show ∃ t, u = Value.str z t from e)
      exact .text z t
  | .tup ks, v, u, r, e => by
    simp only [nkD] at r
    cases r with
    | tup h rs =>
      obtain rfl : u = Value.ref _ := e
      obtain ⟨its, rv, ⟨o, ho, hc, n, hd⟩, _⟩ := I.tuple (by rw [hK]; exact h)
      exact .tup ho hc hd (by simpa using nesteds_of I hK ks _ _ rs rv)
theorem nesteds_of (I : Inv X pins σ H s) (hK : X.K = G.K) : ∀ (ks : List NestedKey) (vs : List V) (us : List Value), Reps G H vs (nkDs ks) → Vals vs us → NestedAll s.heap ks us
  | [], vs, us, r, e => by
    simp only [nkDs] at r
    cases r; cases e
    exact .nil
  | k :: ks, vs, us, r, e => by
    simp only [nkDs] at r
    cases r with
    | cons a b =>
      cases e with
      | cons c d => exact .cons (nested_of I hK k _ _ a c) (nesteds_of I hK ks _ _ b d)
end
abbrev NT := NestedKey × Addr × V
def valN (xs : List NT) (k : NestedKey) : Option V := (xs.find? fun x => decide (x.1 = k)).map (·.2.2)
def putN (xs : List NT) (k : NestedKey) (b : Addr) (v : V) : List NT := if (xs.any fun x => decide (x.1 = k)) = true then xs.map (fun x => if x.1 = k then (x.1, x.2.1, v) else x) else xs ++ [(k, b, v)]
abbrev NRel : List NT → List (NestedKey × Addr × Value) → Prop := Paired fun p q => p.1 = q.1 ∧ p.2.1 = q.2.1 ∧ RelV p.2.2 q.2.2
theorem nrel_mem {xs : List NT} {us : List (NestedKey × Addr × Value)} (r : NRel xs us) : ∀ q ∈ us, ∃ p ∈ xs, p.1 = q.1 ∧ p.2.1 = q.2.1 := by
  induction r with
  | nil => intro q h; simp at h
  | cons a _ ih =>
    intro q h
    rcases List.mem_cons.mp h with rfl | h
    · exact ⟨_, List.mem_cons_self, a.1, a.2.1⟩
    · obtain ⟨p, hp, e⟩ := ih q h
      exact ⟨p, List.mem_cons_of_mem _ hp, e⟩
theorem nrel_val {xs : List NT} {us : List (NestedKey × Addr × Value)} (r : NRel xs us) (k : NestedKey) : RelO (valN xs k) ((atKey us k).map (·.2)) := by
  induction r with
  | nil => exact (show RelO none none from trivial)
  | @cons p q xs us a r ih =>
    obtain ⟨e1, e2, e3⟩ := a
    unfold valN atKey at ih ⊢
    rw [List.find?_cons, List.find?_cons, ← e1]
    by_cases z : p.1 = k
    · rw [decide_eq_true z]; exact e3
    · rw [decide_eq_false z]; exact ih
theorem nrel_any {xs : List NT} {us : List (NestedKey × Addr × Value)} (r : NRel xs us) (k : NestedKey) : (xs.any fun x => decide (x.1 = k)) = (atKey us k).isSome := by
  induction r with
  | nil => rfl
  | @cons p q xs us a r ih =>
    obtain ⟨e1, e2, e3⟩ := a
    unfold atKey at ih ⊢
    rw [List.any_cons, List.find?_cons, ← e1]
    by_cases z : p.1 = k
    · rw [decide_eq_true z]; rfl
    · rw [decide_eq_false z, Bool.false_or]; exact ih
theorem nrel_mapPut {xs : List NT} {us : List (NestedKey × Addr × Value)} (r : NRel xs us) (k : NestedKey) {v : V} {u : Value} (e : RelV v u) : NRel (xs.map fun x => if x.1 = k then (x.1, x.2.1, v) else x) (us.map (putAt k u)) := by
  induction r with
  | nil => exact .nil
  | @cons p q xs us a r ih =>
    obtain ⟨e1, e2, e3⟩ := a
    refine .cons ?_ ih
    show (if p.1 = k then (p.1, p.2.1, v) else p).1 = (if q.1 = k then (q.1, q.2.1, u) else q).1 ∧ _ ∧ _
    unfold putAt
    by_cases z : p.1 = k
    · have z2 : q.1 = k := by rw [← e1]; exact z
      simp only [if_pos z, if_pos z2]; exact ⟨e1, e2, e⟩
    · have z2 : ¬ q.1 = k := by rw [← e1]; exact z
      simp only [if_neg z, if_neg z2]; exact ⟨e1, e2, e3⟩
theorem nrel_app1 {xs : List NT} {us : List (NestedKey × Addr × Value)} (r : NRel xs us) {p : NT} {q : NestedKey × Addr × Value} (e : p.1 = q.1 ∧ p.2.1 = q.2.1 ∧ RelV p.2.2 q.2.2) : NRel (xs ++ [p]) (us ++ [q]) := by
  induction r with
  | nil => exact .cons e .nil
  | cons a _ ih => exact .cons a ih
theorem nrel_put {xs : List NT} {us : List (NestedKey × Addr × Value)} (r : NRel xs us) (k : NestedKey) (b : Addr) {v : V} {u : Value} (e : RelV v u) : NRel (putN xs k b v) (storedH us k b u) := by
  unfold putN storedH
  rw [nrel_any r k]
  split
  · exact nrel_mapPut r k e
  · exact nrel_app1 r ⟨rfl, rfl, e⟩
theorem nrel_len {xs : List NT} {us : List (NestedKey × Addr × Value)} (r : NRel xs us) : xs.length = us.length := Paired.length r
/-- the keys stand -/
def KeysAt (G : Cfg) (H : Hp) (xs : List NT) : Prop := ∀ x ∈ xs, Rep G H (.ref x.2.1) (nkD x.1)
theorem ndo_at (I : Inv X pins σ H s) (hK : X.K = G.K) (hw : X.w = G.w) {a : Addr} {xs : List NT} (e : Rd H a (NDO G.w a xs)) (hk : KeysAt G H xs) : (a == sysModules) = false ∧ xs.length ≤ sizeLine ∧ ∃ us, NRel xs us ∧ s.heap.DictOfH (nestedKind X.prog X.w) a us := by
  obtain ⟨⟨h1, h2, h3, us, r, o, es, ep, g1, g2, g3, g4, g5⟩, _, _⟩ := (show ObjOk X.prog X.w H s.heap a (NDO G.w a xs) from e.ok I.hok)
  refine ⟨h1, h2, us, r, o, es, ep, g1, g2, g3, ?_, fun q hq => ?_, g5⟩
  · rw [g4, hw]; rfl
  · obtain ⟨p, hp, e1, e2⟩ := nrel_mem r q hq
    have := nested_of I hK p.1 _ (.ref p.2.1) (hk p hp) rfl
    exact ⟨by rw [← e1, ← e2]; exact this, by rw [← e1]; exact h3 p hp⟩
theorem key_at' (I : Inv X pins σ H s) (hK : X.K = G.K) {y : V} {u : Value} {d : D} (r : Rep G H y d) (e : RelV y u) (hd : isNK d = true) : ∃ b, y = .ref b ∧ u = .ref b ∧ (nestedKind X.prog X.w).is s.heap (toNK d) b ∧ nkD (toNK d) = d ∧ (toNK d).depth ≤ 8 := by
  simp only [isNK, Bool.and_eq_true] at hd
  obtain ⟨h1, h2⟩ := nkD_to 8 d hd.2
  have q := nested_of I hK (toNK d) y u (by rw [h1]; exact r) e
  cases d with
  | tup xs =>
    cases r with
    | tup h rs =>
      obtain rfl : u = Value.ref _ := e
      exact ⟨_, rfl, rfl, ⟨q, h2⟩, h1, h2⟩
  | _ => simp [D.isTup] at hd
theorem ndo_new {w : World} {P : Program} {H : Hp} {h : Heap} {a : Addr} {xs : List NT} {us : List (NestedKey × Addr × Value)} (h1 : (a == sysModules) = false) (h2 : xs.length ≤ sizeLine) (h3 : ∀ x ∈ xs, x.1.depth ≤ 8) (r : NRel xs us) (hd : h.DictOfH (nestedKind P w) a us) : ObjOk P w H h a (NDO w a xs) := by
  obtain ⟨o, es, ep, g1, g2, g3, g4, g5, g6⟩ := hd
  refine ⟨⟨h1, h2, h3, us, r, o, es, ep, g1, g2, g3, by rw [g4]; rfl, g6⟩, ⟨o, g1⟩, ?_⟩
  rintro k1 k2 ⟨a1, a2, a3, us', r', o', es', ep', b1, b2⟩ kp
  exact ⟨a1, a2, a3, us', r', o', es', ep', kp _ b1, b2⟩
/-! ### the rules -/
def rNSet (G : Cfg) : TSet := fun o i v H Q => ∃ (a b : Addr) (xs : List NT) (d : D), o = .ref a ∧ i = .ref b ∧ H a = some (NDO G.w a xs) ∧ KeysAt G H xs ∧ Rep G H i d ∧ isNK d = true ∧ xs.length < sizeLine ∧ Q (upd H a (NDO G.w a (putN xs (toNK d) b v)))
theorem putN_depth {xs : List NT} {k : NestedKey} {b : Addr} {v : V} (h : ∀ x ∈ xs, x.1.depth ≤ 8) (hk : k.depth ≤ 8) : ∀ x ∈ putN xs k b v, x.1.depth ≤ 8 := by
  intro x hx
  unfold putN at hx
  split at hx
  · obtain ⟨y, hy, rfl⟩ := List.mem_map.mp hx
    split <;> exact h y hy
  · rcases List.mem_append.mp hx with hx | hx
    · exact h x hx
    · simp at hx; rw [hx]; exact hk
theorem putN_len (xs : List NT) (k : NestedKey) (b : Addr) (v : V) : (putN xs k b v).length ≤ xs.length + 1 := by
  unfold putN; split <;> simp
theorem set_N (hK : X.K = G.K) (hw : X.w = G.w) (hu : X.A.units + 64 < cLine) : PSet X (rNSet G) := by
  intro pins s σ H o i v ov iv u Q I ro ri rv ⟨a, b, xs, d, eo, ei, ha, hk, hr, hd, hl, q⟩
  subst eo ei
  obtain rfl : ov = Value.ref a := ro
  obtain ⟨b', e1, e2, k1, k2, k3⟩ := key_at' I hK hr ri hd
  cases e1
  subst e2
  obtain ⟨h1, h2, us, r, dd⟩ := ndo_at I hK hw (.inl ha) hk
  have h3 : ∀ x ∈ xs, x.1.depth ≤ 8 := by
    obtain ⟨⟨_, _, h3, _⟩, _⟩ := (show ObjOk X.prog X.w H s.heap a (NDO G.w a xs) from I.hok _ _ ha)
    exact h3
  refine wpAny_setItem_heap (hsz := by rw [← nrel_len r]; exact h2) (show X.A.in1.units + 8 < cLine by show X.A.units + 1 + 8 < _; omega) k1 dd fun h' dd' hs => ?_
  obtain ⟨od, _, _, ho, _⟩ := id dd'
  refine ⟨_, d_write I (by rw [ha]; exact True.intro) hs ⟨od, ho⟩ ?_, q⟩
  rw [← hw]
  exact ndo_new h1 (by have := putN_len xs (toNK d) b v; omega) (putN_depth h3 k3) (nrel_put r (toNK d) b rv) dd'
def rNGet (G : Cfg) : V → V → Hp → VK → Prop := fun o i H Q => ∃ (a : Addr) (xs : List NT) (d : D) (v : V), o = .ref a ∧ Rd H a (NDO G.w a xs) ∧ KeysAt G H xs ∧ Rep G H i d ∧ isNK d = true ∧ valN xs (toNK d) = some v ∧ Q v H
theorem get_N (hK : X.K = G.K) (hw : X.w = G.w) (hu : X.A.units + 64 < cLine) : PGet X (rNGet G) := by
  intro pins s σ H o i ov iv Q I ro ri ⟨a, xs, d, v, eo, ha, hk, hr, hd, hv, q⟩
  subst eo
  obtain rfl : ov = Value.ref a := ro
  obtain ⟨b, e1, e2, k1, k2, k3⟩ := key_at' I hK hr ri hd
  subst e1 e2
  obtain ⟨h1, h2, us, r, dd⟩ := ndo_at I hK hw ha hk
  have := nrel_val r (toNK d)
  rw [hv] at this
  cases ek : atKey us (toNK d) with
  | none => rw [ek] at this; exact this.elim
  | some p =>
    rw [ek] at this
    exact wpAny_getItem_heap (show X.A.in1.units + 8 < cLine by show X.A.units + 1 + 8 < _; omega) k1 dd ek ⟨v, H, I.tok _, this, q⟩
end
end TB

/-! TbN5: the rules of dicts whose keys are tuples. -/
namespace TB
open PySem L2
section
variable {G : Cfgx} {F : Hp}
theorem putN_any : ∀ {xs : List NT} {kds : List (D × D)}, kds.map (·.1) = xs.map (fun x => nkD x.1) → ∀ k : NestedKey, (kds.any fun p => D.eqv p.1 (nkD k)) = xs.any fun x => decide (x.1 = k)
  | [], [], _, _ => rfl
  | [], _ :: _, h, _ => by simp at h
  | _ :: _, [], h, _ => by simp at h
  | x :: xs, p :: kds, h, k => by
    obtain ⟨h1, h2⟩ := List.cons.inj (show p.1 :: kds.map (·.1) = nkD x.1 :: xs.map (fun x => nkD x.1) from h)
    rw [List.any_cons, List.any_cons, putN_any h2 k, h1, nk_dec]
theorem putN_map : ∀ {xs : List NT} {kds : List (D × D)}, kds.map (·.1) = xs.map (fun x => nkD x.1) → Reps G F (xs.map fun x => .ref x.2.1) (kds.map (·.1)) → Reps G F (xs.map (·.2.2)) (kds.map (·.2)) → ∀ (k : NestedKey) {v : V} {d : D}, Rep G F v d →
    (kds.map fun p => if D.eqv p.1 (nkD k) = true then (p.1, d) else p).map (·.1) = (xs.map fun x => if x.1 = k then (x.1, x.2.1, v) else x).map (fun x => nkD x.1) ∧
    Reps G F ((xs.map fun x => if x.1 = k then (x.1, x.2.1, v) else x).map fun x => .ref x.2.1) ((kds.map fun p => if D.eqv p.1 (nkD k) = true then (p.1, d) else p).map (·.1)) ∧
    Reps G F ((xs.map fun x => if x.1 = k then (x.1, x.2.1, v) else x).map (·.2.2)) ((kds.map fun p => if D.eqv p.1 (nkD k) = true then (p.1, d) else p).map (·.2))
  | [], [], _, _, _, _, _, _, _ => ⟨rfl, .nil, .nil⟩
  | [], _ :: _, h, _, _, _, _, _, _ => by simp at h
  | _ :: _, [], h, _, _, _, _, _, _ => by simp at h
  | x :: xs, p :: kds, h, q, r, k, v, d, rv => by
    obtain ⟨h1, h2⟩ := List.cons.inj (show p.1 :: kds.map (·.1) = nkD x.1 :: xs.map (fun x => nkD x.1) from h)
    cases q with
    | cons q1 q2 =>
      cases r with
      | cons r1 r2 =>
        obtain ⟨i1, i2, i3⟩ := putN_map h2 q2 r2 k rv
        have e : D.eqv p.1 (nkD k) = decide (x.1 = k) := by rw [h1, nk_dec]
        simp only [List.map_cons]
        by_cases z : x.1 = k
        · rw [e, decide_eq_true z]
          simp only [if_pos z, if_true]
          exact ⟨by rw [i1, h1], .cons q1 i2, .cons rv i3⟩
        · rw [e, decide_eq_false z]
          simp only [if_neg z, Bool.false_eq_true, if_false]
          exact ⟨by rw [i1, h1], .cons q1 i2, .cons r1 i3⟩
theorem putN_rep {xs : List NT} {kds : List (D × D)} (h : kds.map (·.1) = xs.map (fun x => nkD x.1)) (q : Reps G F (xs.map fun x => .ref x.2.1) (kds.map (·.1))) (r : Reps G F (xs.map (·.2.2)) (kds.map (·.2))) (k : NestedKey) {b : Addr} {v : V} {d : D} (rk : Rep G F (.ref b) (nkD k)) (rv : Rep G F v d) :
    (putD kds (nkD k) d).map (·.1) = (putN xs k b v).map (fun x => nkD x.1) ∧ Reps G F ((putN xs k b v).map fun x => .ref x.2.1) ((putD kds (nkD k) d).map (·.1)) ∧ Reps G F ((putN xs k b v).map (·.2.2)) ((putD kds (nkD k) d).map (·.2)) := by
  unfold putD putN
  rw [putN_any h k]
  split
  · exact putN_map h q r k rv
  · simp only [List.map_append, h]
    exact ⟨rfl, by rw [← h]; exact q.app (.cons rk .nil), r.app (.cons rv .nil)⟩
theorem valN_at : ∀ {xs : List NT} {kds : List (D × D)}, kds.map (·.1) = xs.map (fun x => nkD x.1) → Reps G F (xs.map (·.2.2)) (kds.map (·.2)) → ∀ k : NestedKey, match valD kds (nkD k), valN xs k with
    | some d, some v => Rep G F v d
    | none, none => True
    | _, _ => False
  | [], [], _, _, _ => trivial
  | [], _ :: _, h, _, _ => by simp at h
  | _ :: _, [], h, _, _ => by simp at h
  | x :: xs, p :: kds, h, r, k => by
    obtain ⟨h1, h2⟩ := List.cons.inj (show p.1 :: kds.map (·.1) = nkD x.1 :: xs.map (fun x => nkD x.1) from h)
    cases r with
    | cons r1 r2 =>
      have := valN_at h2 r2 k
      unfold valD valN at this ⊢
      rw [List.find?_cons, List.find?_cons, h1, nk_dec]
      by_cases z : x.1 = k
      · rw [decide_eq_true z]; exact r1
      · rw [decide_eq_false z]; exact this
theorem keysAt_of {xs : List NT} {kds : List (D × D)} (h : kds.map (·.1) = xs.map (fun x => nkD x.1)) (q : Reps G F (xs.map fun x => .ref x.2.1) (kds.map (·.1))) : KeysAt G F xs := by
  induction xs generalizing kds with
  | nil => intro x hx; simp at hx
  | cons x xs ih => cases kds with
    | nil => simp at h
    | cons p kds =>
      obtain ⟨h1, h2⟩ := List.cons.inj (show p.1 :: kds.map (·.1) = nkD x.1 :: xs.map (fun x => nkD x.1) from h)
      cases q with
      | cons q1 q2 =>
        intro y hy
        rcases List.mem_cons.mp hy with rfl | hy
        · rw [← h1]; exact q1
        · exact ih h2 q2 y hy
theorem keysAt_mono {F H : Hp} (e : Same F H) {xs : List NT} (h : KeysAt G F xs) : KeysAt G H xs := fun x hx => (h x hx).mono e
/-- the form of a key: a tuple, its address -/
theorem nk_ref {F : Hp} {y : V} {d : D} (r : Rep G F y d) (hd : isNK d = true) : ∃ b, y = .ref b ∧ nkD (toNK d) = d := by
  simp only [isNK, Bool.and_eq_true] at hd
  obtain ⟨h1, _⟩ := nkD_to 8 d hd.2
  cases d with
  | tup xs => cases r with
    | tup h rs => exact ⟨_, rfl, h1⟩
  | _ => simp [D.isTup] at hd
end
section
variable {X : Cx} {G : Cfgx} {W : WX} {k : Nat} {F H : Hp} {σ : L2.St} {S : List Slot} {T : Cnt}
theorem ownN_some {i : Nat} {xs : List (D × D)} (e : ownN S i = some xs) : S[i]? = some (some (.dN, .dit xs)) := by
  unfold ownN at e
  split at e
  · rename_i h; cases e; exact h
  · cases e
theorem own_nd {i : Nat} {kds : List (D × D)} (st : St' G F H σ S T) (e : ownN S i = some kds) : ∃ a xs, σ[i]? = some (some (.ref a)) ∧ H a = some (NDO G.w a xs) ∧ kds.map (·.1) = xs.map (fun x => nkD x.1) ∧ Reps G F (xs.map fun x => .ref x.2.1) (kds.map (·.1)) ∧ Reps G F (xs.map (·.2.2)) (kds.map (·.2)) ∧
    ∀ ws ys, ys.map (·.1) = ws.map (fun x => nkD x.1) → Reps G F (ws.map fun x => .ref x.2.1) (ys.map (·.1)) → Reps G F (ws.map (·.2.2)) (ys.map (·.2)) → St' G F (upd H a (NDO G.w a ws)) σ (S.set i (some (.dN, .dit ys))) T ∧ Step F H T F (upd H a (NDO G.w a ws)) T := by
  obtain ⟨v, f, hv, o, hf, back⟩ := own_at st (ownN_some e)
  cases o with
  | @dN a xs kds h hk q r =>
    have t1 : T a ≠ 0 := by have := hf a; simp only [add, one, if_true] at this; omega
    have fa : F a = none := Decidable.byContradiction fun n => t1 (st.di a n)
    have sub2 : ∀ o, Same F (upd H a o) := fun o b u q => by
      by_cases z : b = a
      · subst z; rw [fa] at q; cases q
      · rw [upd_ne z]; exact st.sub _ _ q
    refine ⟨a, xs, hv, h, hk, q, r, fun ws ys k' q' rw' => ?_⟩
    obtain ⟨T', st', ht⟩ := back F (upd H a (NDO G.w a ws)) .dN (.dit ys) (add (one a) nil0) (Same.refl F) (sub2 _) (fun b u n z q => by
      by_cases y : b = a
      · subst y; simp [add, one] at z
      · rw [upd_ne y]; exact q) (.dN upd_same k' q' rw') (fun b => Nat.le_refl _) (fun b n => .inl n)
    have eT : T' = T := by funext b; have := ht b; omega
    subst eT
    refine ⟨st', Same.refl F, fun b u z q => ?_, fun b n => .inl n, fun b h n => absurd h n, fun b n => ?_⟩
    · by_cases y : b = a
      · subst y; exact absurd z t1
      · rw [upd_ne y]; exact q
    · by_cases y : b = a
      · subst y; rw [upd_same]; simp
      · rw [upd_ne y]; exact n
def tDNewN (w : World) : TE := fun _ H Q => ∀ p, H p = none → Q (.ref p) (upd H p (NDO w p []))
theorem pe_dnewN {pos : Pos} (hw : X.w = G.w) : PE X (.Dict [] [] pos) (tDNewN G.w) := ⟨fun pins s σ H Q I h =>
  wpAny_Dict_empty ⟨.ref s.heap.objs.size, _, I.laid (a := s.heap.objs.size) (o := NDO G.w s.heap.objs.size []) (t' := s.toks) (fun _ _ q => Heap.get?_push_of_some _ q) (Nat.le_refl _) (by
    rw [← hw]
    exact ndo_new (beq_eq_false_iff_ne.mpr (Ne.symm (Nat.ne_of_lt I.big))) (Nat.zero_le _) (fun x hx => by simp at hx) .nil (Heap.DictOfH.new _)), rfl, h _ (I.hok.fresh (Nat.le_refl _))⟩⟩
theorem tr_nnew {pos : Pos} (hw : X.w = G.w) : TrE X G W (.Dict [] [] pos) eNnew := ⟨_, pe_dnewN hw, fun F H σ S T Q st z => by
  have z : KE G F H σ T Q (.dN, .dit []) S := z
  intro p hp
  obtain ⟨st2, s, le, fp⟩ := st.newT (o := NDO G.w p []) hp
  refine z (.ref p) F _ T (add (one p) nil0) (s.castR fun a => rfl) st2 (.dN (kds := []) (xs := []) upd_same rfl .nil .nil) (fun a => le a) fun a n => ?_
  by_cases q : a = p
  · subst q; rw [fp] at n; exact absurd rfl n
  · simp [add, one, nil0, q]⟩
theorem has_ndS {α : Type} {K : α → List Slot → Prop} {i : Nat} {f : Unit → M α} (p : PRs G W F H T K ((hasN i S).bind f)) : (∃ xs, ownN S i = some xs) ∧ PRs G W F H T K (f () S) := by
  unfold hasN at p
  cases e : ownN S i with
  | none => rw [e] at p; exact p.elim
  | some xs => rw [e] at p; exact ⟨⟨xs, rfl⟩, p⟩
/-- d[k] = e -/
theorem tr_nput (i : Nat) {x : PySem.Str} {e kx : Expr} {m n : E} {p pos' pos : Pos} (C : Cok X G W k) (hw : X.w = G.w) (hu : X.A.units + 64 < cLine) (h : TrE X G W e m) (h2 : TrE X G W kx n)
    (hN : X.N[i]? = some x := by rfl) (hv : Vis X.env.scope x := by first | exact Or.inl rfl | exact Or.inr (Or.inl rfl) | exact Or.inr (Or.inr rfl)) (hd : (x == ("__debug__" : PySem.Str)) = false := by decide) (hcd : (x == ("__classdict__" : PySem.Str)) = false := by decide)
    (ha : ∀ v, assign (.Subscript (.Name x p) kx pos') X.env v = (do
      let ov ← holding [v] (eval (.Name x p) X.env)
      let iv ← holding [v, ov] (eval kx X.env)
      standAt pos'
      holding [v, ov, iv] (setItem ov iv v)
      release [v, ov, iv] []) := by intro _; rfl)
    (hs : swapsWithSole [.Subscript (.Name x p) kx pos'] e pos.line X.env = pure false := by rfl) (hw2 : swappedStores [.Subscript (.Name x p) kx pos'] e X.env = pure none := by rfl) (h1 : (assignEach [.Subscript (.Name x p) kx pos'] X.env).map (·.2) = [assign (.Subscript (.Name x p) kx pos') X.env] := by rfl) :
    TrS X G W (.Assign [.Subscript (.Name x p) kx pos'] e pos) (sNput i n m) := by
  obtain ⟨t, q, d⟩ := h
  obtain ⟨u, q2, d2⟩ := h2
  refine ⟨_, ps_asg q (pg_sub (pe_var hN hv hd hcd) q2 (set_N C.hK hw hu) ha) hs hw2 h1, fun F H σ S T D st z => d.dat F H σ S T _ st (PRs.bind z fun y S1 z1 => ?_)⟩
  intro v F1 H1 T1 s1 st1 r1
  obtain ⟨⟨xs0, e0⟩, z1⟩ := has_ndS (PRs.reS s1 z1)
  obtain ⟨a, vs0, hv0, _⟩ := own_nd st1 e0
  refine ⟨_, hv0, ?_⟩
  refine d2.dat F1 H1 σ S1 T1 _ st1 (PRs.bind z1 fun kk S2 z2 => ?_)
  intro w F2 H2 T2 s2 st2 r2
  have z2 := PRs.reS s2 z2
  cases e2 : ownN S2 i with
  | none => rw [e2] at z2; exact z2.elim
  | some kds =>
    rw [e2] at z2
    obtain ⟨a', xs, hv2, hH, hk, hq, rs, up⟩ := own_nd st2 e2
    rw [hv0] at hv2
    cases hv2
    have z2 : PRs G W F2 H2 T2 (KS G F2 H2 T2 D) (if isNK kk = true ∧ kds.length < sizeMax then .ok .nx (S2.set i (some (.dN, .dit (putD kds kk y)))) else .bad) := z2
    split at z2
    · rename_i hz
      obtain ⟨b, eb, en⟩ := nk_ref r2 hz.1
      subst eb
      obtain ⟨p1, p2, p3⟩ := putN_rep hk hq rs (toNK kk) (b := b) (by rw [en]; exact r2) (r1.mono s2.sF)
      rw [en] at p1 p2 p3
      obtain ⟨st3, s3⟩ := up (putN xs (toNK kk) b v) (putD kds kk y) p1 p2 p3
      have hl : xs.length = kds.length := by
        have := congrArg List.length hk
        simpa using this.symm
      exact ⟨a, b, xs, kk, rfl, rfl, hH, keysAt_mono st2.sub (keysAt_of hk hq), r2.mono st2.sub, hz.1, by rw [hl]; exact hz.2, (show KS G F2 H2 T2 D .nx _ from z2) σ F2 _ T2 s3 st3⟩
    · exact z2.elim
end
end TB

/-! TbN6: .get, op=, sorted of dicts whose keys are tuples; at a path too. -/
namespace TB
open PySem L2 PyProof.Rows
mutual
theorem reads_lt {h : Heap} : ∀ {v : Value} {d : PyData} {as : List Addr}, Reads h v d as → ∀ a ∈ as, a < h.objs.size
  | _, _, _, .none, a, m => by simp at m
  | _, _, _, .bool _, a, m => by simp at m
  | _, _, _, .int _ _, a, m => by simp at m
  | _, _, _, .str _ _, a, m => by simp at m
  | _, _, _, .list g _ _ r, a, m => by
    rcases List.mem_cons.mp m with rfl | m
    · exact Heap.lt_size g
    · exact readsAll_lt r a m
  | _, _, _, .tuple _ _ _ r, a, m => readsAll_lt r a m
  | _, _, _, .dict g _ _ r q, a, m => by
    rcases List.mem_append.mp m with m | m
    · rcases List.mem_cons.mp m with rfl | m
      · exact Heap.lt_size g
      · exact readsAll_lt r a m
    · exact readsAll_lt q a m
theorem readsAll_lt {h : Heap} : ∀ {vs : List Value} {ds : List PyData} {as : List Addr}, ReadsAll h vs ds as → ∀ a ∈ as, a < h.objs.size
  | _, _, _, .nil, a, m => by simp at m
  | _, _, _, .cons r q, a, m => by
    rcases List.mem_append.mp m with m | m
    · exact reads_lt r a m
    · exact readsAll_lt q a m
end
theorem each_imp {α β : Type} {R R' : α → β → Prop} (h : ∀ a b, R a b → R' a b) : ∀ {as : List α} {bs : List β}, PySem.W.EachIs R as bs → PySem.W.EachIs R' as bs
  | _, _, .nil => .nil
  | _, _, .cons a r => .cons (h _ _ a) (each_imp h r)
theorem nrel_refs {xs : List NT} {us : List (NestedKey × Addr × Value)} (r : NRel xs us) : Vals (xs.map fun x => V.ref x.2.1) (us.map fun y => Value.ref y.2.1) := by
  induction r with
  | nil => exact .nil
  | @cons p q _ _ a _ ih => exact .cons (show Value.ref q.2.1 = Value.ref p.2.1 by rw [a.2.1]) ih
section
variable {X : Cx} {G : Cfgx} {W : WX} {k : Nat} {F H : Hp} {σ : L2.St} {S : List Slot} {T : Cnt}
/-- sorted(d): its keys -/
def rSortedN (G : Cfg) (K : PySem.W.Frag) : List V → Hp → VK → Prop := fun vs H Q => ∃ (d : Addr) (xs : List NT) (bs : List (V × PyData)), vs = [V.ref d] ∧ Rd H d (NDO G.w d xs) ∧ KeysAt G H xs ∧ bs.map (·.1) = xs.map (fun x => V.ref x.2.1) ∧ (∀ b ∈ bs, Dp K H b.1 b.2) ∧ PySem.W.AllAlike (bs.map (·.2)) ∧ PySem.W.Sortable (bs.map (·.2)) ∧ (∀ b ∈ bs, b.2.depth ≤ 60) ∧
  ∀ p, H p = none → Q (.ref p) (upd H p (.lst ((bs.mergeSort (PySem.W.dataLe false (·.2))).map (·.1))))
theorem cr_sortedN (hK : X.K = G.K) (hw : X.w = G.w) (hr : Room k X.A) : CallR X (.builtin "sorted") (rSortedN G X.K) := by
  intro pins s σ H vs us Q I r ⟨d, xs, bs, e, ha, hk, he, hd, hal, hsk, hz, q⟩
  subst e
  obtain ⟨u, rfl, ru⟩ := vals1 r
  obtain rfl : u = Value.ref d := ru
  obtain ⟨h1, h2, us, rel, dd⟩ := ndo_at I hK hw ha hk
  obtain ⟨es, ep, raw, hs, het⟩ := dd.raw
  have hl : us.length = xs.length := (nrel_len rel).symm
  have rv : Vals (bs.map (·.1)) (us.map fun y => Value.ref y.2.1) := by rw [he]; exact nrel_refs rel
  have hun : X.A.units + 100 < cLine := by have := hr.un; omega
  refine Calls.call_function_entry kind_sorted plain_sorted entry_sorted (args_sorted1 _) ?_
  unfold Builtin.«sorted»
  refine wpAny_bind (m := checkCount "sorted" 1 1 _) (wpAny_pure ?_)
  refine wpAny_bind (PySem.W.kdu_collect (A := X.A.in1) (KdlSrc.rawDict h1) hr.hd raw (by rw [hs, hl]; exact h2) fun h' tk acc hk' hacc => ?_)
  have ea : acc.toList = us.map fun y => Value.ref y.2.1 := by
    refine List.ext_getElem? fun j => ?_
    rw [Array.getElem?_toList]
    cases ej : acc[j]? with
    | none =>
      rw [Array.getElem?_eq_none_iff] at ej
      rw [eq_comm, List.getElem?_eq_none_iff, List.length_map]
      rw [hacc.1, hs] at ej; exact ej
    | some v =>
      obtain ⟨hi, ev⟩ := hacc.2 j v ej
      obtain ⟨y, hy, g1, _, _⟩ := het j hi
      rw [List.getElem?_map, hy, ev, g1]; rfl
  refine wpAny_bind (wpAny_newList ?_ (by rw [ea, List.length_map, hl]; exact h2))
  rw [ea]
  have I1 : Inv X pins σ H { s with heap := h'.push { cls := .type "list", data := .seq (us.map fun y => Value.ref y.2.1).toArray }, toks := tk } :=
    I.kept (t' := tk) fun b o e => Heap.get?_push_of_some _ (hk' _ _ e)
  obtain ⟨e1, e2⟩ := dp_reads_each I rv hd
  have e3 : PySem.W.EachIs (fun u (b : V × PyData) => ∃ as, Reads (h'.push { cls := .type "list", data := .seq (us.map fun y => Value.ref y.2.1).toArray }) u b.2 as ∧ h'.objs.size ∉ as) (us.map fun y => Value.ref y.2.1) bs :=
    each_imp (fun u b ⟨as, r⟩ => ⟨as, PyProof.Rows.Reads.keeps (fun _ _ e => Heap.get?_push_of_some _ (hk' _ _ e)) r, fun m => by
      have r' := PyProof.Rows.Reads.keeps hk' r
      exact absurd (reads_lt r' _ m) (Nat.lt_irrefl _)⟩) e2
  have blen : bs.length = xs.length := by have := congrArg List.length he; simpa using this
  have ho : (h'.push { cls := .type "list", data := .seq (us.map fun y => Value.ref y.2.1).toArray }).get? h'.objs.size = some (seqObj "list" (us.map fun y => Value.ref y.2.1).toArray 0) := Heap.get?_push_size _ rfl
  refine wpAny_bind (wpAny_holding (PySem.W.list_sort_data (enc := fun b : V × PyData => b.2) (n := 0) ho e1 e3 hal hsk (by rw [blen]; exact h2) (fun b hb => by have := hz b hb; show X.A.units + 1 + 1 + _ < _; omega) fun out hout heach => ?_))
  obtain ⟨n, hn⟩ := sortedHeap_at (out := List.toArray out) ho
  have I0 : Inv X pins σ H { s with heap := h', toks := tk } := I.kept (t' := tk) hk'
  refine wpAny_pure ⟨_, rfl, .ref h'.objs.size, _, I0.laid (t' := tk) (a := h'.objs.size) (o := .lst ((bs.mergeSort (PySem.W.dataLe false (·.2))).map (·.1))) (fun b o g => ?_) (Nat.le_refl _) ⟨?_, out, n, vals_each heach, hn⟩, rfl, q _ (I0.hok.fresh (Nat.le_refl _))⟩
  · rw [sortedHeap_old (Nat.ne_of_lt (Heap.lt_size g)) (by rw [size_push']; exact Nat.lt_succ_of_lt (Heap.lt_size g))]
    exact Heap.get?_push_of_some _ g
  · rw [List.length_map, List.length_mergeSort, blen]
    exact h2

theorem sn_sortN (hK : X.K = G.K) : SN G (rSortedN G X.K) fSortN1 := fun F H σ S T xs ds kd Q st rs e k => by
  rcases rs with _ | ⟨r1, _ | ⟨r2, r3⟩⟩
  · simp [fSortN1] at e
  · cases r1 <;> simp only [fSortN1, fSortN, reduceCtorEq] at e
    rename_i d nts kds hl hk hq hv
    split at e
    · rename_i hz
      cases e
      have sub := st.sub
      have hsort := hz
      unfold sortOk at hz
      obtain ⟨hz, h3⟩ := Bool.and_eq_true_iff.mp hz
      obtain ⟨h1, h2⟩ := Bool.and_eq_true_iff.mp hz
      have hlen : (nts.map fun x => V.ref x.2.1).length = (kds.map (·.1)).length := hq.len
      have e1 : (((nts.map fun x => V.ref x.2.1).zip (kds.map (·.1))).map fun p => (p.1, toPy p.2)).map (·.1) = nts.map fun x => V.ref x.2.1 := by
        rw [List.map_map]; exact zip_fst hlen
      have e2 : (((nts.map fun x => V.ref x.2.1).zip (kds.map (·.1))).map fun p => (p.1, toPy p.2)).map (·.2) = (kds.map (·.1)).map toPy := by
        have : (((nts.map fun x => V.ref x.2.1).zip (kds.map (·.1))).map fun p => (p.1, toPy p.2)).map (·.2) = (((nts.map fun x => V.ref x.2.1).zip (kds.map (·.1))).map (·.2)).map toPy := by rw [List.map_map, List.map_map]; rfl
        rw [this, zip_snd hlen]
      have hz := zip_reps (hq.mono sub)
      refine ⟨d, nts, ((nts.map fun x => V.ref x.2.1).zip (kds.map (·.1))).map fun p => (p.1, toPy p.2), rfl, same_rd sub hl, keysAt_mono sub (keysAt_of hk hq), e1, ?_, ?_, ?_, ?_, fun p hp => ?_⟩
      · intro b hb
        obtain ⟨p, hp, rfl⟩ := List.mem_map.mp hb
        rw [hK]
        exact dp_of 60 p.2 p.1 (lays_mem h3 _ (mem_zip_snd hp)) (hz p hp)
      · rw [e2]
        intro d hd d' hd'
        obtain ⟨x, hx, rfl⟩ := List.mem_map.mp hd
        obtain ⟨y, hyy, rfl⟩ := List.mem_map.mp hd'
        exact alk_py x y (alkAll_ok h2 x hx y hyy)
      · rw [e2]
        refine .inl fun d hd => ?_
        obtain ⟨x, hx, rfl⟩ := List.mem_map.mp hd
        have := List.all_eq_true.mp h1 x hx
        cases x with
        | tup xs =>
          cases xs with
          | nil => simp [D.isTup1] at this
          | cons x xs => exact ⟨toPy x, toPys xs, by simp only [toPy, toPys]⟩
        | _ => simp [D.isTup1] at this
      · intro b hb
        obtain ⟨p, hp, rfl⟩ := List.mem_map.mp hb
        exact (lay_py 60 p.2 (lays_mem h3 _ (mem_zip_snd hp))).2
      · have m1 : (((nts.map fun x => V.ref x.2.1).zip (kds.map (·.1))).mergeSort fun p q => leD p.2 q.2).map (fun p => (p.1, toPy p.2)) = (((nts.map fun x => V.ref x.2.1).zip (kds.map (·.1))).map fun p => (p.1, toPy p.2)).mergeSort (PySem.W.dataLe false (·.2)) := by
          refine List.map_mergeSort fun p hp q hq => ?_
          rw [PySem.W.dataLe_eq]
          show leD p.2 q.2 = !PySem.W.dataLt (toPy q.2) (toPy p.2)
          rw [lt_py 60 60 q.2 p.2 (alkAll_ok h2 _ (mem_zip_snd hq) _ (mem_zip_snd hp)) (lays_mem h3 _ (mem_zip_snd hq)) (lays_mem h3 _ (mem_zip_snd hp))]
          rfl
        have m2 : (((nts.map fun x => V.ref x.2.1).zip (kds.map (·.1))).mergeSort fun p q => leD p.2 q.2).map (·.2) = sortD (kds.map (·.1)) := by
          have := List.map_mergeSort (r := fun p q : V × D => leD p.2 q.2) (s := leD) (f := (·.2)) (l := (nts.map fun x => V.ref x.2.1).zip (kds.map (·.1))) fun p hp q hq => rfl
          rw [this, zip_snd hlen]; rfl
        have m3 : ((((nts.map fun x => V.ref x.2.1).zip (kds.map (·.1))).map fun p => (p.1, toPy p.2)).mergeSort (PySem.W.dataLe false (·.2))).map (·.1) = (((nts.map fun x => V.ref x.2.1).zip (kds.map (·.1))).mergeSort fun p q => leD p.2 q.2).map (·.1) := by
          rw [← m1, List.map_map]; rfl
        rw [m3]
        refine KE.newL k st ?_ p hp
        rw [← m2]
        exact reps_zip fun p hp => zip_reps hq p ((List.mergeSort_perm _ _).mem_iff.mp hp)
    · cases e
  · cases r1 <;> simp [fSortN1] at e
/-! ### at a path -/
theorem nd_up {g : Tgt} {i : Nat} {a b : Addr} {xs : List NT} {kds : List (D × D)} {x y : D} {v : V} {f' T0 : Cnt} {S1 : List Slot} (st : St' G F H σ S T) (ho : H a = some (NDO G.w a xs)) (hk : kds.map (·.1) = xs.map (fun x => nkD x.1)) (hq : Reps G F (xs.map fun x => .ref x.2.1) (kds.map (·.1))) (hr : Reps G F (xs.map (·.2.2)) (kds.map (·.2)))
    (hx : nkD (toNK x) = x) (rb : Rep G F (.ref b) x) (rv : Rep G F v y) (hf' : ∀ b, f' b = one a b) (hT : ∀ b, T b = f' b + T0 b)
    (back : ∀ F1 H1 k1 d1 f1 S1, Same F F1 → Same F1 H1 → (∀ a o, T0 a ≠ 0 → H a = some o → H1 a = some o) → Own G F1 H1 k1 (.ref a) d1 f1 → (∀ a, f1 a + T0 a ≤ 1) → (∀ a, F1 a ≠ none → f1 a + T0 a = 0) → g.put i (k1, d1) S = some S1 → St' G F1 H1 σ S1 (add f1 T0))
    (es : g.put i (.dN, .dit (putD kds x y)) S = some S1) : ∃ T', St' G F (upd H a (NDO G.w a (putN xs (toNK x) b v))) σ S1 T' ∧ Step F H T F (upd H a (NDO G.w a (putN xs (toNK x) b v))) T' := by
  obtain ⟨p1, p2, p3⟩ := putN_rep hk hq hr (toNK x) (b := b) (by rw [hx]; exact rb) rv
  rw [hx] at p1 p2 p3
  have ow : Own G F (upd H a (NDO G.w a (putN xs (toNK x) b v))) .dN (.ref a) (.dit (putD kds x y)) (add (one a) nil0) := .dN upd_same p1 p2 p3
  obtain ⟨x, y⟩ := put_core (fe := nil0) st hT (by rw [hf' a]; simp [one]) back (fun b => by simp only [nil0]; exact st.le b) (fun _ _ => rfl) ow (fun b => by have := hf' b; simp only [add, nil0]; omega) es
  exact ⟨_, x, y.castL fun b => by simp [add, nil0]⟩
theorem nd_len {xs : List NT} {kds : List (D × D)} (hk : kds.map (·.1) = xs.map (fun x => nkD x.1)) : xs.length = kds.length := by
  have := congrArg List.length hk
  simpa using this.symm
theorem tr_pNput {o e ke : Expr} {i : Nat} {ps : List PS} {n m : E} {p' pos : Pos} (C : Cok X G W k) (hw : X.w = G.w) (h : TrP X G o i ps) (hk : TrQ X G ke n) (he : TrE X G W e m)
    (ha : ∀ v, assign (.Subscript o ke p') X.env v = (do
      let ov ← holding [v] (eval o X.env)
      let iv ← holding [v, ov] (eval ke X.env)
      standAt p'
      holding [v, ov, iv] (setItem ov iv v)
      release [v, ov, iv] []) := by intro _; rfl)
    (hs : swapsWithSole [.Subscript o ke p'] e pos.line X.env = pure false := by rfl) (hw2 : swappedStores [.Subscript o ke p'] e X.env = pure none := by rfl) (h1 : (assignEach [.Subscript o ke p'] X.env).map (·.2) = [assign (.Subscript o ke p') X.env] := by rfl) :
    TrS X G W (.Assign [.Subscript o ke p'] e pos) (pNput i ps n m) := by
  obtain ⟨t, p, d⟩ := h
  obtain ⟨u, q, d2⟩ := he
  obtain ⟨t3, q3, d3⟩ := hk
  have hu : X.A.units + 64 < cLine := by have := C.room.units; omega
  refine ⟨_, ps_asg q (pg_sub p q3 (set_N C.hK hw hu) ha) hs hw2 h1, fun F H σ S T D st z => d2.dat F H σ S T _ st (PRs.bind z fun y S1 z1 => ?_)⟩
  intro v F1 H1 T1 s1 st1 r1
  have z1 := PRs.reS s1 z1
  have z1 : PRs G W F1 H1 T1 (KS G F1 H1 T1 D) (match tgt i ps S1, eFzD n S1 with
    | some t, some x => match t.k, t.d with
      | .dN, .dit kvs => if isNK x = true ∧ kvs.length < sizeMax then pOk .nx (t.put i (.dN, .dit (putD kvs x y)) S1) else .bad
      | _, _ => .bad
    | _, _ => .bad) := z1
  cases eg : tgt i ps S1 with
  | none => rw [eg] at z1; exact z1.elim
  | some g =>
    cases ek : eFzD n S1 with
    | none => rw [eg, ek] at z1; exact z1.elim
    | some x =>
      rw [eg, ek] at z1
      obtain ⟨pv, rk, rd, gk, gd⟩ := g
      simp only at z1
      split at z1
      · rename_i kds
        split at z1
        · rename_i hc
          obtain ⟨hx, hz⟩ := hc
          refine d F1 H1 σ S1 T1 _ _ st1 eg fun v0 w F2 H2 s2 st2 sH hv nv => ?_
          obtain ⟨S', em⟩ := fzD_eq ek
          refine d3 F2 H2 σ S1 T1 _ x S' st2 em fun yv F3 H3 s3 st3 sH3 ry => ?_
          obtain ⟨v0', v', f', T0, hv', hT, nv', o', back⟩ := tgt_own st3 eg
          rw [hv] at hv'; cases hv'
          have := (nv.mono sH3).uniq nv'
          subst this
          cases o' with
          | @dN a xs _ ho hkk hq hr =>
            obtain ⟨b, rfl, en⟩ := nk_ref ry hx
            cases es : (⟨pv, rk, rd, .dN, .dit kds⟩ : Tgt).put i (.dN, .dit (putD kds x y)) S1 with
            | none => rw [es] at z1; exact z1.elim
            | some S2 =>
              rw [es] at z1
              obtain ⟨T', st4, s4⟩ := nd_up (v := v) (y := y) st3 ho hkk hq hr en ry (r1.mono (s2.sF.trans s3.sF)) (fun b => rfl) hT back es
              exact ⟨a, b, xs, x, rfl, rfl, ho, keysAt_mono st3.sub (keysAt_of hkk hq), ry.mono st3.sub, hx, by rw [nd_len hkk]; exact hz, nx_of (show KS G F1 H1 T1 D .nx S2 from z1) ((s2.trans s3).trans s4) st4⟩
        · exact z1.elim
      · exact z1.elim
/-! .get -/
def IsN (w : World) (H : Hp) (a : Addr) : Prop := ∃ xs, Rd H a (NDO w a xs)
theorem isN_at {pins : List (Addr × Obj)} {s : Shared} {w : World} {a : Addr} (I : Inv X pins σ H s) (h : IsN w H a) : s.TypeIs (.ref a) "dict" ∧ ∀ b, Value.ref a = .ref b → ∃ ob, s.heap.get? b = some ob ∧ ob.dict = none := by
  obtain ⟨xs, e⟩ := h
  obtain ⟨⟨h1, h2, h3, us, r, o, es, ep, g1, g2, g3, g4, g5⟩, _, _⟩ := (show ObjOk X.prog X.w H s.heap a (NDO w a xs) from e.ok I.hok)
  refine ⟨⟨o, g1, g2.1⟩, fun b q => ?_⟩
  cases q
  exact ⟨o, g1, g2.2.1⟩
def tNGet2 (G : Cfg) (td ty tx : TE) : TE := fun σ H Q => td σ H fun x H1 => ∃ a, x = .ref a ∧ IsN G.w H1 a ∧ ty σ H1 fun y H2 => tx σ H2 fun z H3 => ∃ (xs : List NT) (d : D), Rd H3 a (NDO G.w a xs) ∧ KeysAt G H3 xs ∧ Rep G H3 y d ∧ isNK d = true ∧ Q ((valN xs (toNK d)).getD z) H3
theorem atKey_pairs {us : List (NestedKey × Addr × Value)} {n : NestedKey} : valueAt (pairsH us) n = (atKey us n).map (·.2) := valueAt_pairsH us n
theorem pe_nget2 {o e f : Expr} {apos cpos : Pos} {td ty tx : TE} (hK : X.K = G.K) (hw : X.w = G.w) (hu : X.A.units + 64 < cLine) (ho : PE X o td) (he : PE X e ty) (hf : PE X f tx) (m : M2 X o "get" apos e f cpos) : PE X (.Call (.Attribute o "get" apos) [e, f] [] cpos) (tNGet2 G td ty tx) := by
  refine ⟨fun pins s σ H Q I h => ?_⟩
  refine wpAny_Call_method m.base m.few m.line PySem.F.plainAttrs_dict PySem.F.slot_dict_get PySem.F.type_dict_get (thn (ho.run pins s σ H _ I h) fun u s1 ⟨x, H1, I1, rx, a, ex, d, q1⟩ => ?_)
  subst ex
  obtain rfl : u = Value.ref a := rx
  obtain ⟨t1, t2⟩ := isN_at I1 d
  refine ⟨t1, t2, ?_⟩
  rw [m.trees]
  refine Calls.callWith_builtin rfl (Calls.evalArgs_plain (Calls.spliced_cons (thn (he.run pins s1 σ H1 _ I1 q1) fun iv s2 ⟨y, H2, I2, ry, q2⟩ =>
    Calls.spliced_cons (thn (hf.run pins s2 σ H2 _ I2 q2) fun fv s3 ⟨z, H3, I3, rz, xs, dd, ha, hk, rd, hd, q3⟩ => Calls.spliced_nil ?_))))
  obtain ⟨b, e1, e2, k1, k2, k3⟩ := key_at' I3 hK rd ry hd
  subst e1 e2
  obtain ⟨h1, h2, us, r, hdd⟩ := ndo_at I3 hK hw ha hk
  refine getOr_keyed (show X.A.in1.units + 8 < cLine by show X.A.units + 1 + 8 < _; omega) k1 h1 ⟨us, hdd, rfl⟩ ?_
  refine ⟨_, H3, I3.tok _, ?_, q3⟩
  rw [atKey_pairs]
  have := nrel_val r (toNK dd)
  cases e1 : valN xs (toNK dd) with
  | none =>
    cases e2 : (atKey us (toNK dd)).map (·.2) with
    | none => exact rz
    | some v => rw [e1, e2] at this; exact this.elim
  | some v =>
    cases e2 : (atKey us (toNK dd)).map (·.2) with
    | none => rw [e1, e2] at this; exact this.elim
    | some u => rw [e1, e2] at this; exact this
theorem q_nget2 {o ke ze : Expr} {i : Nat} {ps : List PS} {m n : E} {apos pos : Pos} (C : Cok X G W k) (hw : X.w = G.w) (h : TrP X G o i ps) (hk : TrQ X G ke m) (hz : TrQ X G ze n) (m2 : M2 X o "get" apos ke ze pos := by exact ⟨rfl, rfl, rfl, rfl⟩) : TrQ X G (.Call (.Attribute o "get" apos) [ke, ze] [] pos) (pNget2 i ps m n) := by
  obtain ⟨t, p, d⟩ := h
  obtain ⟨t2, p2, d2⟩ := hk
  obtain ⟨t3, p3, d3⟩ := hz
  refine ⟨_, pe_nget2 C.hK hw (by have := C.room.units; omega) p p2 p3 m2, fun F H σ S T Q d0 S' st e k => ?_⟩
  unfold pNget2 at e
  cases eg : tgt i ps S with
  | none => rw [eg] at e; cases e
  | some g =>
    cases e1 : eFzD m S with
    | none => rw [eg, e1] at e; cases e
    | some x =>
      cases e2 : eFzD n S with
      | none => rw [eg, e1, e2] at e; cases e
      | some w =>
        rw [eg, e1, e2] at e
        obtain ⟨pv, rk, rd, gk, gd⟩ := g
        simp only at e
        split at e
        · rename_i kds
          split at e
          · rename_i hx
            cases e
            refine d F H σ S T _ _ st eg fun v0 u F1 H1 s1 st1 h1 hv nv => ?_
            obtain ⟨v0', v', f', T0, hv', hT, nv', o', _⟩ := tgt_own st1 eg
            rw [hv] at hv'; cases hv'
            have := nv.uniq nv'
            subst this
            cases o' with
            | @dN a xs _ ho hkk hq hr =>
              obtain ⟨Sx, em⟩ := fzD_eq e1
              obtain ⟨Sy, en⟩ := fzD_eq e2
              refine ⟨a, rfl, ⟨xs, .inl ho⟩, ?_⟩
              refine d2 F1 H1 σ S T _ x Sx st1 em fun yv F2 H2 s2 st2 h2 ry => d3 F2 H2 σ S T _ w Sy st2 en fun zv F3 H3 s3 st3 h3 rz => ?_
              have sF := s2.sF.trans s3.sF
              obtain ⟨b, eb, enk⟩ := nk_ref ry hx
              have va := valN_at hkk (hr.mono sF) (toNK x)
              rw [enk] at va
              refine ⟨xs, x, .inl (h3 _ _ (h2 _ _ ho)), keysAt_mono ((sF.trans st3.sub)) (keysAt_of hkk hq), ry.mono (s3.sF.trans st3.sub), hx, ?_⟩
              refine k _ F3 H3 ((s1.trans s2).trans s3) st3 ((h1.trans h2).trans h3) ?_
              cases q1 : valD kds x with
              | none =>
                cases q2 : valN xs (toNK x) with
                | none => exact rz
                | some v => rw [q1, q2] at va; exact va.elim
              | some dd =>
                cases q2 : valN xs (toNK x) with
                | none => rw [q1, q2] at va; exact va.elim
                | some v => rw [q1, q2] at va; exact va
          · cases e
        · cases e
end
end TB

/-! TbW1: sets whose members are keys of any kind that is hashed and compared in silence (tuples of numbers, texts, tuples). -/
namespace TB
open PySem L2 PySem.Spec PyProof.Rows
/-- what a set asks of its members beside what a dict asks of its keys -/
structure Shy (P : Program) (w : World) {K : Type} [DecidableEq K] (kd : HeapKind P w K) : Prop where
  room : ∀ {A : Around}, A.units + 100 < cLine → kd.room A
  cls : ∀ {A : Around} {E : Value → Shared → Prop} {s : Shared} {k : K} {b : Addr} {Q : Bool → Shared → Prop}, kd.is s.heap k b → Q false s → wpAny (model P w) A (ofAClassStatement 8 (.ref b)) Q E s
  hsh : ∀ {A : Around} {E : Value → Shared → Prop} {s : Shared} {k : K} {b : Addr} {Q : Bool → Shared → Prop}, kd.is s.heap k b → (∀ y, Q y s) → wpAny (model P w) A (hashByValue 8 (.ref b)) Q E s
  stay : ∀ {h h' : Heap} {k : K} {a b : Addr} {o : Obj} {es : Array (Int × Value)} {ep : Nat} {t : SetTable}, kd.is h k b → h.get? a = some o → o.data = .set es ep t → Heap.SameBut a h h' → kd.is h' k b
  grow : ∀ {h h' : Heap} {k : K} {b : Addr}, kd.is h k b → (∀ c o, h.get? c = some o → h'.get? c = some o) → kd.is h' k b
section
variable {P : Program} {w : World} {K : Type} [DecidableEq K] {kd : HeapKind P w K} {A : Around} {E : Value → Shared → Prop} {s : Shared}
theorem unseen (Y : Shy P w kd) {k : K} {x : Addr} {Q : Bool → Shared → Prop} (hx : kd.is s.heap k x) {ys : List Value} (hy : ∀ y ∈ ys, ∃ k2 c, y = Value.ref c ∧ kd.is s.heap k2 c) (fin : Q false s) : wpAny (model P w) A (searchCouldBeSeen (.ref x) ys) Q E s := by
  unfold searchCouldBeSeen
  refine wpAny_bind (wpAny_forIn_list _ (fun todo acc st => acc.1 = none ∧ st = s ∧ ∀ y ∈ todo, ∃ k2 c, y = Value.ref c ∧ kd.is s.heap k2 c) _ ?turn ?fin ys _ ⟨rfl, rfl, hy⟩)
  case turn =>
    rintro y todo acc st ⟨ea, rfl, left⟩
    obtain ⟨k2, c, rfl, hc⟩ := left y List.mem_cons_self
    have left2 := fun z (hz : z ∈ todo) => left z (List.mem_cons_of_mem _ hz)
    dsimp only
    split
    · exact wpAny_pure ⟨rfl, rfl, left2⟩
    · refine wpAny_bind (kd.quiet hx ?_)
      rw [if_neg (by decide)]
      refine wpAny_bind (kd.quiet hc ?_)
      rw [if_neg (by decide)]
      refine wpAny_bind (Y.cls hx ?_)
      rw [if_neg (by decide)]
      refine wpAny_bind (Y.cls hc ?_)
      rw [if_neg (by decide)]
      exact wpAny_pure ⟨rfl, rfl, left2⟩
  case fin =>
    rintro ⟨acc, u⟩ st ⟨ea, rfl, _⟩
    cases ea
    exact wpAny_pure fin
/-- the set at a has the members L, in the order of its table -/
structure SR (kd : HeapKind P w K) (h : Heap) (a : Addr) (L : List (Addr × K)) (es : Array (Int × Value)) (ep : Nat) (t : SetTable) : Prop where
  here : ∃ o, h.get? a = some o ∧ o.ExactSet ∧ o.data = .set es ep t
  row : es.toList = L.map fun (p : Addr × K) => (kd.hash p.2, Value.ref p.1)
  tb : TabOk t (L.map fun (p : Addr × K) => kd.hash p.2)
  one : (L.map (·.2)).Nodup
  mem : ∀ p ∈ L, kd.is h p.2 p.1
  rm : L.length * 5 < t.mask * 3
variable {a : Addr} {L : List (Addr × K)} {es : Array (Int × Value)} {ep : Nat} {t : SetTable}
theorem row_len (e : es.toList = L.map fun (p : Addr × K) => (kd.hash p.2, Value.ref p.1)) : es.size = L.length := by
  rw [← Array.length_toList, e, List.length_map]
theorem SR.fit (R : SR kd s.heap a L es ep t) : t.fits es.size = true := by
  have a1 : t.place.size = L.length := by rw [R.tb.sz, List.length_map]
  have a2 := row_len R.row
  have a3 := R.rm
  unfold SetTable.fits SetTable.fill
  rw [R.tb.dm]
  simp only [Bool.and_eq_true, beq_iff_eq, decide_eq_true_eq]
  exact ⟨by omega, by show t.place.size + 0 ≤ t.mask; omega⟩
theorem row_at (e : es.toList = L.map fun (p : Addr × K) => (kd.hash p.2, Value.ref p.1)) {i : Nat} {p : Addr × K} (hp : L[i]? = some p) : es[i]? = some (kd.hash p.2, Value.ref p.1) := by
  have := congrArg (·[i]?) e
  simpa [hp] using this
abbrev pr (m : Nat) (h : Int) (c : Nat) : SetTable.Probe := nth m (runAt m (SetTable.bits h % (m + 1)) (SetTable.bits h)) c
theorem pr_add (m : Nat) (h : Int) (c q : Nat) : nth m (pr m h c) q = pr m h (c + q) := (nth_add m c _ q).symm
theorem nth_dummy (m : Nat) : ∀ (c : Nat) (p : SetTable.Probe), p.dummy = none → (nth m p c).dummy = none
  | 0, _, e => e
  | c + 1, p, e => nth_dummy m c (adv m p) (by unfold adv; split <;> exact e)
/-- the search for a member, from the c-th step on -/
theorem look (Y : Shy P w kd) (R : SR kd s.heap a L es ep t) {x : Addr} {k : K} (hx : kd.is s.heap k x) (ru : A.units + 100 < cLine) {N : Nat} (small : N < 10 * SetTable.turns t.mask)
    (free : way t.mask (kd.hash k) N ∉ t.place.toList) (busy : ∀ c, c < N → way t.mask (kd.hash k) c ∈ t.place.toList) {Q : SetFound → Shared → Prop} (yes : k ∈ L.map (·.2) → Q (.there none) s) (no : k ∉ L.map (·.2) → Q (.free (way t.mask (kd.hash k) N) false) s) :
    ∀ (f c : Nat) (stand : Option SetTable.Probe), stand.getD (t.probeStart (kd.hash k)) = pr t.mask (kd.hash k) c → c ≤ N → N < f + c →
      (∀ (i : Nat) (p : Addr × K), L[i]? = some p → p.2 = k → ∃ j, c ≤ j ∧ j < N ∧ t.place.toList[i]? = some (way t.mask (kd.hash k) j)) →
      wpAny (model P w) A (setSearchFrom a (.ref x) (kd.hash k) true f stand) Q E s := by
  intro f
  induction f with
  | zero => intro c stand _ h1 h2; exact absurd h2 (by omega)
  | succ f ih =>
    intro c stand start le lt ahead
    obtain ⟨o, og, ox, od⟩ := R.here
    have wj : ∀ q, (nth t.mask (pr t.mask (kd.hash k) c) q).j = way t.mask (kd.hash k) (c + q) := fun q => by rw [pr_add]
    have hsh : ∀ (i : Nat) (p : Addr × K), L[i]? = some p → (es[i]?.map (·.1)).getD 0 = kd.hash p.2 := fun i p hp => by rw [row_at R.row hp]; rfl
    have sp := go_spec t R.tb.ris R.tb.dm (fun i => (es[i]?.map (·.1)).getD 0) (kd.hash k) (10 * SetTable.turns t.mask) (N - c) (pr t.mask (kd.hash k) c) (nth_dummy _ _ _ rfl) (by omega)
      (fun q hq => by rw [wj]; exact busy _ (by omega)) (by rw [wj, Nat.add_sub_cancel' le]; exact free)
    rw [setSearchFrom_succ]
    refine wpAny_bind (wpAny_setState_of og od R.fit ?_)
    dsimp only
    refine wp_if_neg (by unfold SetTable.gaveWay; rw [mask_odd R.tb.mok]; decide) ?_
    try refine wpAny_bind (wpAny_pure ?_)
    rw [start]
    rcases sp with ⟨q, i, q1, q2, q3, q4, q5⟩ | ⟨q4, q5⟩
    · have q5 : t.probe (fun i => (es[i]?.map (·.1)).getD 0) (kd.hash k) (pr t.mask (kd.hash k) c) = some (.candidate (way t.mask (kd.hash k) (c + q)) i (pr t.mask (kd.hash k) (c + (q + 1)))) := by
        rw [← wj, ← pr_add]; exact q5
      rw [q5]
      dsimp only
      rw [wj] at q2
      have il : i < L.length := by
        have e1 : t.place.size = L.length := by rw [R.tb.sz, List.length_map]
        have e2 := (List.getElem?_eq_some_iff.mp q2).1
        rw [Array.length_toList, e1] at e2
        exact e2
      obtain ⟨p, hp⟩ : ∃ p, L[i]? = some p := ⟨_, List.getElem?_eq_getElem il⟩
      have pm := List.mem_of_getElem? hp
      have sl : t.slot (way t.mask (kd.hash k) (c + q)) = .live i := slot_live R.tb.ris q2
      have body : wpAny (model P w) A (searchRest a (.ref x) (kd.hash k) true f es t (way t.mask (kd.hash k) (c + q)) i (pr t.mask (kd.hash k) (c + (q + 1)))) Q E s := by
        unfold searchRest
        rw [row_at R.row hp]
        dsimp only
        refine wpAny_bind (wpAny_holding (kd.eqBool (Y.room ru) (R.mem p pm) hx ?_))
        refine wpAny_bind (wpAny_setState_of og od R.fit ?_)
        dsimp only
        by_cases z : p.2 = k
        · refine wp_if_pos (by rw [decide_eq_true z]; rfl) ?_
          exact wpAny_pure (yes (List.mem_map.mpr ⟨p, pm, z⟩))
        · have zf : decide (p.2 = k) = false := decide_eq_false z
          refine wp_if_neg (by rw [zf]; decide) ?_
          try refine wpAny_bind (wpAny_pure ?_)
          rw [L2.sameMem]
          dsimp only
          simp only [if_true, sl, row_at R.row hp]
          refine wpAny_bind (wpAny_isSame_ref_self (wpAny_bind (wpAny_pure ?_)))
          simp only [if_true]
          refine wp_if_neg (by rw [zf]; decide) ?_
          refine ih (c + (q + 1)) _ rfl (by omega) (by omega) fun i2 p2 h2 e2 => ?_
          obtain ⟨j, j1, j2, j3⟩ := ahead i2 p2 h2 e2
          refine ⟨j, ?_, j2, j3⟩
          rcases Nat.lt_trichotomy j (c + q) with y | y | y
          · refine absurd ((hsh i2 p2 h2).trans (by rw [e2])) (q4 (j - c) i2 (by omega) ?_)
            rw [wj, Nat.add_sub_cancel' j1]; exact j3
          · rw [y] at j3
            have s2 := slot_live R.tb.ris j3
            rw [sl] at s2
            cases s2
            rw [hp] at h2
            exact absurd (by rw [Option.some.inj h2]; exact e2) z
          · omega
      by_cases z : t.led = true
      · refine wp_if_neg (by rw [z]; decide) ?_
        try refine wpAny_bind (wpAny_pure ?_)
        exact body
      · refine wp_if_pos (by simp [z]) ?_
        refine wpAny_bind (unseen Y hx (fun y hy => ?_) ?_)
        · obtain ⟨e, he, rfl⟩ := List.mem_map.mp hy
          have he : e ∈ es.toList := by
            have : e ∈ es ∧ e.1 = kd.hash k := by simpa using he
            simpa using this.1
          rw [R.row] at he
          obtain ⟨p2, hp2, rfl⟩ := List.mem_map.mp he
          exact ⟨p2.2, p2.1, rfl, R.mem p2 hp2⟩
        · refine wp_if_neg (by decide) ?_
          try refine wpAny_bind (wpAny_pure ?_)
          exact body
    · have q5 : t.probe (fun i => (es[i]?.map (·.1)).getD 0) (kd.hash k) (pr t.mask (kd.hash k) c) = some (.empty (way t.mask (kd.hash k) N) none) := by
        have : way t.mask (kd.hash k) N = (nth t.mask (pr t.mask (kd.hash k) c) (N - c)).j := by rw [wj, Nat.add_sub_cancel' le]
        rw [this]; exact q5
      rw [q5]
      dsimp only
      refine wpAny_pure (no fun hm => ?_)
      obtain ⟨p0, h0, e0⟩ := List.mem_map.mp hm
      obtain ⟨i0, hi0⟩ := List.getElem?_of_mem h0
      obtain ⟨j, j1, j2, j3⟩ := ahead i0 p0 hi0 e0
      refine absurd ((hsh i0 p0 hi0).trans (by rw [e0])) (q4 (j - c) i0 (by omega) ?_)
      rw [wj, Nat.add_sub_cancel' j1]; exact j3
theorem look_all (Y : Shy P w kd) (R : SR kd s.heap a L es ep t) {x : Addr} {k : K} (hx : kd.is s.heap k x) (ru : A.units + 100 < cLine) {Q : SetFound → Shared → Prop} (yes : k ∈ L.map (·.2) → Q (.there none) s)
    (no : ∀ N, k ∉ L.map (·.2) → way t.mask (kd.hash k) N ∉ t.place.toList → (∀ c, c < N → way t.mask (kd.hash k) c ∈ t.place.toList) → Q (.free (way t.mask (kd.hash k) N) false) s) :
    wpAny (model P w) A (setSearch a (.ref x) (kd.hash k) true) Q E s := by
  have rm := R.rm
  obtain ⟨N, n1, n2, n3⟩ := R.tb.first (by rw [List.length_map]; omega) (kd.hash k)
  have big : 10 * SetTable.turns t.mask < 100000 := by
    unfold SetTable.turns
    rcases R.tb.mok with e | e | e <;> omega
  unfold setSearch
  refine look Y R hx ru n1 n2 n3 yes (fun h => no N h n2 n3) 100000 0 none rfl (Nat.zero_le _) (by omega) fun i p hp e => ?_
  have e1 : t.place.size = L.length := by rw [R.tb.sz, List.length_map]
  have il : i < t.place.toList.length := by rw [Array.length_toList, e1]; exact (List.getElem?_eq_some_iff.mp hp).1
  obtain ⟨c, c1, c2⟩ := R.tb.before n2 (by rw [List.getElem?_map, hp, ← e]; rfl : (L.map fun (p : Addr × K) => kd.hash p.2)[i]? = some (kd.hash k)) (List.getElem?_eq_getElem il)
  exact ⟨c, Nat.zero_le _, c1, by rw [List.getElem?_eq_getElem il, c2]⟩
end
end TB

/-! TbW2: members added, a set made of a list. -/
namespace TB
open PySem L2 PySem.Spec PyProof.Rows
theorem range_pick {α : Type} (L : List α) (d : α) : (List.range L.length).map (fun i => L.getD i d) = L := by
  refine List.ext_getElem (by simp) fun i h1 h2 => ?_
  simp [List.getD_eq_getElem?_getD, List.getElem?_eq_getElem h2]
theorem pick {α β : Type} {L : List α} {es : Array β} {f : α → β} (e : es.toList = L.map f) {order : Array Nat} (hp : order.toList.Perm (List.range L.length)) :
    ∃ L2 : List α, L2.Perm L ∧ (order.filterMap (es[·]?)).toList = L2.map f ∧ ∀ g : β → Int, (L2.map fun p => g (f p)) = order.toList.map fun i => (es.map g).getD i 0 := by
  have ge : ∀ i : Nat, es[i]? = (L[i]?).map f := fun i => by rw [← Array.getElem?_toList, e, List.getElem?_map]
  cases L with
  | nil =>
    have : order = #[] := by simpa using hp
    subst this
    exact ⟨[], .refl _, rfl, fun g => rfl⟩
  | cons d L =>
    have lt : ∀ i ∈ order.toList, i < (d :: L).length := fun i hi => List.mem_range.mp (hp.mem_iff.mp hi)
    refine ⟨order.toList.map fun i => (d :: L).getD i d, ?_, ?_, fun g => ?_⟩
    · have := hp.map fun i => (d :: L).getD i d
      rw [range_pick] at this; exact this
    · rw [List.map_map]
      have : ∀ l : List Nat, (∀ i ∈ l, i < (d :: L).length) → l.filterMap (fun i => es[i]?) = l.map (f ∘ fun i => (d :: L).getD i d) := by
        intro l
        induction l with
        | nil => intro _; rfl
        | cons i l ih =>
          intro h
          have hi := h i List.mem_cons_self
          have q : es[i]? = some (f ((d :: L).getD i d)) := by
            rw [ge, List.getElem?_eq_getElem hi, List.getD_eq_getElem?_getD, List.getElem?_eq_getElem hi]; rfl
          rw [List.filterMap_cons_some q, ih fun j hj => h j (List.mem_cons_of_mem _ hj)]; rfl
      have h := this _ lt
      simpa using h
    · rw [List.map_map]
      refine List.map_congr_left fun i hi => ?_
      have hl := lt i hi
      have q : (es.map g)[i]? = some (g (f ((d :: L).getD i d))) := by
        rw [Array.getElem?_map, ge, List.getElem?_eq_getElem hl, List.getD_eq_getElem?_getD, List.getElem?_eq_getElem hl]; rfl
      show g (f ((d :: L).getD i d)) = _
      rw [Array.getD_eq_getD_getElem?, q]; rfl
section
variable {P : Program} {w : World} {K : Type} [DecidableEq K] {kd : HeapKind P w K} {A : Around} {E : Value → Shared → Prop} {s : Shared}
variable {a : Addr} {L : List (Addr × K)} {es : Array (Int × Value)} {ep : Nat} {t : SetTable}
abbrev rw1 (kd : HeapKind P w K) (p : Addr × K) : Int × Value := (kd.hash p.2, Value.ref p.1)
theorem relaidN (Y : Shy P w kd) {o : Obj} (og : s.heap.get? a = some o) (ox : o.ExactSet) (od : o.data = .set es ep t) (row : es.toList = L.map (rw1 kd)) (sz : t.place.size = es.size) (dm : t.dummies = #[]) (fl : es.size ≤ t.mask)
    (one : (L.map (·.2)).Nodup) (mem : ∀ p ∈ L, kd.is s.heap p.2 p.1) {wanted M : Nat} (hw : SetTable.sizeAbove wanted - 1 = M) (hM : MaskOk M) (h128 : SetTable.sizeAbove wanted ≤ 128) (rm : L.length * 5 < M * 3) {Q : Unit → Shared → Prop}
    (fin : ∀ h2 L2 es2 ep2 t2, Heap.SameBut a s.heap h2 → SR kd h2 a L2 es2 ep2 t2 → L2.Perm L → Q () { s with heap := h2 }) : wpAny (model P w) A (setRelay a wanted) Q E s := by
  have el : es.size = L.length := row_len row
  have ft : t.fits es.size = true := by
    unfold SetTable.fits SetTable.fill
    rw [dm]
    simp only [Bool.and_eq_true, beq_iff_eq, decide_eq_true_eq]
    exact ⟨sz, by show t.place.size + 0 ≤ t.mask; omega⟩
  obtain ⟨t2, order, e, hp, T, em, _⟩ := relaid_ok t (hs := es.map (·.1)) (wanted := wanted) hw hM (by rw [Array.size_map, el]; omega)
  rw [Array.size_map, el] at hp
  obtain ⟨L2, r1, r2, r3⟩ := pick row hp
  have T : TabOk t2 (L2.map fun (p : Addr × K) => kd.hash p.2) := by
    have := r3 (·.1)
    rw [show (L2.map fun (p : Addr × K) => kd.hash p.2) = L2.map fun p => (rw1 kd p).1 from rfl, this]; exact T
  have l2 : (order.filterMap (es[·]?)).size = es.size := by rw [← Array.length_toList, r2, List.length_map, r1.length_eq, el]
  rw [setRelay_eq]
  refine wpAny_bind (wpAny_setState_of og od ft ?_)
  dsimp only
  refine wp_if_neg (by rw [sizeLine_eq]; omega) ?_
  try refine wpAny_bind (wpAny_pure ?_)
  rw [e]
  dsimp only
  refine wpAny_bind ?_
  refine wp_if_neg (by rw [l2]; simp) ?_
  try refine wpAny_bind (wpAny_pure ?_)
  refine wpAny_pure ?_
  dsimp only
  refine wpAny_storeSet_of og od ?_ (by rw [l2, el, sizeLine_eq]; have : M ≤ 127 := by omega
                                        omega)
  have sb : Heap.SameBut a s.heap (s.heap.update a (Obj.putSet (order.filterMap (es[·]?)) t2)) := Heap.SameBut.update ..
  refine fin _ L2 _ (ep + 1) t2 sb ⟨⟨_, store_at og od, ⟨ox.1, ox.2.1, ox.2.2⟩, rfl⟩, r2, T, (r1.map (·.2)).nodup_iff.mpr one, fun p hm => Y.stay (mem p (r1.mem_iff.mp hm)) og od sb, ?_⟩ r1
  rw [r1.length_eq, em]; exact rm
/-- a member added -/
theorem addN (Y : Shy P w kd) (R : SR kd s.heap a L es ep t) {x : Addr} {k : K} (hx : kd.is s.heap k x) (ru : A.units + 100 < cLine) (few : L.length < 76) {Q : Bool → Shared → Prop}
    (fin : ∀ b h2 L2 es2 ep2 t2, Heap.SameBut a s.heap h2 → SR kd h2 a L2 es2 ep2 t2 → (k ∈ L.map (·.2) → L2 = L) → (k ∉ L.map (·.2) → L2.Perm ((x, k) :: L)) → Q b { s with heap := h2 }) :
    wpAny (model P w) A (setAddHashed a (.ref x) (kd.hash k)) Q E s := by
  obtain ⟨o, og, ox, od⟩ := R.here
  have el := row_len R.row
  have rm := R.rm
  unfold setAddHashed
  refine wpAny_holding ?_
  rw [show (100000 : Nat) = 99999 + 1 from rfl, setAddHashedIn_succ]
  refine wpAny_bind (wpAny_setState_of og od R.fit ?_)
  dsimp only
  refine wp_if_neg (by simp [byScan, Value.scannable]) ?_
  try refine wpAny_bind (wpAny_pure ?_)
  refine wpAny_bind (look_all Y R hx ru (fun hm => ?_) fun N hm hN hb => ?_)
  · dsimp only
    exact wpAny_pure (fin false s.heap L es ep t (Heap.SameBut.refl a s.heap) R (fun _ => rfl) fun z => absurd hm z)
  · dsimp only
    refine wpAny_bind (wpAny_setState_of og od R.fit ?_)
    dsimp only
    obtain ⟨q1, q2, q3, q4, q5, q6, q7, q8, q9⟩ := R.tb.put hN hb
    generalize hpt : t.put (way t.mask (kd.hash k) N) = pt at q1 q3 q4 q5 q6 q7 q8 q9 ⊢
    obtain ⟨t1, at1⟩ := pt
    dsimp only at q1 q3 q4 q5 q6 q7 q8 q9 ⊢
    subst q1
    -- whichever the table is told to be, plain or not
    have rest : ∀ t0 : SetTable, t0.place = t1.place → t0.dummies = t1.dummies → t0.mask = t1.mask → wpAny (model P w) A (do
        storeSet a (SetTable.insertAt es (SetTable.below t.place (way t.mask (kd.hash k) N)) (kd.hash k, Value.ref x)) t0
        if (!false && t0.tooFull) = true then setRelay a (SetTable.grown (es.size + 1))
        return true) Q E s := by
      intro t0 u1 u2 u3
      have T0 : TabOk t0 ((L.map fun (p : Addr × K) => kd.hash p.2).take (SetTable.below t.place (way t.mask (kd.hash k) N)) ++ kd.hash k :: (L.map fun (p : Addr × K) => kd.hash p.2).drop (SetTable.below t.place (way t.mask (kd.hash k) N))) := by
        obtain ⟨a1, a2, a3, a4, a5, a6⟩ := q3
        exact ⟨by rw [u1]; exact a1, by rw [u2]; exact a2, by rw [u1]; exact a3, by rw [u3]; exact a4, by rw [u1, u3]; exact a5, by rw [u1, u3]; exact a6⟩
      have hfill : t0.fill = L.length + 1 := by
        have : t0.fill = t1.fill := by unfold SetTable.fill; rw [u1, u2]
        rw [this, q9, List.length_map]
      have ins : (SetTable.insertAt es (SetTable.below t.place (way t.mask (kd.hash k) N)) (kd.hash k, Value.ref x)).toList = (L.take (SetTable.below t.place (way t.mask (kd.hash k) N)) ++ (x, k) :: L.drop (SetTable.below t.place (way t.mask (kd.hash k) N))).map (rw1 kd) := by
        rw [SetTable.toList_insertAt, R.row, List.map_append, List.map_cons, List.map_take, List.map_drop]
      generalize SetTable.below t.place (way t.mask (kd.hash k) N) = at1 at T0 ins ⊢
      have pm : (L.take at1 ++ (x, k) :: L.drop at1).Perm ((x, k) :: L) := by
        have : (L.take at1 ++ (x, k) :: L.drop at1).Perm ((x, k) :: (L.take at1 ++ L.drop at1)) := List.perm_middle
        rwa [List.take_append_drop] at this
      have T0 : TabOk t0 ((L.take at1 ++ (x, k) :: L.drop at1).map fun (p : Addr × K) => kd.hash p.2) := by
        rw [List.map_append, List.map_cons, List.map_take, List.map_drop]; exact T0
      generalize L.take at1 ++ (x, k) :: L.drop at1 = L1 at pm T0 ins
      generalize SetTable.insertAt es at1 (kd.hash k, Value.ref x) = es1 at ins ⊢
      have l1 : L1.length = L.length + 1 := pm.length_eq
      have e1 : es1.size = L.length + 1 := by rw [row_len ins, l1]
      have one1 : (L1.map (·.2)).Nodup := (pm.map (·.2)).nodup_iff.mpr (by rw [List.map_cons]; exact List.nodup_cons.mpr ⟨hm, R.one⟩)
      refine wpAny_bind (wpAny_storeSet_of og od ?_ (by rw [e1, sizeLine_eq]; omega))
      have sb : Heap.SameBut a s.heap (s.heap.update a (Obj.putSet es1 t0)) := Heap.SameBut.update ..
      have og1 := store_at (es' := es1) (t' := t0) og od
      generalize s.heap.update a (Obj.putSet es1 t0) = h1 at sb og1 ⊢
      have mem1 : ∀ p ∈ L1, kd.is h1 p.2 p.1 := fun p hp => by
        rcases List.mem_cons.mp (pm.mem_iff.mp hp) with rfl | hp
        · exact Y.stay hx og od sb
        · exact Y.stay (R.mem p hp) og od sb
      by_cases full : t0.tooFull = true
      · have five : (L.length + 1) * 5 ≥ t0.mask * 3 := by
          unfold SetTable.tooFull at full
          rw [decide_eq_true_eq, hfill] at full
          exact full
        have two : (t.mask = 7 ∧ L.length = 4) ∨ (t.mask = 31 ∧ L.length = 18) := by
          rw [u3, q4] at five
          rcases R.tb.mok with e | e | e <;> rw [e] at five rm
          · exact .inl ⟨e, by omega⟩
          · exact .inr ⟨e, by omega⟩
          · omega
        have go : ∀ M, SetTable.sizeAbove (SetTable.grown (L.length + 1)) - 1 = M → MaskOk M → SetTable.sizeAbove (SetTable.grown (L.length + 1)) ≤ 128 → (L.length + 1) * 5 < M * 3 →
            wpAny (model P w) A (setRelay a (SetTable.grown (L.length + 1))) (fun _ s2 => wpAny (model P w) A (pure true) Q E s2) E { s with heap := h1 } := fun M g1 g2 g3 g4 => by
          refine relaidN (s := { s with heap := h1 }) Y og1 ⟨ox.1, ox.2.1, ox.2.2⟩ rfl ins (by rw [T0.sz, List.length_map, l1, e1]) T0.dm (by rw [e1, u3, q4]; rcases two with ⟨c1, c2⟩ | ⟨c1, c2⟩ <;> omega) one1 mem1 g1 g2 g3 (by rw [l1]; exact g4) ?_
          intro h2 L2 es2 ep2 t2 sb2 R2 pm2
          exact wpAny_pure (fin true h2 L2 es2 ep2 t2 (sb.trans sb2) R2 (fun z => absurd z hm) fun _ => pm2.trans pm)
        have hgo : wpAny (model P w) A (setRelay a (SetTable.grown (es.size + 1))) (fun _ s2 => wpAny (model P w) A (pure true) Q E s2) E { s with heap := h1 } := by
          rw [el]
          rcases two with ⟨_, c2⟩ | ⟨_, c2⟩
          · exact go 31 (by rw [c2, size_20]) (.inr (.inl rfl)) (by rw [c2, size_20]; decide) (by omega)
          · exact go 127 (by rw [c2, size_76]) (.inr (.inr rfl)) (by rw [c2, size_76]; decide) (by omega)
        first
          | exact wpAny_bind (wp_if_pos (by simp [full]) hgo)
          | exact wp_if_pos (by simp [full]) (wpAny_bind hgo)
      · have done : wpAny (model P w) A (pure true) Q E { s with heap := h1 } := by
          refine wpAny_pure (fin true h1 L1 es1 (ep + 1) t0 sb ⟨⟨_, og1, ⟨ox.1, ox.2.1, ox.2.2⟩, rfl⟩, ins, T0, one1, mem1, ?_⟩ (fun z => absurd z hm) fun _ => pm)
          unfold SetTable.tooFull at full
          rw [decide_eq_true_eq, hfill] at full
          rw [l1]; omega
        first
          | exact wpAny_bind (wp_if_neg (by simp [full]) (wpAny_pure done))
          | exact wp_if_neg (by simp [full]) done
    have plain : ∀ y : Bool, wpAny (model P w) A (do
        let t0 := if y = true then t1 else { t1 with plain := false }
        storeSet a (SetTable.insertAt es (SetTable.below t.place (way t.mask (kd.hash k) N)) (kd.hash k, Value.ref x)) t0
        if (!false && t0.tooFull) = true then setRelay a (SetTable.grown (es.size + 1))
        return true) Q E s := fun y => by
      cases y
      · exact rest { t1 with plain := false } rfl rfl rfl
      · exact rest t1 rfl rfl rfl
    by_cases z : t1.plain = true
    · first
        | exact wp_if_pos z (wpAny_bind (Y.hsh hx fun y => plain y))
        | exact wpAny_bind (wp_if_pos z (Y.hsh hx fun y => plain y))
    · first
        | exact wp_if_neg z (wpAny_bind (wpAny_pure (plain true)))
        | exact wp_if_neg z (plain true)
        | exact wpAny_bind (wp_if_neg z (wpAny_pure (plain true)))
end
end TB

/-! TbW3: nested keys as members; set(xs). -/
namespace TB
open PySem L2 PySem.Spec PyProof.Rows
section
variable {P : Program} {w : World}
def ClsAt (P : Program) (w : World) (n : Nat) (s : Shared) (v : Value) : Prop := ∀ (A : Around) (E : Value → Shared → Prop) (Q : Bool → Shared → Prop), Q false s → wpAny (model P w) A (ofAClassStatement n v) Q E s
def HshAt (P : Program) (w : World) (n : Nat) (s : Shared) (v : Value) : Prop := ∀ (A : Around) (E : Value → Shared → Prop) (Q : Bool → Shared → Prop), (∀ y, Q y s) → wpAny (model P w) A (hashByValue n v) Q E s
theorem cls_tup {n : Nat} {s : Shared} {a : Addr} {o : Obj} {vs : Array Value} {c : Nat} (og : s.heap.get? a = some o) (oc : o.cls = .type "tuple") (od : o.data = .seq vs c) (all : ∀ v ∈ vs.toList, ClsAt P w n s v) : ClsAt P w (n + 1) s (.ref a) := fun A E Q fin => by
  unfold ofAClassStatement
  refine wpAny_bind (wpAny_typeOf ⟨o, og, oc⟩ ?_)
  dsimp only
  rw [if_pos (by decide : (("tuple" : String) == "tuple") = true)]
  try refine wpAny_bind (wpAny_pure ?_)
  try rw [if_neg (by decide : ¬ (!true) = true)]
  refine wpAny_bind (wpAny_seqItems og od ?_)
  dsimp only
  refine wpAny_bind (m := forIn vs _ _) ?_
  rw [← Array.forIn_toList]
  refine wpAny_forIn_list _ (fun todo acc st => acc.1 = none ∧ st = s ∧ ∀ v ∈ todo, ClsAt P w n s v) _ ?_ ?_ _ _ ⟨rfl, rfl, all⟩
  · rintro v todo acc st ⟨_, rfl, left⟩
    refine wpAny_bind (left v List.mem_cons_self A _ _ ?_)
    rw [if_neg (by decide)]
    exact wpAny_pure ⟨rfl, rfl, fun z hz => left z (List.mem_cons_of_mem _ hz)⟩
  · rintro ⟨acc, u⟩ st ⟨ea, rfl, _⟩
    cases ea
    exact wpAny_pure fin
theorem hsh_tup {n : Nat} {s : Shared} {a : Addr} {o : Obj} {vs : Array Value} {c : Nat} (og : s.heap.get? a = some o) (oc : o.cls = .type "tuple") (od : o.data = .seq vs c) (all : ∀ v ∈ vs.toList, HshAt P w n s v) : HshAt P w (n + 1) s (.ref a) := fun A E Q fin => by
  unfold hashByValue
  refine wpAny_bind (wpAny_specialOf ⟨o, og, oc⟩ F.slot_tuple_hash.lookup ?_)
  dsimp only
  refine wpAny_bind (wpAny_seqItems og od ?_)
  refine wpAny_bind (m := forIn vs _ _) ?_
  rw [← Array.forIn_toList]
  refine wpAny_forIn_list _ (fun todo acc st => acc.1 = none ∧ st = s ∧ ∀ v ∈ todo, HshAt P w n s v) _ ?_ ?_ _ _ ⟨rfl, rfl, all⟩
  · rintro v todo acc st ⟨_, rfl, left⟩
    refine wpAny_bind (left v List.mem_cons_self A _ _ fun y => ?_)
    cases y
    · rw [if_pos (by decide)]
      exact wpAny_pure (wpAny_pure (fin false))
    · rw [if_neg (by decide)]
      exact wpAny_pure ⟨rfl, rfl, fun z hz => left z (List.mem_cons_of_mem _ hz)⟩
  · rintro ⟨acc, u⟩ st ⟨ea, rfl, _⟩
    cases ea
    exact wpAny_pure (fin true)
mutual
theorem nk_silent : ∀ (k : NestedKey) (v : Value) (n : Nat) (s : Shared), NestedIs s.heap k v → k.depth ≤ n → ClsAt P w n s v ∧ HshAt P w n s v
  | .none, _, n, s, x, _ => by
    cases x
    exact ⟨fun A E Q f => by cases n <;> exact wpAny_pure f, fun A E Q f => by cases n <;> exact wpAny_pure (f _)⟩
  | .num i, _, n, s, x, _ => by
    cases x
    · exact ⟨fun A E Q f => by cases n <;> exact wpAny_pure f, fun A E Q f => by cases n <;> exact wpAny_pure (f _)⟩
    · exact ⟨fun A E Q f => by cases n <;> exact wpAny_pure f, fun A E Q f => by cases n <;> exact wpAny_pure (f _)⟩
  | .text y, _, n, s, x, _ => by
    cases x
    exact ⟨fun A E Q f => by cases n <;> exact wpAny_pure f, fun A E Q f => by cases n <;> exact wpAny_pure (f _)⟩
  | .tup ks, _, n, s, x, le => by
    cases x with
    | tup og oc od hk =>
      simp only [NestedKey.depth] at le
      cases n with
      | zero => omega
      | succ n =>
        have all := nks_silent ks _ n s hk (by omega)
        exact ⟨cls_tup og oc od fun v hv => (all v hv).1, hsh_tup og oc od fun v hv => (all v hv).2⟩
theorem nks_silent : ∀ (ks : List NestedKey) (vs : List Value) (n : Nat) (s : Shared), NestedAll s.heap ks vs → NestedKey.depthAll ks ≤ n → ∀ v ∈ vs, ClsAt P w n s v ∧ HshAt P w n s v
  | [], _, n, s, x, _, v, hv => by cases x; cases hv
  | k :: ks, _, n, s, x, le, v, hv => by
    cases x with
    | cons x y =>
      simp only [NestedKey.depthAll] at le
      rcases List.mem_cons.mp hv with rfl | hv
      · exact nk_silent k _ n s x (by omega)
      · exact nks_silent ks _ n s y (by omega) v hv
end
theorem shy_nested : Shy P w (nestedKind P w) where
  room := fun {A} h => show A.units + 8 < cLine by omega
  cls := fun {A E s k b Q} hk f => (nk_silent k _ 8 s hk.1 hk.2).1 A E Q f
  hsh := fun {A E s k b Q} hk f => (nk_silent k _ 8 s hk.1 hk.2).2 A E Q f
  stay := fun {h h' k a b o es ep t} hk og od sb => ⟨NestedIs.at (fun c o2 vs n g d => by
    by_cases z : c = a
    · rw [z, og] at g
      rw [← Option.some.inj g, od] at d
      cases d
    · rw [sb.2 c z]; exact g) k _ hk.1, hk.2⟩
  grow := fun {h h' k b} hk keep => ⟨NestedIs.at (fun c o2 vs n g d => keep c o2 g) k _ hk.1, hk.2⟩
end
/-- what the set has of the first i members -/
structure Has {K : Type} (ks : List (Addr × K)) (i : Nat) (L : List (Addr × K)) : Prop where
  of : ∀ p ∈ L, p ∈ ks.take i
  to : ∀ p ∈ ks.take i, p.2 ∈ L.map (·.2)
  le : L.length ≤ i
section
variable {K : Type} {ks L L2 : List (Addr × K)} {i : Nat} {x : Addr × K}
theorem take_one (h : ks[i]? = some x) : ks.take (i + 1) = ks.take i ++ [x] := by rw [List.take_succ, h]; rfl
theorem Has.again (g : Has ks i L) (h : ks[i]? = some x) (m : x.2 ∈ L.map (·.2)) : Has ks (i + 1) L :=
  ⟨fun p hp => by rw [take_one h]; exact List.mem_append.mpr (.inl (g.of p hp)), fun p hp => by
    rw [take_one h] at hp
    rcases List.mem_append.mp hp with z | z
    · exact g.to p z
    · simp at z; rw [z]; exact m, by have := g.le; omega⟩
theorem Has.new (g : Has ks i L) (h : ks[i]? = some x) (pm : L2.Perm (x :: L)) : Has ks (i + 1) L2 :=
  ⟨fun p hp => by
    rw [take_one h]
    rcases List.mem_cons.mp (pm.mem_iff.mp hp) with rfl | z
    · exact List.mem_append.mpr (.inr (by simp))
    · exact List.mem_append.mpr (.inl (g.of p z)), fun p hp => by
    rw [(pm.map (·.2)).mem_iff]
    rw [take_one h] at hp
    rcases List.mem_append.mp hp with z | z
    · exact List.mem_cons.mpr (.inr (g.to p z))
    · simp at z; rw [z]; exact List.mem_cons.mpr (.inl rfl), by have := g.le; have := pm.length_eq; simp at this; omega⟩
end
section
variable {P : Program} {w : World} {K : Type} [DecidableEq K] {kd : HeapKind P w K} {A : Around} {E : Value → Shared → Prop} {s : Shared}
theorem SR.on {h h2 : Heap} {a : Addr} {L : List (Addr × K)} {es : Array (Int × Value)} {ep : Nat} {t : SetTable} (R : SR kd h a L es ep t) (keep : ∀ o, h.get? a = some o → h2.get? a = some o) (m : ∀ p ∈ L, kd.is h2 p.2 p.1) : SR kd h2 a L es ep t :=
  let ⟨o, og, r⟩ := R.here
  ⟨⟨o, keep o og, r⟩, R.row, R.tb, R.one, m, R.rm⟩
abbrev newSet (w : World) : Obj := { cls := .type "set", dict := none, data := .set #[] 0 (.fresh 0 0 (!w.params.followText "set-order")) }
theorem sr_new {h : Heap} {a : Addr} (og : h.get? a = some (newSet w)) : SR kd h a [] #[] 0 (.fresh 0 0 (!w.params.followText "set-order")) :=
  ⟨⟨_, og, ⟨rfl, rfl, rfl⟩, rfl⟩, rfl, ⟨List.Pairwise.nil, rfl, rfl, .inl rfl, fun x hx => (by cases hx), fun i h j hi => (by simp at hi)⟩, List.nodup_nil, fun p hp => (by cases hp), (by show 0 * 5 < 7 * 3; decide)⟩
/-- the loop of set.update -/
theorem set_fill (Y : Shy P w kd) {I : Addr} {fp wr : List Addr} {G : Array GenState → Array GenState → Prop} {n : Nat} {Pv : Nat → Value → Prop} {St : Nat → Shared → Prop} {R : Result → Shared → Prop}
    (W : WalksS P w A.in1 I fp wr G n Pv St) (S : Addr) (apart : S ∉ fp) (ks : List (Addr × K)) (hn : n = ks.length) (few : ks.length < 76) (val : ∀ i v, Pv i v → ∃ p, ks[i]? = some p ∧ v = .ref p.1)
    (h0 : Heap) (hk : ∀ p ∈ ks, kd.is h0 p.2 p.1) (S0 : h0.get? S = none) (w0 : ∀ b ∈ wr, h0.get? b = none) (ru : A.in1.units + 100 < cLine) :
    ∀ (d i : Nat) (s : Shared), n - i = d → i ≤ n → St i s → (∀ b o, h0.get? b = some o → s.heap.get? b = some o) → (∃ L es ep t, SR kd s.heap S L es ep t ∧ Has ks i L) →
      (∀ s2 L es ep t, Moved (S :: wr) G s s2 → SR kd s2.heap S L es ep t → Has ks n L → (∀ b o, h0.get? b = some o → s2.heap.get? b = some o) → R (.ok (.ret .none)) s2) →
      codeAny (model P w) A (.builtin "set.update.loop" ⟨[.ref S, .ref I], []⟩) R s := by
  have apart2 : S ∉ wr := fun h => apart (W.sub _ h)
  have wider : ∀ b ∈ wr, b ∈ S :: wr := fun b hb => List.mem_cons.mpr (.inr hb)
  have moved : ∀ {s s2 : Shared}, Moved wr G s s2 → (∀ b o, h0.get? b = some o → s.heap.get? b = some o) → ∀ b o, h0.get? b = some o → s2.heap.get? b = some o := fun mv kp b o e =>
    mv.heap b o (fun hb => by have := w0 b hb; rw [e] at this; cases this) (kp b o e)
  intro d
  induction d with
  | zero =>
    intro i s hd le st kp ⟨L, es, ep, t, sr, g⟩ fin
    obtain rfl : i = n := by omega
    refine codeAny_builtin F.entry_set_update_loop ?_
    rw [Around.under_plainId F.plain_set_update_loop _]
    refine wpAny_bind (m := pyNext (.ref I)) (W.done s _ _ st fun s2 mv => ?_)
    have kp2 := moved mv kp
    have inks : ∀ p ∈ L, p ∈ ks := fun p hp => List.mem_of_mem_take (g.of p hp)
    exact wpAny_pure (fin s2 L es ep t (mv.mono wider) (sr.on (fun o e => mv.heap S o apart2 e) fun p hp => Y.grow (hk p (inks p hp)) kp2) g kp2)
  | succ d ih =>
    intro i s hd le st kp ⟨L, es, ep, t, sr, g⟩ fin
    have lt : i < n := by omega
    refine codeAny_builtin F.entry_set_update_loop ?_
    rw [Around.under_plainId F.plain_set_update_loop _]
    refine wpAny_bind (m := pyNext (.ref I)) (W.item i s _ _ lt st fun v s2 pv st2 mv => ?_)
    obtain ⟨p, hp, rfl⟩ := val i v pv
    have kp2 := moved mv kp
    have inks : ∀ p ∈ L, p ∈ ks := fun p hp => List.mem_of_mem_take (g.of p hp)
    have sr2 : SR kd s2.heap S L es ep t := sr.on (fun o e => mv.heap S o apart2 e) fun q hq => Y.grow (hk q (inks q hq)) kp2
    have hx : kd.is s2.heap p.2 p.1 := Y.grow (hk p (List.mem_of_getElem? hp)) kp2
    refine wpAny_bind (m := holding [Value.ref p.1] (setAdd S (.ref p.1))) (wpAny_holding ?_)
    unfold setAdd
    refine wpAny_holding (wpAny_bind (kd.pyHash (Y.room ru) hx ?_))
    refine addN (s := { s2 with toks := s2.toks + kd.draws p.2 }) Y sr2 hx ru (by have := g.le; omega) fun b h2 L2 es2 ep2 t2 sb sr3 c1 c2 => ?_
    have g2 : Has ks (i + 1) L2 := by
      by_cases c : p.2 ∈ L.map (·.2)
      · rw [c1 c]; exact g.again hp c
      · exact g.new hp (c2 c)
    have kp3 : ∀ b o, h0.get? b = some o → h2.get? b = some o := fun b o e => by
      rw [sb.2 b fun z => by rw [z, S0] at e; cases e]; exact kp2 b o e
    refine wpAny_pure ⟨plainId_quiet F.plain_set_update_loop _, ih (i + 1) _ (by omega) lt (W.frame _ s2 _ _ st2 (Nat.le_add_right _ _) fun b hb o e => ?_) kp3 ⟨L2, es2, ep2, t2, sr3, g2⟩ fun s3 L3 es3 ep3 t3 mv3 sr4 g3 kp4 => ?_⟩
    · rw [sb.2 b fun z : b = S => apart (z ▸ hb)]; exact e
    · refine fin s3 L3 es3 ep3 t3 (Moved.trans W.gtrans ((mv.mono wider).then_heap (Nat.le_add_right _ _) fun b o hb e => ?_) mv3) sr4 g3 kp4
      rw [sb.2 b fun z : b = S => hb (by rw [z]; exact List.mem_cons.mpr (.inl rfl))]; exact e
end
end TB

/-! TbW4: set(xs), xs a list of such members. -/
namespace TB
open PySem L2 PySem.Spec PyProof.Rows
section
variable {P : Program} {w : World} {K : Type} [DecidableEq K] {kd : HeapKind P w K} {A : Around} {E : Value → Shared → Prop} {s : Shared}
theorem init_set (Y : Shy P w kd) {l : Addr} {items : Array Value} (ks : List (Addr × K)) (hh : A.handled = none) (hl : s.heap.IsList l items) (hit : items.toList = ks.map fun p => Value.ref p.1)
    (hk : ∀ p ∈ ks, kd.is s.heap p.2 p.1) (few : ks.length < 76) (ru : A.units + 110 < cLine) {R : Result → Shared → Prop}
    (fin : ∀ (h2 : Heap) (tk : Nat) L es ep t, SR kd h2 s.heap.objs.size L es ep t → Has ks ks.length L → (∀ b o, s.heap.get? b = some o → h2.get? b = some o) → R (.ok (.ret .none)) { s with heap := h2, toks := tk }) :
    codeAny (model P w) A (.builtin "set.update.loop" ⟨[.ref s.heap.objs.size, .ref (s.heap.objs.size + 1)], []⟩) R
      { s with heap := (s.heap.push (newSet w)).push { cls := .type "list_iterator", data := .fields #[.ref l, .int 0 0] } } := by
  have n1 : items.size = ks.length := by rw [← Array.length_toList, hit, List.length_map]
  obtain ⟨ol, og, oc, c, od⟩ := hl
  have lt : l < s.heap.objs.size := Heap.lt_size og
  have z1 : (s.heap.push (newSet w)).objs.size = s.heap.objs.size + 1 := Heap.size_push ..
  have none_of : ∀ b, s.heap.objs.size ≤ b → s.heap.get? b = none := fun b hb => by
    cases q : s.heap.get? b with
    | none => rfl
    | some o => exact absurd (Nat.lt_of_lt_of_le (Heap.lt_size q) hb) (Nat.lt_irrefl _)
  have val : ∀ (i : Nat) (v : Value), items[i]? = some v → ∃ p, ks[i]? = some p ∧ v = .ref p.1 := fun i v hv => by
    have q : (items.toList)[i]? = some v := by rw [Array.getElem?_toList]; exact hv
    rw [hit, List.getElem?_map] at q
    cases e : ks[i]? with
    | none => rw [e] at q; cases q
    | some p => rw [e] at q; exact ⟨p, rfl, (Option.some.inj q).symm⟩
  have hl1 : (s.heap.push (newSet w)).IsList l items := ⟨ol, Heap.get?_push_of_some _ og, oc, c, od⟩
  have S0 : ((s.heap.push (newSet w)).push { cls := .type "list_iterator", data := .fields #[.ref l, .int 0 0] }).get? s.heap.objs.size = some (newSet w) := Heap.get?_push_of_some _ (Heap.get?_push_size _ rfl)
  refine set_fill Y ((Walks.list (A := A.in1) (by rw [Around.in1_handled]; exact hh) (s.heap.objs.size + 1) l (Nat.ne_of_lt (Nat.lt_succ_of_lt lt)) items).toS) s.heap.objs.size (by
      simp only [List.mem_cons, List.not_mem_nil, or_false, not_or]; exact ⟨Nat.ne_of_lt (Nat.lt_succ_self _), Nat.ne_of_gt lt⟩) ks n1 few val s.heap hk (none_of _ (Nat.le_refl _)) (fun b hb => none_of b (by
      rw [List.mem_singleton.mp hb]; exact Nat.le_succ _)) (by show A.units + 1 + 100 < _; omega) (items.size - 0) 0 { s with heap := (s.heap.push (newSet w)).push { cls := .type "list_iterator", data := .fields #[.ref l, .int 0 0] } } rfl (Nat.zero_le _)
    ⟨⟨_, by rw [← z1]; exact Heap.get?_push_size _ rfl, rfl, rfl⟩, (hl1.push _)⟩ (fun b o e => Heap.get?_push_of_some _ (Heap.get?_push_of_some _ e)) ⟨[], #[], 0, _, sr_new S0, ⟨fun p hp => (by cases hp), fun p hp => (by simp at hp), Nat.le_refl _⟩⟩ ?_
  intro s2 L es ep t mv sr g kp
  obtain ⟨h2, g2, d2, tk2, os2⟩ := s2
  have e1 : g2 = s.gens := mv.gens
  have e2 : d2 = s.drawn := mv.drawn
  have e3 : os2 = s.os := mv.os
  subst e1 e2 e3
  rw [n1] at g
  exact fin h2 tk2 L es ep t sr g kp
theorem call_setN (Y : Shy P w kd) {l : Addr} {items : Array Value} (ks : List (Addr × K)) {Q : Value → Shared → Prop} (hh : A.handled = none) (hl : s.heap.IsList l items) (hit : items.toList = ks.map fun p => Value.ref p.1)
    (hk : ∀ p ∈ ks, kd.is s.heap p.2 p.1) (few : ks.length < 76) (ru : A.units + 120 < cLine)
    (fin : ∀ (h2 : Heap) (tk : Nat) L es ep t, SR kd h2 s.heap.objs.size L es ep t → Has ks ks.length L → (∀ b o, s.heap.get? b = some o → h2.get? b = some o) → Q (.ref s.heap.objs.size) { s with heap := h2, toks := tk }) :
    wpAny (model P w) A (call (.type "set") [.ref l]) Q E s := by
  obtain ⟨_, _, m1⟩ := F.called_set.mro
  have m2 := F.called_set.made
  have m3 := F.called_set.sub
  refine wpAny_call (codeAny_of_tree (show wpAny _ _ (callAny (.type "set") _) _ _ _ from wpAny_pure ⟨Code.quiet_builtin _ (by decide +kernel), codeAny_builtin F.entry_type_call ?_⟩))
  rw [Around.under_plain (weight_type_call_type "set" [.ref l] []) rfl]
  have m4 := F.called_set.notType
  have m5 := F.called_set.canCreate
  have m6 := F.typeCall_set_1 (.ref l)
  repeat (any_goals first | wp_step | assumption)
  refine codeAny_mono (code_set_led1 (.ref l) (E := E) (Q₁ := fun ob s1 => ob = .ref s.heap.objs.size ∧ s1 = { s with heap := s.heap.push (newSet w) }) ⟨rfl, rfl⟩) fun r1 s1 e1 => ?_
  cases r1 with
  | error e => exact e1
  | ok f1 =>
    cases f1 with
    | ret ob =>
      obtain ⟨rfl, rfl⟩ := e1
      have S0 : (s.heap.push (newSet w)).get? s.heap.objs.size = some (newSet w) := Heap.get?_push_size _ rfl
      have S1 : Shared.TypeIs { s with heap := s.heap.push (newSet w) } (.ref s.heap.objs.size) "set" := ⟨_, S0, rfl⟩
      have m7 := F.called_set.init.lookup
      have m8 := F.called_set.init.bind (.ref s.heap.objs.size)
      repeat (any_goals first | wp_step | assumption)
      refine codeAny_mono (codeAny_call_builtin (R := wants (fun r s2 => r = .none ∧ ∃ h2 tk L es ep t, s2 = { s with heap := h2, toks := tk } ∧ SR kd h2 s.heap.objs.size L es ep t ∧ Has ks ks.length L ∧ ∀ b o, s.heap.get? b = some o → h2.get? b = some o) E)
        F.called_set.init.plain F.entry_set_init (check_set_init_1 S1 ?_)) fun r2 s2 e2 => ?_
      · have hl0 := hl
        obtain ⟨ol, og, oc, c, od⟩ := hl
        obtain ⟨ocls, odict, odata, oslots⟩ := ol
        simp only at oc od
        subst oc od
        have og1 : (s.heap.push (newSet w)).get? l = some { cls := .type "list", dict := odict, data := .seq items c, slots := oslots } := Heap.get?_push_of_some _ og
        have m9 := F.sub_list_set
        have m10 := F.sub_list_frozenset
        have m11 : (Value.type "list" == Value.type "dict") = false := by decide
        have hl1 : (s.heap.push (newSet w)).IsList l items := ⟨_, og1, rfl, c, rfl⟩
        unfold Builtin.«set.__init__» noKeywords Builtin.Frozenset.updateFrom
        generalize hp : pyIter = pi
        wp_walk
        subst hp
        refine wpAny_pyIter_list hl1 (wpAny_bind (wpAny_runValue ?_))
        have z1 : (s.heap.push (newSet w)).objs.size = s.heap.objs.size + 1 := Heap.size_push ..
        simp only [z1]
        refine init_set (s := s) Y ks (by simp [hh]) hl0 hit hk few (by show A.units + 1 + 1 + 110 < _; omega) fun h2 tk L es ep t sr g kp => ?_
        refine wpAny_pure (show wpAny _ _ (ret Value.none) _ _ _ from ?_)
        exact wpAny_pure ⟨rfl, h2, tk, L, es, ep, t, rfl, sr, g, kp⟩
      · cases r2 with
        | error e => exact e2
        | ok f2 =>
          cases f2 with
          | ret r =>
            obtain ⟨rfl, h2, tk, L, es, ep, t, rfl, sr, g, kp⟩ := e2
            repeat (any_goals first | wp_step | assumption)
            exact fin _ _ _ _ _ _ sr g kp
          | _ => exact e2.elim
    | _ => exact e1.elim
end
end TB

/-! TbW5: len(set(xs)). -/
namespace TB
open PySem L2 PyProof.Rows
/-- two lists without double members, of the same members -/
theorem same_len {α : Type} [DecidableEq α] {a b : List α} (ha : a.Nodup) (hb : b.Nodup) (h : ∀ x, x ∈ a ↔ x ∈ b) : a.length = b.length :=
  ((List.perm_ext_iff_of_nodup ha hb).mpr h).length_eq
def nubG {α : Type} [DecidableEq α] : List α → List α → List α
  | acc, [] => acc
  | acc, x :: xs => if x ∈ acc then nubG acc xs else nubG (acc ++ [x]) xs
theorem nubG_ok {α : Type} [DecidableEq α] : ∀ (xs acc : List α), acc.Nodup → (nubG acc xs).Nodup ∧ ∀ x, x ∈ nubG acc xs ↔ x ∈ acc ∨ x ∈ xs
  | [], acc, h => ⟨h, fun x => by simp [nubG]⟩
  | y :: xs, acc, h => by
    unfold nubG
    split
    · rename_i m
      obtain ⟨a, b⟩ := nubG_ok xs acc h
      refine ⟨a, fun x => (b x).trans ⟨fun z => z.elim .inl fun z => .inr (List.mem_cons.mpr (.inr z)), fun z => z.elim .inl fun z => ?_⟩⟩
      rcases List.mem_cons.mp z with rfl | z
      · exact .inl m
      · exact .inr z
    · rename_i m
      obtain ⟨a, b⟩ := nubG_ok xs (acc ++ [y]) (List.nodup_append.mpr ⟨h, by simp, fun a ha b hb => by simp at hb; rw [hb]; rintro rfl; exact m ha⟩)
      refine ⟨a, fun x => (b x).trans ?_⟩
      simp only [List.mem_append, List.mem_cons, List.not_mem_nil, or_false]
      constructor
      · rintro ((z | z) | z)
        · exact .inl z
        · exact .inr (.inl z)
        · exact .inr (.inr z)
      · rintro (z | z | z)
        · exact .inl (.inl z)
        · exact .inl (.inr z)
        · exact .inr z
theorem nub_map {α : Type} [DecidableEq α] (f : α → D) (hf : ∀ a b, D.eqv (f a) (f b) = decide (a = b)) : ∀ (xs acc : List α), nubD (acc.map f) (xs.map f) = (nubG acc xs).map f
  | [], acc => rfl
  | x :: xs, acc => by
    have e : ((acc.map f).any fun y => D.eqv y (f x)) = decide (x ∈ acc) := by
      rw [List.any_map]
      have : ((fun y => D.eqv y (f x)) ∘ f) = fun a => decide (a = x) := by funext a; exact hf a x
      rw [this]
      induction acc with
      | nil => rfl
      | cons a acc ih =>
        rw [List.any_cons, ih]
        by_cases z : a = x
        · simp [z]
        · have z2 : ¬ x = a := fun q => z q.symm
          simp [z, z2]
    rw [List.map_cons]
    unfold nubD nubG
    rw [e]
    by_cases z : x ∈ acc
    · simp only [z, decide_true, if_true]; exact nub_map f hf xs acc
    · simp only [z, decide_false, if_false, Bool.false_eq_true]
      have := nub_map f hf xs (acc ++ [x])
      rw [List.map_append] at this
      exact this
theorem firstMet_mem (ns : List Int) : ∀ i, i ≤ ns.length → (firstMet (fun i => ns.getD i 0) i).Nodup ∧ ∀ x, x ∈ firstMet (fun i => ns.getD i 0) i ↔ x ∈ ns.take i
  | 0, _ => by rw [firstMet_zero]; simp
  | i + 1, h => by
    obtain ⟨a, b⟩ := firstMet_mem ns i (by omega)
    rw [firstMet_succ]
    have hi : i < ns.length := h
    have e : ns.getD i 0 = ns[i] := by simp [List.getD_eq_getElem?_getD, List.getElem?_eq_getElem hi]
    have tk : ns.take (i + 1) = ns.take i ++ [ns[i]] := by rw [List.take_succ, List.getElem?_eq_getElem hi]; rfl
    unfold step_dedup
    rw [e, tk]
    by_cases z : ns[i] ∈ firstMet (fun i => ns.getD i 0) i
    · have z2 : (firstMet (fun i => ns.getD i 0) i).any (· == ns[i]) = true := List.any_eq_true.mpr ⟨_, z, by simp⟩
      simp only [z2, if_true]
      refine ⟨a, fun x => (b x).trans ?_⟩
      simp only [List.mem_append, List.mem_cons, List.not_mem_nil, or_false]
      exact ⟨.inl, fun q => q.elim id fun q => by rw [q]; exact (b _).mp z⟩
    · have z2 : (firstMet (fun i => ns.getD i 0) i).any (· == ns[i]) = false := by
        rw [List.any_eq_false]
        intro y hy q
        simp at q
        exact z (q ▸ hy)
      simp only [z2, Bool.false_eq_true, if_false]
      refine ⟨List.nodup_append.mpr ⟨a, by simp, fun p hp q hq => by simp at hq; rw [hq]; rintro rfl; exact z hp⟩, fun x => ?_⟩
      simp only [List.mem_append, List.mem_cons, List.not_mem_nil, or_false, b]
section
variable {X : Cx} {G : Cfgx} {W : WX} {k : Nat} {F H : Hp} {σ : L2.St} {S : List Slot} {T : Cnt}
theorem ints_of_reps {H : Hp} : ∀ {xs : List V} {ds : List D}, Reps G H xs ds → ds.all D.isInt = true → ∃ ns : List Int, ds = ns.map D.int ∧ xs = ns.map V.int
  | _, _, .nil, _ => ⟨[], rfl, rfl⟩
  | _, _, .cons r rs, h => by
    simp only [List.all_cons, Bool.and_eq_true] at h
    obtain ⟨ns, rfl, rfl⟩ := ints_of_reps rs h.2
    cases r with
    | int i => exact ⟨i :: ns, rfl, rfl⟩
    | _ => simp [D.isInt] at h
theorem keys_of_reps {pins : List (Addr × Obj)} {s : Shared} (I : Inv X pins σ H s) (hK : X.K = G.K) : ∀ {xs : List V} {ds : List D} {us : List Value}, Reps G H xs ds → ds.all isNK = true → Vals xs us →
    ∃ ks : List (Addr × NestedKey), ds = ks.map (fun p => nkD p.2) ∧ us = ks.map (fun p => Value.ref p.1) ∧ ∀ p ∈ ks, (nestedKind X.prog X.w).is s.heap p.2 p.1
  | _, _, _, .nil, _, r => by cases r; exact ⟨[], rfl, rfl, fun p hp => by cases hp⟩
  | _, _, _, .cons a rs, h, r => by
    simp only [List.all_cons, Bool.and_eq_true] at h
    cases r with
    | cons b r =>
      obtain ⟨ks, h1, h2, h3⟩ := keys_of_reps I hK rs h.2 r
      obtain ⟨c, e1, e2, k1, k2, _⟩ := key_at' I hK a b h.1
      refine ⟨(c, toNK _) :: ks, by rw [List.map_cons, ← h1, k2], by rw [List.map_cons, ← h2, e2], fun p hp => ?_⟩
      rcases List.mem_cons.mp hp with rfl | hp
      · exact k1
      · exact h3 p hp
def tLenSetD (G : Cfg) (K : PySem.W.Frag) (ta : TE) : TE := fun σ H Q => ta σ H fun x H1 => ∃ (l : Addr) (xs : List V) (ds : List D), x = V.ref l ∧ SqL K H1 l xs ∧ Reps G H1 xs ds ∧ setOk ds = true ∧ Q (.int (nubD [] ds).length) H1
theorem pe_lenSetD {a : Expr} {ta : TE} {p p2 q pos : Pos} (C : Cok X G W k) (hg : Gl X "len") (hm : X.mg "len" = none) (hg2 : Gl X "set") (hm2 : X.mg "set" = none) (ha : PE X a ta)
    (na : starEach [a] X.env = (false, eval a X.env) :: starEach [] X.env := by rfl) : PE X (.Call (.Name "len" p) [.Call (.Name "set" p2) [a] [] q] [] pos) (tLenSetD G X.K ta) := by
  refine ⟨fun pins s σ H Q I h => ?_⟩
  have un := C.room.units
  refine Call_ (ld_blt I hg hm PySem.boot_len (PyProof.Rows.callWith_builtin1 (PyProof.Rows.args_cons ?_ rfl) rfl rfl))
  refine Call_ (ld_blt I hg2 hm2 PyProof.Rows.boot_set (PyProof.Rows.callWith_type1 (PyProof.Rows.args_cons (thn (ha.run pins s σ H _ I h) fun v s1 ⟨x, H1, I1, r1, q1⟩ => PyProof.Rows.args_nil ?_) na) na rfl))
  obtain ⟨l, xs, ds, rfl, hq, hr, ok, q1⟩ := q1
  cases r1
  obtain ⟨its, r, pl, hz⟩ := I1.list hq
  unfold setOk at ok
  rcases Bool.or_eq_true_iff.mp ok with ok | ok
  · obtain ⟨ok, fit⟩ := Bool.and_eq_true_iff.mp ok
    have fit := of_decide_eq_true fit
    obtain ⟨ns, rfl, rfl⟩ := ints_of_reps hr ok
    have hl : its.toArray.size = ns.length := by rw [List.size_toArray, ← r.length, List.length_map]
    rw [List.length_map] at fit
    refine call_set_list (C.room.hd) pl.isList (ns := ns) (by simpa using r.ints) (by rw [hl]; unfold scanBound; omega) fun h2 tk sS keep => ?_
    rw [hl] at sS
    obtain ⟨m1, m2⟩ := firstMet_mem ns ns.length (Nat.le_refl _)
    refine PyProof.Rows.args_nil ?_
    obtain ⟨o, es, ep, t, og, ox, od, _, _, _, ft, en⟩ := sS
    have I2 : Inv X pins σ H1 { s1 with heap := h2, toks := tk } := I1.kept fun b o e => keep b o (Heap.lt_size e) e
    have e2 : (nubD [] (ns.map D.int)).length = es.size := by
      obtain ⟨a1, a2⟩ := nubG_ok ns [] List.nodup_nil
      have := nub_map D.int (fun a b => by simp [D.eqv, BEq.beq]) ns []
      rw [List.map_nil] at this
      rw [this, List.length_map, en]
      refine same_len a1 m1 fun x => (a2 x).trans ?_
      rw [m2, List.take_length]; simp
    have lim : es.size ≤ ns.length := by
      rw [en]
      exact firstMet_length_le _ _
    exact call_len_set og ox od ft (by omega) ⟨.int es.size, H1, I2.tok _, ⟨_, rfl⟩, by rw [← e2]; exact q1⟩
  · obtain ⟨ok, fit⟩ := Bool.and_eq_true_iff.mp ok
    have fit := of_decide_eq_true fit
    obtain ⟨ks, rfl, hus, hk⟩ := keys_of_reps I1 C.hK hr ok r
    rw [List.length_map] at fit
    refine call_setN shy_nested ks C.room.hd pl.isList (by simpa using hus) hk fit (by have := C.room.un; omega) fun h2 tk L es ep t sr g keep => ?_
    refine PyProof.Rows.args_nil ?_
    obtain ⟨o, og, ox, od⟩ := sr.here
    have I2 : Inv X pins σ H1 { s1 with heap := h2, toks := tk } := I1.kept keep
    have e1 := row_len sr.row
    have e2 : (nubD [] (ks.map fun p => nkD p.2)).length = es.size := by
      obtain ⟨a1, a2⟩ := nubG_ok (ks.map (·.2)) [] List.nodup_nil
      have := nub_map nkD nk_dec (ks.map (·.2)) []
      rw [List.map_nil, List.map_map] at this
      have this : nubD [] (ks.map fun p => nkD p.2) = (nubG [] (ks.map (·.2))).map nkD := this
      rw [this, List.length_map, e1, ← List.length_map (f := (·.2)) (as := L)]
      refine same_len a1 sr.one fun x => (a2 x).trans ⟨fun z => ?_, fun z => ?_⟩
      · rcases z with z | z
        · simp at z
        · obtain ⟨p, hp, rfl⟩ := List.mem_map.mp z
          exact g.to p (by rw [List.take_length]; exact hp)
      · obtain ⟨p, hp, rfl⟩ := List.mem_map.mp z
        exact .inr (List.mem_map.mpr ⟨p, List.mem_of_mem_take (g.of p hp), rfl⟩)
    have lim := g.le
    exact call_len_set og ox od (SR.fit (s := { s1 with heap := h2, toks := tk }) sr) (by omega) ⟨.int es.size, H1, I2.tok _, ⟨_, rfl⟩, by rw [← e2]; exact q1⟩
theorem tr_lenSet {a : Expr} {m : E} {p p2 q pos : Pos} (C : Cok X G W k) (h : TrE X G W a m) (hm : X.mg "len" = none) (hm2 : X.mg "set" = none) (hg : Gl X "len" := by rfl) (hg2 : Gl X "set" := by rfl)
    (na : starEach [a] X.env = (false, eval a X.env) :: starEach [] X.env := by rfl) : TrE X G W (.Call (.Name "len" p) [.Call (.Name "set" p2) [a] [] q] [] pos) (eUn fLenSet m) := by
  obtain ⟨t, pa, d⟩ := h
  refine ⟨_, pe_lenSetD C hg hm hg2 hm2 pa na, fun F H σ S T Q st z => d.dat F H σ S T _ st (PR.bind z fun y S1 z1 => ?_)⟩
  intro v F1 H1 T1 s1 st1 r1
  have z1 := PR.reE s1 z1
  cases e : fLenSet y with
  | none =>
    have z1 : PR G W F1 H1 σ T1 (KE G F1 H1 σ T1 Q) (ofO (fLenSet y) S1) := z1
    rw [e] at z1; exact z1.elim
  | some kd =>
    have z1 : PR G W F1 H1 σ T1 (KE G F1 H1 σ T1 Q) (ofO (fLenSet y) S1) := z1
    rw [e] at z1
    unfold fLenSet at e
    split at e
    · rename_i ds0
      split at e
      · rename_i ok
        cases e
        cases r1 with
        | lst hl rs =>
          exact ⟨_, _, _, rfl, by rw [C.hK]; exact .inl (.inl (st1.sub _ _ hl)), rs.mono st1.sub, ok, (show KE G F1 H1 σ T1 Q (.fz, .int _) S1 from z1) _ F1 H1 T1 nil0 ((Step.refl F1 H1 T1).castR fun a => rfl) st1 (.fz (.int _)) (fun a => st1.le a) fun _ _ => rfl⟩
      · cases e
    · cases e
end
end TB

/-! TbX1: small rules. -/
namespace TB
open PySem L2 PyProof.Rows
section
variable {X : Cx} {G : Cfgx} {W : WX} {k : Nat} {F H : Hp} {σ : L2.St} {S : List Slot} {T : Cnt}
theorem tr_badE {e : Expr} : TrE X G W e eBad := ⟨fun _ _ _ => False, ⟨fun _ _ _ _ _ _ h => h.elim⟩, fun _ _ _ _ _ _ _ z => z.elim⟩
theorem tr_badS {s : Stmt} : TrS X G W s sBad := ⟨fun _ _ _ => False, ⟨fun _ _ _ _ _ _ h => h.elim⟩, fun _ _ _ _ _ _ _ z => z.elim⟩
theorem tru_of (hK : X.K = G.K) {v : V} {d : D} {b : Bool} (st : St' G F H σ S T) (r : Rep G F v d) (e : truD d = some b) : TruV X.K v H b := by
  cases r with
  | non => cases e; rfl
  | bl b => cases e; rfl
  | int i => cases e; rfl
  | str z =>
    have e : (if z.cps.toList.length ≤ sizeMax then some ((z.cps.toList.length : Int) != 0) else none) = some b := e
    split at e
    · rename_i hz
      cases e
      have l2 : sizeLine = sizeMax := rfl
      have e2 : z.length = z.cps.toList.length := by simp [PySem.Str.length]
      exact ⟨by rw [e2, l2]; exact hz, by rw [e2]⟩
    · cases e
  | tup h rs =>
    cases e
    refine .inr (.inl ⟨_, hK ▸ same_t st.sub h, ?_⟩)
    cases rs <;> rfl
  | lst h rs =>
    cases e
    refine .inl ⟨_, .inl (.inl (st.sub _ _ h)), ?_⟩
    cases rs <;> rfl
  | _ => cases e
theorem tr_orV (C : Cok X G W k) {a b : Expr} {rest : List Expr} {ma mb : E} {pos : Pos} (ha : TrE X G W a ma) (hb : TrE X G W (.BoolOp .Or (b :: rest) pos) mb) : TrE X G W (.BoolOp .Or (a :: b :: rest) pos) (eOrV ma mb) := by
  obtain ⟨t, p, d⟩ := ha
  obtain ⟨u, q, e⟩ := hb
  refine ⟨_, pe_orT p q, fun F H σ S T Q st z => d.dat F H σ S T _ st (PR.bind z fun x S1 y => ?_)⟩
  intro v F1 H1 T1 s1 st1 r1
  cases ex : truD x with
  | none => simp only [ex] at y; exact y.elim
  | some b =>
    simp only [ex] at y
    refine ⟨b, tru_of C.hK st1 r1 ex, ?_⟩
    cases b with
    | true => exact KE.val (KE.re s1 (show KE G F H σ T Q (.fz, x) S1 from y)) st1 r1
    | false => exact e F1 H1 σ S1 T1 Q st1 (PR.reE s1 y)
theorem tr_andV (C : Cok X G W k) {a b : Expr} {rest : List Expr} {ma mb : E} {pos : Pos} (ha : TrE X G W a ma) (hb : TrE X G W (.BoolOp .And (b :: rest) pos) mb) : TrE X G W (.BoolOp .And (a :: b :: rest) pos) (eAndV ma mb) := by
  obtain ⟨t, p, d⟩ := ha
  obtain ⟨u, q, e⟩ := hb
  refine ⟨_, pe_andT p q, fun F H σ S T Q st z => d.dat F H σ S T _ st (PR.bind z fun x S1 y => ?_)⟩
  intro v F1 H1 T1 s1 st1 r1
  cases ex : truD x with
  | none => simp only [ex] at y; exact y.elim
  | some b =>
    simp only [ex] at y
    refine ⟨b, tru_of C.hK st1 r1 ex, ?_⟩
    cases b with
    | false => exact KE.val (KE.re s1 (show KE G F H σ T Q (.fz, x) S1 from y)) st1 r1
    | true => exact e F1 H1 σ S1 T1 Q st1 (PR.reE s1 y)
theorem den_pk2 (i : Nat) {op : CmpOp} {r : R2} {f : D → D → Option KD} {m : E} {t : TE} (ho : OpR X (compareOp op) r) (hs : S2 G r f) (d : DenE G W t m) : DenE G W (tOp r t (tVar i)) (ePk2 f m i) := fun F H σ S T Q st z => by
  refine d.dat F H σ S T _ st (PR.bind z fun y S1 z1 => ?_)
  intro v F1 H1 T1 s1 st1 r1
  have z1 := PR.reE s1 z1
  have z1 : PR G W F1 H1 σ T1 (KE G F1 H1 σ T1 Q) (match S1[i]? with
    | some (some (_, d)) => (match f y d with
      | some (_, r) => if r.flat = true then .ok (.fz, r) S1 else .bad
      | none => .bad)
    | _ => .bad) := z1
  cases e : S1[i]? with
  | none => rw [e] at z1; exact z1.elim
  | some sl =>
    rw [e] at z1
    cases sl with
    | none => exact z1.elim
    | some kd =>
      obtain ⟨kk, dd⟩ := kd
      simp only at z1
      obtain ⟨w, fw, hw, o, _⟩ := st1.sl.var e
      refine ⟨w, hw, ?_⟩
      cases ef : f y dd with
      | none => rw [ef] at z1; exact z1.elim
      | some q =>
        obtain ⟨k2, rr⟩ := q
        rw [ef] at z1
        simp only at z1
        split at z1
        · rename_i fl
          have z1 : KE G F1 H1 σ T1 Q (.fz, rr) S1 := z1
          refine hs H1 H1 σ (S1.map frz) nil0 v w y dd (k2, rr) Q (peek_world st1) (r1.mono st1.sub) (o.rep st1.sub) ef ?_
          intro v' F' H' T' f' s' st' o' le di
          have sHH : Same H1 H' := fun a u e => s'.fr a u rfl e
          have rep := o'.rep st'.sub
          exact z1 v' F1 H' T1 nil0 ⟨Same.refl F1, fun a u _ e => sHH a u e, fun a n => .inl n, fun a h n => absurd h n, s'.tl⟩ ⟨st1.pi, fun a u e => sHH _ _ (st1.sub _ _ e), st1.sl.mono (Same.refl F1) fun a u _ e => sHH a u e, st1.le, st1.di⟩ (.fz (flat_rep fl rep F1)) (fun a => st1.le a) fun _ _ => rfl
        · exact z1.elim
theorem tr_pk2 (i : Nat) {op : CmpOp} {r : R2} {f : D → D → Option KD} {a : Expr} {m : E} {x : PySem.Str} {p pos : Pos} (ho : OpR X (compareOp op) r) (hs : S2 G r f) (ha : TrE X G W a m) (hm : behindInMarks op (.Name x p) = false := by rfl)
    (hN : X.N[i]? = some x := by rfl) (hv : Vis X.env.scope x := by first | exact Or.inl rfl | exact Or.inr (Or.inl rfl) | exact Or.inr (Or.inr rfl)) (hd : (x == ("__debug__" : PySem.Str)) = false := by decide) (hcd : (x == ("__classdict__" : PySem.Str)) = false := by decide) :
    TrE X G W (.Compare a [op] [.Name x p] pos) (ePk2 f m i) := by
  obtain ⟨t, pa, d⟩ := ha
  exact ⟨_, pe_cmpR ho pa (pe_var hN hv hd hcd) hm, den_pk2 i ho hs d⟩
theorem eqv_anys (n m : Nat) (x : D) (hx : x.lay n = true) : ∀ ys : List D, D.lays m ys = true → ((toPys ys).any fun z => PyData.eqv z (toPy x)) = ys.any fun y => D.eqv y x
  | [], _ => rfl
  | y :: ys, h => by
    simp only [D.lays, Bool.and_eq_true] at h
    simp only [toPys, List.any_cons]
    rw [eqv_py m n y x h.1 hx, eqv_anys n m x hx ys h.2]
theorem in_coreN (hK : X.K = G.K) {x y : V} {dx : D} {ys : List D} (st : St' G F H σ S T) (rx : Rep G F x dx) (ry : Rep G F y (.lst ys)) (h : (dx.lay 60 && D.lays 60 ys) = true) :
    Dp X.K H x (toPy dx) ∧ Dp X.K H y (.list (toPys ys)) ∧ SeqAt.shaped (toPy dx) = true ∧ SeqAt.shaped (.list (toPys ys)) = true ∧ ((toPys ys).any fun z => PyData.eqv z (toPy dx)) = ys.any fun y => D.eqv y dx := by
  obtain ⟨h1, h2⟩ := Bool.and_eq_true_iff.mp h
  have h3 : (D.lst ys).lay 61 = true := by simpa [D.lay] using h2
  have e : toPy (.lst ys) = .list (toPys ys) := rfl
  obtain ⟨a1, a2⟩ := lay_py 60 dx h1
  obtain ⟨b1, b2⟩ := lay_py 61 (.lst ys) h3
  rw [e] at b1 b2
  refine ⟨hK ▸ dp_of 60 dx x h1 (rx.mono st.sub), hK ▸ dp_of 61 (.lst ys) y h3 (ry.mono st.sub), ?_, ?_, eqv_anys 60 60 dx h1 ys h2⟩
  · exact Bool.and_eq_true_iff.mpr ⟨a1, decide_eq_true (by omega)⟩
  · exact Bool.and_eq_true_iff.mpr ⟨b1, decide_eq_true (by omega)⟩
theorem cls_inN (hK : X.K = G.K) (hr : Room k X.A) : ∃ r, OpR X (compareOp .In) r ∧ S2 G r fInN := by
  refine ⟨_, op_inD (by have := hr.un; omega), fun F H σ S T x y dx dy kd Q st rx ry e k => ?_⟩
  unfold fInN at e
  split at e
  · split at e
    · rename_i h
      cases e
      obtain ⟨a, b, c, d, f⟩ := in_coreN hK st rx ry h
      exact ⟨_, _, a, b, c, d, by rw [f]; exact KE.val k st (.bl _)⟩
    · cases e
  · cases e
theorem cls_notInN (hK : X.K = G.K) (hr : Room k X.A) : ∃ r, OpR X (compareOp .NotIn) r ∧ S2 G r fNotInN := by
  refine ⟨_, op_notInD (by have := hr.un; omega), fun F H σ S T x y dx dy kd Q st rx ry e k => ?_⟩
  unfold fNotInN at e
  split at e
  · split at e
    · rename_i h
      cases e
      obtain ⟨a, b, c, d, f⟩ := in_coreN hK st rx ry h
      exact ⟨_, _, a, b, c, d, by rw [f]; exact KE.val k st (.bl _)⟩
    · cases e
  · cases e
/-! xs.index(x) -/
theorem eqVs_of {F : Hp} {x : V} {dx : D} (rx : Rep G F x dx) (hx : dx.flat = true) : ∀ {vs : List V} {ds : List D}, Reps G F vs ds → ds.all D.flat = true → ∀ (j : Nat) (z : V), vs[j]? = some z → ∃ dz, ds[j]? = some dz ∧ eqV z x = D.eqv dz dx
  | _, _, .nil, _, j, z, e => by simp at e
  | _, _, .cons r rs, h, j, z, e => by
    obtain ⟨h1, h2⟩ := Bool.and_eq_true_iff.mp (show (D.flat _ && List.all _ D.flat) = true from h)
    cases j with
    | zero => simp at e; subst e; exact ⟨_, rfl, eqV_of r rx h1 hx⟩
    | succ j => exact eqVs_of rx hx rs h2 j z (by simpa using e)
def idxL1 (b : E) (x : D) : E := match x with
  | .lst ys => M.bind (eDat b) fun y => ofO (fIndexL (.lst ys) y)
  | _ => eBad
def tIdxL (K : PySem.W.Frag) (to : TE) (t : TA) : TE := tBM K "list" (rIndex K) to t
theorem tr_indexL (C : Cok X G W k) {o e : Expr} {mo m : E} {apos cpos : Pos} (ho : TrE X G W o mo) (h : TrE X G W e m) (hbase : attributeBase o "index" X.env (eval o X.env) = eval o X.env := by rfl)
    (hfew : ((backTo cpos (starEach [e] X.env)).all (fun x => !x.1) && (backToKw cpos (keywordEach [] X.env)).all (fun x => x.1.isSome)
      && decide ([e].length + ([] : List Keyword).length + (if ([] : List Keyword).isEmpty then 0 else 1) < 30)) = true := by rfl)
    (hline : (apos.endLine == cpos.line) = true := by rfl) (hs : starEach [e] X.env = (false, eval e X.env) :: starEach [] X.env := by rfl) (hplain : (backTo cpos (starEach [] X.env)).any (·.1) = false := by rfl) :
    TrE X G W (.Call (.Attribute o "index" apos) [e] [] cpos) (eIndexL mo m) := by
  obtain ⟨t, p, d⟩ := ho
  obtain ⟨u, q, d2⟩ := h
  refine ⟨_, pe_bm F.plainAttrs_list F.slot_list_index F.type_list_index mt_index p (pa_cons q pa_nil hs) hbase hfew hline hs hplain, fun F H σ S T Q st z => d.dat F H σ S T _ st (PR.bind z fun x S1 z1 => ?_)⟩
  intro v F1 H1 T1 s1 st1 r1
  have z1 : PR G W F H σ T (KE G F H σ T Q) (idxL1 m x S1) := z1
  have hx : ∃ ys, x = .lst ys := by
    cases x with
    | lst ys => exact ⟨ys, rfl⟩
    | _ => exact z1.elim
  obtain ⟨ys, rfl⟩ := hx
  cases r1 with
  | @lst a vs _ hl rs =>
    refine ⟨.inl ⟨rfl, vs, .inl (.inl (st1.sub _ _ hl))⟩, ?_⟩
    refine d2.dat F1 H1 σ S1 T1 _ st1 (PR.bind (PR.reE s1 z1) fun y S2 z2 => ?_)
    intro w F2 H2 T2 s2 st2 r2
    have z2 := PR.reE s2 z2
    cases ef : fIndexL (.lst ys) y with
    | none =>
      have z2 : PR G W F2 H2 σ T2 (KE G F2 H2 σ T2 Q) (ofO (fIndexL (.lst ys) y) S2) := z2
      rw [ef] at z2; exact z2.elim
    | some kd =>
      have z2 : PR G W F2 H2 σ T2 (KE G F2 H2 σ T2 Q) (ofO (fIndexL (.lst ys) y) S2) := z2
      rw [ef] at z2
      unfold fIndexL at ef
      simp only at ef
      split at ef
      · rename_i hf
        obtain ⟨f1, f2⟩ := Bool.and_eq_true_iff.mp hf
        cases ei : ys.findIdx? fun z => D.eqv z y with
        | none => rw [ei] at ef; cases ef
        | some j =>
          rw [ei] at ef
          cases ef
          obtain ⟨hj, g1, g2⟩ := List.findIdx?_eq_some_iff_getElem.mp ei
          have rs2 := rs.mono s2.sF
          have lv : j < vs.length := by rw [rs2.len]; exact hj
          have at_ := fun i z e => eqVs_of r2 f1 rs2 f2 i z e
          refine ⟨a, vs, w, j, vs[j], rfl, rfl, .inl (.inl (st2.sub _ _ (s2.sF _ _ hl))), flatV_of r2 f1, flats_of rs2 f2, List.getElem?_eq_getElem lv, ?_, fun i z hi ez => ?_, KE.val (show KE G F2 H2 σ T2 Q (.fz, .int j) S2 from z2) st2 (.int _)⟩
          · obtain ⟨dz, e1, e2⟩ := at_ j _ (List.getElem?_eq_getElem lv)
            rw [e2]
            rw [List.getElem?_eq_getElem hj] at e1
            cases e1
            exact g1
          · obtain ⟨dz, e1, e2⟩ := at_ i z ez
            rw [e2]
            have := g2 i hi
            rw [List.getElem?_eq_getElem (by omega)] at e1
            cases e1
            simpa using this
      · cases ef
end
end TB

/-! TbX2: constants of the module that are tuples, tables; a comprehension that is frozen at once. -/
namespace TB
open PySem L2 PyProof.Rows
/-- a tuple of texts of the module -/
structure KTupS (K : PySem.W.Frag) (a : Addr) (ss : List (List Nat)) : Prop where
  at_ : ∃ (o : Obj) (its : Array Value) (n : Nat) (zs : List PySem.Str), K.lookup a = some o ∧ o.cls = .type "tuple" ∧ o.dict = none ∧ o.data = .seq its n ∧ its.size ≤ sizeLine ∧ Vals (zs.map V.str) its.toList ∧ zs.map (fun z => z.cps.toList) = ss
/-- a table of the module: texts, numbers -/
structure KTabI (K : PySem.W.Frag) (w : World) (a : Addr) (tb : List (List Nat × Int)) : Prop where
  at_ : ∃ es n, KDict K w a es n
  get : ∀ z : PySem.Str, ∃ r, PySem.W.nsIn K a z = some r ∧ match tb.find? (fun p => p.1 == z.cps.toList), r with
    | some p, some u => ∃ t, u = Value.int p.2 t
    | none, none => True
    | _, _ => False
/-! as the hook looks at them -/
def strVs : List Value → List (List Nat) → Bool
  | [], [] => true
  | .str y _ :: vs, s :: ss => decide (y.cps.toList = s) && strVs vs ss
  | _, _ => false
theorem strVs_ok : ∀ {vs : List Value} {ss : List (List Nat)}, strVs vs ss = true → ∃ zs : List PySem.Str, Vals (zs.map V.str) vs ∧ zs.map (fun z => z.cps.toList) = ss
  | [], [], _ => ⟨[], .nil, rfl⟩
  | .str y t :: vs, s :: ss, h => by
    simp only [strVs, Bool.and_eq_true, decide_eq_true_eq] at h
    obtain ⟨zs, a, b⟩ := strVs_ok h.2
    exact ⟨y :: zs, .cons ⟨t, rfl⟩ a, by simp [h.1, b]⟩
  | [], _ :: _, h => by simp [strVs] at h
  | .none :: _, _, h => by simp [strVs] at h
  | .str _ _ :: _, [], h => by simp [strVs] at h
  | .bool _ :: _, _, h => by simp [strVs] at h
  | .int _ _ :: _, _, h => by simp [strVs] at h
  | .float _ _ :: _, _, h => by simp [strVs] at h
  | .bytes _ _ :: _, _, h => by simp [strVs] at h
  | .ref _ :: _, _, h => by simp [strVs] at h
  | .type _ :: _, _, h => by simp [strVs] at h
  | .builtin _ :: _, _, h => by simp [strVs] at h
  | .ellipsis :: _, _, h => by simp [strVs] at h
  | .notImplemented :: _, _, h => by simp [strVs] at h
def tupSB (K : PySem.W.Frag) (a : Addr) (ss : List (List Nat)) : Bool := match K.lookup a with
  | some ⟨.type c, none, .seq its _, _⟩ => decide (c = "tuple") && (decide (its.size ≤ sizeLine) && strVs its.toList ss)
  | _ => false
theorem tupSB_ok {K : PySem.W.Frag} {a : Addr} {ss : List (List Nat)} (h : tupSB K a ss = true) : KTupS K a ss := by
  unfold tupSB at h
  split at h
  · rename_i c its n sl e
    simp only [Bool.and_eq_true, decide_eq_true_eq] at h
    obtain ⟨zs, h1, h2⟩ := strVs_ok h.2.2
    exact ⟨⟨_, its, n, zs, e, by rw [h.1], rfl, rfl, h.2.1, h1, h2⟩⟩
  · cases h
def tabVs : List DictEntry → List (List Nat × Int) → Bool
  | [], [] => true
  | e :: es, p :: ps => (match e.key, e.val with
    | .str y _, .int j _ => decide (y.cps.toList = p.1) && decide (j = p.2)
    | _, _ => false) && tabVs es ps
  | _, _ => false
theorem tabVs_ok : ∀ {es : List DictEntry} {ps : List (List Nat × Int)}, tabVs es ps = true → (∀ z : PySem.Str, match ps.find? (fun p => p.1 == z.cps.toList), es.find? (·.key.isStr z) with
    | some p, some e => ∃ t, e.val = Value.int p.2 t
    | none, none => True
    | _, _ => False) ∧ es.any (·.refKey) = false
  | [], [], _ => ⟨fun _ => trivial, rfl⟩
  | [], _ :: _, h => by simp [tabVs] at h
  | _ :: _, [], h => by simp [tabVs] at h
  | e :: es, p :: ps, h => by
    obtain ⟨h1, h2⟩ := Bool.and_eq_true_iff.mp h
    obtain ⟨r1, r2⟩ := tabVs_ok h2
    split at h1
    · rename_i y t j u ek ev
      simp only [Bool.and_eq_true, decide_eq_true_eq] at h1
      refine ⟨fun z => ?_, ?_⟩
      · have q : e.key.isStr z = (p.1 == z.cps.toList) := by
          rw [ek, ← h1.1]
          show (y == z) = _
          by_cases c : y = z
          · subst c; simp
          · rw [beq_eq_false_iff_ne.mpr c]
            refine (beq_eq_false_iff_ne.mpr fun g => c ?_).symm
            cases y; cases z
            have g2 := Array.toList_inj.mp g
            simp at g2
            rw [g2]
        rw [List.find?_cons, List.find?_cons, q]
        cases (p.1 == z.cps.toList) with
        | true => exact ⟨u, by rw [ev, h1.2]⟩
        | false => exact r1 z
      · rw [List.any_cons, r2, Bool.or_false]
        show DictEntry.refKey e = false
        unfold DictEntry.refKey
        rw [ek]
    · cases h1
def tabIB (K : PySem.W.Frag) (a : Addr) (tb : List (List Nat × Int)) : Bool := match K.lookup a with
  | some ⟨_, _, .dict es _, _⟩ => tabVs es.toList tb
  | _ => false
theorem tabIB_ok {K : PySem.W.Frag} {w : World} {a : Addr} {tb : List (List Nat × Int)} (h : tabIB K a tb = true) (hd : ∃ es n, KDict K w a es n) : KTabI K w a tb := by
  refine ⟨hd, fun z => ?_⟩
  obtain ⟨es, n, D⟩ := hd
  unfold tabIB at h
  rw [D.at_] at h
  obtain ⟨r1, r2⟩ := tabVs_ok h
  have := r1 z
  unfold PySem.W.nsIn
  rw [D.at_]
  dsimp only
  cases e : es.toList.find? (·.key.isStr z) with
  | some q =>
    rw [e] at this
    cases e2 : tb.find? (fun p => p.1 == z.cps.toList) with
    | none => rw [e2] at this; exact this.elim
    | some p => rw [e2] at this; exact ⟨some q.val, rfl, this⟩
  | none =>
    rw [e] at this
    cases e2 : tb.find? (fun p => p.1 == z.cps.toList) with
    | some p => rw [e2] at this; exact this.elim
    | none => exact ⟨none, by rw [r2]; rfl, trivial⟩
section
variable {X : Cx} {G : Cfgx} {W : WX} {k : Nat}
theorem tr_ctup (ss : List (List Nat)) {x : PySem.Str} {a : Addr} {pos : Pos} (C : Cok X G W k) (hm : X.mg x = some (.ref a)) (t : KTupS X.K a ss) (hg : Gl X x := by rfl) (hd : (x == ("__debug__" : PySem.Str)) = false := by decide) : TrE X G W (.Name x pos) (eCon (.tup (ss.map D.str))) := by
  obtain ⟨o, its, n, zs, h1, h2, h3, h4, h5, h6, h7⟩ := t.at_
  exact tr_glob (v := .ref a) hm rfl (fun F => .tup (.inr ⟨o, its, n, C.hK ▸ h1, h2, h4, h5, h6⟩) (by rw [← h7]; exact reps_strs zs)) hg hd
theorem tr_indexC (ss : List (List Nat)) {x : PySem.Str} {a : Addr} {e : Expr} {m : E} {p apos cpos : Pos} (C : Cok X G W k) (hm : X.mg x = some (.ref a)) (t : KTupS X.K a ss) (h : TrE X G W e m) (hg : Gl X x := by rfl) (hd : (x == ("__debug__" : PySem.Str)) = false := by decide)
    (hbase : attributeBase (.Name x p) "index" X.env (eval (.Name x p) X.env) = eval (.Name x p) X.env := by rfl)
    (hfew : ((backTo cpos (starEach [e] X.env)).all (fun x => !x.1) && (backToKw cpos (keywordEach [] X.env)).all (fun x => x.1.isSome)
      && decide ([e].length + ([] : List Keyword).length + (if ([] : List Keyword).isEmpty then 0 else 1) < 30)) = true := by rfl)
    (hline : (apos.endLine == cpos.line) = true := by rfl) (hs : starEach [e] X.env = (false, eval e X.env) :: starEach [] X.env := by rfl) (hplain : (backTo cpos (starEach [] X.env)).any (·.1) = false := by rfl) :
    TrE X G W (.Call (.Attribute (.Name x p) "index" apos) [e] [] cpos) (eUn (fIndexC ss) m) := by
  obtain ⟨o, its, n, zs, h1, h2, h3, h4, h5, h6, h7⟩ := t.at_
  obtain ⟨u, q, d2⟩ := h
  refine ⟨_, pe_bm F.plainAttrs_tuple F.slot_tuple_index F.type_tuple_index mt_tup_index (pe_glob (v := .ref a) hg hm rfl hd) (pa_cons q pa_nil hs) hbase hfew hline hs hplain, fun F H σ S T Q st z => ?_⟩
  refine ⟨.inr (.inl ⟨rfl, o, h1, h2, h3⟩), d2.dat F H σ S T _ st (PR.bind z fun y S1 z1 => ?_)⟩
  intro v F1 H1 T1 s1 st1 r1
  have z1 : PR G W F1 H1 σ T1 (KE G F1 H1 σ T1 Q) (ofO (fIndexC ss y) S1) := PR.reE s1 z1
  cases ef : fIndexC ss y with
  | none => rw [ef] at z1; exact z1.elim
  | some kd =>
    rw [ef] at z1
    cases r1 with
    | str z =>
      have ef : ((ss.findIdx? fun s => s == z.cps.toList).bind fun j => kz (.int j)) = some kd := ef
      cases ei : ss.findIdx? fun s => s == z.cps.toList with
      | none => rw [ei] at ef; cases ef
      | some j =>
        rw [ei] at ef
        cases ef
        obtain ⟨hj, g1, g2⟩ := List.findIdx?_eq_some_iff_getElem.mp ei
        have inj : ∀ a b : PySem.Str, a.cps.toList = b.cps.toList → a = b := fun a b g => by
          cases a; cases b
          have g := Array.toList_inj.mp g
          simp at g
          rw [g]
        have lz : j < zs.length := by
          have := congrArg List.length h7
          rw [List.length_map] at this
          omega
        have at_ : ∀ (i : Nat) (hi : i < zs.length) (hs : i < ss.length), ss[i] = (zs[i]).cps.toList := fun i hi hs => by
          subst h7; simp
        refine ⟨a, zs, z, j, rfl, rfl, .inr ⟨o, its, n, h1, h2, h4, h5, h6⟩, ?_, fun i hi e => ?_, KE.val (show KE G F1 H1 σ T1 Q (.fz, .int j) S1 from z1) st1 (.int _)⟩
        · rw [List.getElem?_eq_getElem lz]
          rw [at_ j lz hj] at g1
          rw [inj _ _ (eq_of_beq g1)]
        · obtain ⟨hi2, e⟩ := List.getElem?_eq_some_iff.mp e
          have := g2 i hi
          rw [at_ i hi2 (by omega), e] at this
          simp at this
    | _ => cases ef
def tKGet2 (K : PySem.W.Frag) (w : World) (a : Addr) (ty tx : TE) : TE := fun σ H Q => ty σ H fun y H2 => tx σ H2 fun z H3 => ∃ (k : PySem.Str) (r : Option Value), y = .str k ∧ PySem.W.nsIn K a k = some r ∧ match r with
  | some u => ∃ v, RelV v u ∧ Q v H3
  | none => Q z H3
theorem pe_kget2 {x : PySem.Str} {a : Addr} {es : Array DictEntry} {n : Nat} {e f : Expr} {p apos cpos : Pos} {ty tx : TE} (D : KDict X.K X.w a es n) (hm : X.mg x = some (.ref a)) (he : PE X e ty) (hf : PE X f tx) (m : M2 X (.Name x p) "get" apos e f cpos) (hg : Gl X x) (hd : (x == ("__debug__" : PySem.Str)) = false) :
    PE X (.Call (.Attribute (.Name x p) "get" apos) [e, f] [] cpos) (tKGet2 X.K X.w a ty tx) := by
  refine ⟨fun pins s σ H Q I h => ?_⟩
  refine wpAny_Call_method m.base m.few m.line PySem.F.plainAttrs_dict PySem.F.slot_dict_get PySem.F.type_dict_get (thn ((pe_glob (v := .ref a) hg hm rfl hd).run pins s σ H (fun x H1 => x = .ref a ∧ H1 = H) I ⟨rfl, rfl⟩) fun u s1 ⟨x, H1, I1, rx, ex, eH⟩ => ?_)
  subst ex eH
  obtain rfl : u = Value.ref a := rx
  have hmap := PySem.W.mapOf_K (prog := X.prog) (w := X.w) I1.kIn D.at_ D.lit
  refine ⟨hmap.typeIs, fun b q => ?_, ?_⟩
  · cases q
    exact ⟨_, I1.kIn _ _ D.at_, rfl⟩
  rw [m.trees]
  refine Calls.callWith_builtin rfl (Calls.evalArgs_plain (Calls.spliced_cons (thn (he.run pins s1 σ H1 _ I1 h) fun iv s2 ⟨y, H2, I2, ry, q2⟩ =>
    Calls.spliced_cons (thn (hf.run pins s2 σ H2 _ I2 q2) fun fv s3 ⟨z, H3, I3, rz, k, r, ek, er, q3⟩ => Calls.spliced_nil ?_))))
  subst ek
  obtain ⟨t, rfl⟩ := ry
  have hmap3 := PySem.W.mapOf_K (prog := X.prog) (w := X.w) I3.kIn D.at_ D.lit
  refine call_meetsIn PySem.F.slot_dict_get hmap3.typeIs PySem.F.entry_dict_get (PySem.F.args_dict_get_3 _ _ _) (meets_dict_get_default (PySem.strKind X.prog X.w) a (PySem.strKind_is X.prog X.w k t) D.low fv) ⟨_, hmap3, ?_⟩
  have e2 := PySem.W.find_K D.at_ er
  simp only [e2]
  cases r with
  | some u =>
    obtain ⟨v, rv, q3⟩ := q3
    exact ⟨v, H3, I3.tok _, rv, q3⟩
  | none => exact ⟨z, H3, I3.tok _, rz, q3⟩
theorem tr_getC (tb : List (List Nat × Int)) {x : PySem.Str} {a : Addr} {e f : Expr} {m n : E} {p apos cpos : Pos} (C : Cok X G W k) (hm : X.mg x = some (.ref a)) (t : KTabI X.K X.w a tb) (h : TrE X G W e m) (h2 : TrE X G W f n) (m2 : M2 X (.Name x p) "get" apos e f cpos := by exact ⟨rfl, rfl, rfl, rfl⟩) (hg : Gl X x := by rfl) (hd : (x == ("__debug__" : PySem.Str)) = false := by decide) :
    TrE X G W (.Call (.Attribute (.Name x p) "get" apos) [e, f] [] cpos) (eOp (fGetC tb) m n) := by
  obtain ⟨es, nn, D⟩ := t.at_
  obtain ⟨u, q, d⟩ := h
  obtain ⟨u2, q2, d2⟩ := h2
  refine ⟨_, pe_kget2 D hm q q2 m2 hg hd, fun F H σ S T Q st z => d.dat F H σ S T _ st (PR.bind z fun dx S1 z1 => ?_)⟩
  intro v F1 H1 T1 s1 st1 r1
  refine d2.dat F1 H1 σ S1 T1 _ st1 (PR.bind (PR.reE s1 z1) fun dy S2 z2 => ?_)
  intro w F2 H2 T2 s2 st2 r2
  have z2 : PR G W F2 H2 σ T2 (KE G F2 H2 σ T2 Q) (ofO (fGetC tb dx dy) S2) := PR.reE s2 z2
  cases r1 with
  | str z =>
    obtain ⟨r, e1, e2⟩ := t.get z
    have z2 : PR G W F2 H2 σ T2 (KE G F2 H2 σ T2 Q) (ofO (match tb.find? fun p => p.1 == z.cps.toList with
      | some p => kz (.int p.2)
      | none => kz dy) S2) := z2
    refine ⟨z, r, rfl, e1, ?_⟩
    cases ef : tb.find? fun p => p.1 == z.cps.toList with
    | some p =>
      rw [ef] at e2 z2
      cases r with
      | none => exact e2.elim
      | some u =>
        obtain ⟨t, rfl⟩ := e2
        exact ⟨.int p.2, ⟨t, rfl⟩, KE.val (show KE G F2 H2 σ T2 Q (.fz, .int p.2) S2 from z2) st2 (.int _)⟩
    | none =>
      rw [ef] at e2 z2
      cases r with
      | some u => exact e2.elim
      | none => exact KE.val (show KE G F2 H2 σ T2 Q (.fz, dy) S2 from z2) st2 r2
  | _ => exact z2.elim
theorem den_fr {t : TE} {m : E} (hd : DenE G W t m) : DenE G W t (eFr m) := fun F H σ S T Q st p => by
  refine hd F H σ S T Q st (PR.bind (f := fun kd => M.pure ((.fz, kd.2) : KD)) p fun kd S1 q => KDt.freeze fun v F' H' T' s' st' r => ?_)
  exact (show KE G F H σ T Q (.fz, kd.2) S1 from q) v F' H' T' nil0 (s'.castR fun a => rfl) st' (.fz r) (fun a => st'.le a) fun _ _ => rfl
theorem tr_setLcF (i : Nat) {y : PySem.Str} {py : Pos} {elt tg iter : Expr} {ifs : List Expr} {scope : Scope} {own : List (PySem.Str × Nat)} {pos spos : Pos} {it : It} {t : Tg} {c : T} {e : E} (C : Cok X G W k) (hi : TrI X G W tg iter it) (ok : BlkOk X.N X.env.scope scope own)
    (hg : ∀ (s : Shared) (H : Hp) (C : Addr) (cl : List (PySem.Str × Addr)) (fp : List Addr), TrG (X.blk s H scope (compEnvC scope cl C X.env) fp) G tg t)
    (ht : ∀ (s : Shared) (H : Hp) (C : Addr) (cl : List (PySem.Str × Addr)) (fp : List Addr), Cok (X.blk s H scope (compEnvC scope cl C X.env) fp) G W0 k → TrTs (X.blk s H scope (compEnvC scope cl C X.env) fp) G W0 ifs c)
    (he : ∀ (s : Shared) (H : Hp) (C : Addr) (cl : List (PySem.Str × Addr)) (fp : List Addr), Cok (X.blk s H scope (compEnvC scope cl C X.env) fp) G W0 k → TrE (X.blk s H scope (compEnvC scope cl C X.env) fp) G W0 elt e)
    (hsw : swapsWith (.ListComp elt [⟨tg, iter, ifs, 0⟩] scope pos) (some (.Name y py)) spos.line X.env = pure true)
    (hy : X.N[i]? = some y := by rfl) (hyl : X.env.scope.names.lookup y = some .local := by rfl) (hs : ∀ x, foldedSetIterable iter X.env x = pure x := by intro _; rfl) (hpn : (own.map (·.2)).all (fun v => !G.pk.contains v) = true := by rfl) (hp : G.pk.contains i = false := by rfl) :
    TrS X G W (.Assign [.Name y py] (.ListComp elt [⟨tg, iter, ifs, 0⟩] scope pos) spos) (sSet i (eFr (eLc it t (own.map (·.2)) c e))) := by
  obtain ⟨wi, p, d⟩ := hi
  have cb : ∀ (s : Shared) (H : Hp) (A : Addr) (cl : List (PySem.Str × Addr)) (fp : List Addr), Cok (X.blk s H scope (compEnvC scope cl A X.env) fp) G W0 k := fun s H A cl fp => ⟨C.hK, takes0, PassesOwn.never, C.calm, C.room, C.nd⟩
  refine ⟨_, ps_setLc C.calm C.nd hy hyl hsw p ok (fun s H A cl fp => (hg s H A cl fp).can) (fun s H A cl fp => ht s H A cl fp (cb s H A cl fp)) (fun s H A cl fp => (he s H A cl fp (cb s H A cl fp)).can) hs, fun F H σ S T D st z => den_fr (den_lc (W := W) (pins_ok hpn) d) F H σ S T _ st (PRs.bind z fun kd S1 y => ?_)⟩
  obtain ⟨kk, dd⟩ := kd
  intro v F' H' T' f s' st' o le di
  show D.nx (σ.set i (some v)) H'
  have y : PRs G W F H T (KS G F H T D) (if i < S1.length then .ok .nx (S1.set i (some (kk, dd))) else .bad) := y
  by_cases hl : i < S1.length
  · rw [if_pos hl] at y
    obtain ⟨T2, st2, l2⟩ := st'.set hl (pin_ok hp) o le di
    exact (show KS G F H T D .nx _ from y) _ F' H' T2 (s'.less l2) st2
  · rw [if_neg hl] at y; exact y.elim
end
end TB

/-! TbX3: sorted(d.items()). -/
namespace TB
open PySem L2 PyProof.Rows
def keyPy : Key → PyData
  | .inl i => .int i
  | .inr z => .str z
def pairPy (k : Key) (d : PyData) : PyData := .tuple [keyPy k, d]
theorem paired_nodup {α β γ : Type} {P : α → β → Prop} {f : β → γ} (inj : ∀ t b c, P t b → P t c → f b = f c) : ∀ {ts : List α} {bs : List β}, Paired P ts bs → (bs.map f).Nodup → ts.Nodup
  | _, _, .nil, _ => List.nodup_nil
  | _, _, .cons (a := t) (b := b) h r, n => by
    rw [List.map_cons, List.nodup_cons] at n
    refine List.nodup_cons.mpr ⟨fun m => n.1 ?_, paired_nodup inj r n.2⟩
    obtain ⟨j, c, e1, e2, e3⟩ := LiI.paired_ix r m
    exact List.mem_map.mpr ⟨c, List.mem_of_getElem? e2, inj _ _ _ e3 h⟩
theorem each_ix {α β : Type} {R : α → β → Prop} : ∀ {as : List α} {bs : List β}, as.length = bs.length → (∀ (j : Nat) a b, as[j]? = some a → bs[j]? = some b → R a b) → PySem.W.EachIs R as bs
  | [], [], _, _ => .nil
  | [], _ :: _, h, _ => by simp at h
  | _ :: _, [], h, _ => by simp at h
  | a :: as, b :: bs, h, f => .cons (f 0 a b rfl rfl) (each_ix (by simpa using h) fun j a b x y => f (j + 1) a b x y)
section
variable {X : Cx} {pins : List (Addr × Obj)} {σ : L2.St} {H : Hp} {s : Shared}
/-- pairs, a list of them, laid -/
theorem laid_many {h2 : Heap} {tk : Nat} {at1 : Addr} {ts : List Addr} {kvs : List (Key × V)} (I : Inv X pins σ H s) (hk : ∀ b o, s.heap.get? b = some o → h2.get? b = some o) (low : ∀ t, t = at1 ∨ t ∈ ts → s.heap.get? t = none ∧ H t = none) (Dn : at1 ∉ ts) (nd : ts.Nodup) (hz : ts.length ≤ sizeLine)
    (objD : ∃ its n, Vals (ts.map V.ref) its ∧ h2.get? at1 = some (seqObj "list" its.toArray n)) (objT : Paired (fun t (q : Key × V) => ∃ ku vu, RelV (kV q.1) ku ∧ RelV q.2 vu ∧ h2.get? t = some { cls := .type "tuple", data := .seq #[ku, vu] }) ts kvs) :
    ∃ H2 : Hp, (∀ b o, H b = some o → H2 b = some o) ∧ H2 at1 = some (.lst (ts.map V.ref)) ∧ Paired (fun t (q : Key × V) => H2 t = some (.tup [kV q.1, q.2])) ts kvs ∧ Inv X pins σ H2 { s with heap := h2, toks := tk } := by
  have pl : ts.length = kvs.length := Paired.length objT
  have newD : H at1 = none := (low _ (.inl rfl)).2
  have pt := LiI.putT_at ts kvs (upd H at1 (.lst (ts.map V.ref))) pl nd
  have off : ∀ b, b ∉ ts → b ≠ at1 → LiI.putT (upd H at1 (.lst (ts.map V.ref))) ts kvs b = H b := fun b x y => by rw [LiI.putT_off ts kvs _ x, upd_ne y]
  have kp : ∀ b u, H b = some u → LiI.putT (upd H at1 (.lst (ts.map V.ref))) ts kvs b = some u := fun b u e => by
    rw [off b (fun z => by rw [(low b (.inr z)).2] at e; cases e) (fun z => by rw [z, newD] at e; cases e)]; exact e
  have eD : LiI.putT (upd H at1 (.lst (ts.map V.ref))) ts kvs at1 = some (.lst (ts.map V.ref)) := by rw [LiI.putT_off ts kvs _ Dn, upd_same]
  refine ⟨LiI.putT (upd H at1 (.lst (ts.map V.ref))) ts kvs, kp, eD, pt, ?_⟩
  refine I.call' (ch := []) rfl ⟨fun b o q _ _ _ => hk b o q, fun b o q _ _ _ => ⟨o.slots, hk b o q⟩, fun b o q n _ => ?_, fun b o q _ => ⟨o, hk b o q⟩, fun b xs q => kp b _ q, fun b o u q => kp b _ q, fun b ps q => ⟨#[], by rw [kp b _ q]; simp⟩⟩ (fun b u q => ?_) I.bare fun b z => by simp at z
  · rw [off b (fun z => by have := (low b (.inr z)).1; rw [q] at this; cases this) (fun z => by have := (low b (.inl z)).1; rw [q] at this; cases this)]
    exact n
  · by_cases hb : b ∈ ts
    · obtain ⟨j, pk, e1, e2, e3⟩ := LiI.paired_ix pt hb
      rw [e3] at q
      cases q
      obtain ⟨q2, g1, ku, vu, r1, r2, g⟩ := LiI.paired_get objT e1
      rw [e2] at g1
      cases g1
      exact ⟨by show 2 ≤ sizeLine; decide, [ku, vu], .cons r1 (.cons r2 .nil), ⟨_, g, rfl, _, rfl⟩⟩
    · by_cases hb2 : b = at1
      · rw [hb2] at q ⊢
        rw [eD] at q
        cases q
        obtain ⟨its, n, r, g⟩ := objD
        exact ⟨by rw [List.length_map]; exact hz, its, n, r, g⟩
      · rw [off b hb hb2] at q
        exact (I.hok b u q).stay (fun d v _ y => hk d v y) (fun d y => kp d _ y) fun d xs y => kp d _ y
end
section
variable {X : Cx} {G : Cfgx} {W : WX} {k : Nat}
def tSortItems (K : PySem.W.Frag) (te : TE) : TE := fun σ H Q => te σ H fun x H1 => ∃ (d : Addr) (bs : List ((Key × V) × PyData)), x = V.ref d ∧ Rd H1 d (.dK (bs.map (·.1))) ∧ (∀ b ∈ bs, ∃ dv, Dp K H1 b.1.2 dv ∧ b.2 = pairPy b.1.1 dv) ∧ PySem.W.AllAlike (bs.map (·.2)) ∧ (∀ b ∈ bs, b.2.depth ≤ 60) ∧
  ∀ (H2 : Hp) (p : Addr) (ts : List Addr), (∀ b o, H1 b = some o → H2 b = some o) → H1 p = none → H2 p = some (.lst (ts.map V.ref)) → Paired (fun (t : Addr) (q : Key × V) => H2 t = some (.tup [kV q.1, q.2])) ts ((bs.mergeSort (PySem.W.dataLe false (·.2))).map (·.1)) → Q (.ref p) H2
theorem key_reads {h : Heap} {kx : Key} {u : Value} (r : RelV (kV kx) u) : Reads h u (keyPy kx) [] := by
  cases kx with
  | inl i => obtain ⟨t, rfl⟩ := r; exact .int i t
  | inr z => obtain ⟨t, rfl⟩ := r; exact .str z t
theorem key_inj {a b : Key} {u : Value} (r : RelV (kV a) u) (q : RelV (kV b) u) : a = b := by
  cases a with
  | inl i =>
    obtain ⟨t, rfl⟩ := r
    cases b with
    | inl j => obtain ⟨t', e⟩ := q; cases e; rfl
    | inr z => obtain ⟨t', e⟩ := q; cases e
  | inr z =>
    obtain ⟨t, rfl⟩ := r
    cases b with
    | inl j => obtain ⟨t', e⟩ := q; cases e
    | inr y => obtain ⟨t', e⟩ := q; cases e; rfl
theorem pe_sortItems {e : Expr} {te : TE} {p apos cpos pos : Pos} (C : Cok X G W k) (he : PE X e te) (hg : Gl X "sorted") (hm : X.mg "sorted" = none) (hbase : attributeBase e "items" X.env (eval e X.env) = eval e X.env := by rfl) (hline : (apos.endLine == cpos.line) = true := by rfl)
    (hs : starEach [.Call (.Attribute e "items" apos) [] [] cpos] X.env = (false, eval (.Call (.Attribute e "items" apos) [] [] cpos) X.env) :: starEach [] X.env := by rfl) :
    PE X (.Call (.Name "sorted" p) [.Call (.Attribute e "items" apos) [] [] cpos] [] pos) (tSortItems X.K te) := by
  refine ⟨fun pins s σ H Q I hq => ?_⟩
  have un := C.room.un
  refine Call_ (ld_blt I hg hm (by rfl : bootBuiltins "sorted" = some (.builtin "sorted")) (PyProof.Rows.callWith_builtin1 (PyProof.Rows.args_cons ?_ hs) hs rfl))
  refine wpAny_Call_method (T := "dict") (id := "dict.items") hbase rfl hline F.plainAttrs_dict F.slot_dict_items F.type_dict_items (thn (he.run pins s σ H _ I hq) fun u s1 ⟨x, H1, I1, rx, d, bs, ex, hd, hv, hal, hdp, q⟩ => ?_)
  subst ex
  obtain rfl : u = Value.ref d := rx
  obtain ⟨hz, hlow, vs, kv, hdo⟩ := dk_rd I1.hok hd
  rw [List.length_map] at hz
  obtain ⟨es, ep, raw, esz, eat⟩ := hdo.raw
  have lk : bs.length = vs.length := by have := Paired.length kv; rwa [List.length_map] at this
  refine ⟨hdo.typeIs, hdo.mapOf.noDict, ?_⟩
  refine method_meetsIn F.slot_dict_items F.entry_dict_items rfl (PySem.evalArgs_none ⟨rfl, hdo.typeIs, F.args_dict_items_1 _, _, meets_dict_items (mixKind X.prog X.w) d hlow, ⟨vs, hdo⟩, ?_⟩)
  refine PyProof.Rows.args_nil ?_
  have I2 : Inv X pins σ H1 { s1 with heap := s1.heap.push { cls := .type "dict_items", data := .fields #[.ref d] } } := I1.kept (t' := s1.toks) fun b ob q => Heap.get?_push_of_some _ q
  refine Calls.call_function_entry kind_sorted plain_sorted entry_sorted (args_sorted1 _) ?_
  unfold Builtin.«sorted»
  refine wpAny_bind (m := checkCount "sorted" 1 1 _) (wpAny_pure ?_)
  refine wpAny_bind (PySem.W.dil_collect (A := X.A.in1) (es := es) (ep := ep) (d := d) C.room.hd ⟨_, Heap.get?_push_size _ rfl, rfl, rfl⟩ (raw.push _) (by omega) fun h2 tk as keep al g => ?_)
  have keep1 : ∀ b o, s1.heap.get? b = some o → h2.get? b = some o := fun b o e => keep b o (Heap.get?_push_of_some _ e)
  have all : as.length = bs.length := by omega
  refine wpAny_bind (wpAny_newList ?_ (by rw [List.length_map]; omega))
  -- what stands at the pairs
  have ent : ∀ (j : Nat) a b, as[j]? = some a → bs[j]? = some b → ∃ ku vu, RelV (kV b.1.1) ku ∧ RelV b.1.2 vu ∧ h2.get? a = some { cls := .type "tuple", data := .seq #[ku, vu] } := fun j a b ea eb => by
    obtain ⟨hj, ga⟩ := g.pairs j a ea
    have ek : (bs.map (·.1))[j]? = some b.1 := by rw [List.getElem?_map, eb]; rfl
    obtain ⟨qv, g1, g2, g3⟩ := LiI.paired_get kv ek
    obtain ⟨k1, k2⟩ := eat j hj qv.1 qv.2 g1
    exact ⟨es[j].key, es[j].val, by rw [g2]; exact relV_key (show keyIs qv.1 es[j].key = true from k1), by rw [k2]; exact g3, ga⟩
  let R0 : Value → (Key × V) × PyData → Prop := fun u b => ∃ a ku vu, u = Value.ref a ∧ a ∈ as ∧ RelV (kV b.1.1) ku ∧ RelV b.1.2 vu ∧ h2.get? a = some { cls := .type "tuple", data := .seq #[ku, vu] }
  have e1 : PySem.W.EachIs R0 (as.map Value.ref) bs := each_ix (by rw [List.length_map]; exact all) fun j u b eu eb => by
    rw [List.getElem?_map] at eu
    cases ea : as[j]? with
    | none => rw [ea] at eu; cases eu
    | some a =>
      rw [ea] at eu
      cases eu
      obtain ⟨ku, vu, r1, r2, r3⟩ := ent j a b ea eb
      exact ⟨a, ku, vu, rfl, List.mem_of_getElem? ea, r1, r2, r3⟩
  have ho : (h2.push { cls := .type "list", data := .seq (as.map Value.ref).toArray }).get? h2.objs.size = some (seqObj "list" (as.map Value.ref).toArray 0) := Heap.get?_push_size _ rfl
  have e2 : PySem.W.EachIs (fun u (b : (Key × V) × PyData) => ∃ ls, Reads (h2.push { cls := .type "list", data := .seq (as.map Value.ref).toArray }) u b.2 ls ∧ h2.objs.size ∉ ls) (as.map Value.ref) bs := each_ix (by rw [List.length_map]; exact all) fun j u b eu eb => by
    rw [List.getElem?_map] at eu
    cases ea : as[j]? with
    | none => rw [ea] at eu; cases eu
    | some a =>
      rw [ea] at eu
      cases eu
      obtain ⟨ku, vu, r1, r2, r3⟩ := ent j a b ea eb
      obtain ⟨dv, hdv, eb2⟩ := hv b (List.mem_of_getElem? eb)
      obtain ⟨ls, rd⟩ := Dp.reads I1 dv _ _ hdv r2
      have rd2 := PyProof.Rows.Reads.keeps keep1 rd
      have rt : Reads h2 (.ref a) b.2 ([] ++ (ls ++ [])) := by rw [eb2]; exact .tuple r3 rfl rfl (.cons (key_reads r1) (.cons rd2 .nil))
      exact ⟨_, PyProof.Rows.Reads.keeps (fun _ _ e => Heap.get?_push_of_some _ e) rt, fun m => absurd (reads_lt rt _ m) (Nat.lt_irrefl _)⟩
  have tup : PySem.W.Sortable (bs.map (·.2)) := .inl fun y hy => by
    obtain ⟨b, hb, rfl⟩ := List.mem_map.mp hy
    obtain ⟨dv, _, eb2⟩ := hv b hb
    exact ⟨keyPy b.1.1, [dv], eb2⟩
  refine wpAny_bind (wpAny_holding (PySem.W.list_sort_data (enc := fun b : (Key × V) × PyData => b.2) (n := 0) ho e1 e2 hal tup (by omega) (fun b hb => by have := hdp b hb; show X.A.units + 1 + 1 + _ < _; omega) fun out hout heach => ?_))
  obtain ⟨n, hn⟩ := sortedHeap_at (out := List.toArray out) ho
  -- the pairs in their order
  have tsx : ∀ {us : List Value} {cs : List ((Key × V) × PyData)}, PySem.W.EachIs R0 us cs → ∃ ts : List Addr, us = ts.map Value.ref ∧ (∀ t ∈ ts, t ∈ as) ∧ Paired (fun t (c : (Key × V) × PyData) => ∃ ku vu, RelV (kV c.1.1) ku ∧ RelV c.1.2 vu ∧ h2.get? t = some { cls := .type "tuple", data := .seq #[ku, vu] }) ts cs := by
    intro us cs ee
    induction ee with
    | nil => exact ⟨[], rfl, (fun t ht => by cases ht), .nil⟩
    | cons r _ ih =>
      obtain ⟨ts, i1, i2, i3⟩ := ih
      obtain ⟨a, ku, vu, rfl, am, r1, r2, r3⟩ := r
      exact ⟨a :: ts, by rw [i1]; rfl, (fun t ht => by
        rcases List.mem_cons.mp ht with rfl | ht
        · exact am
        · exact i2 t ht), .cons ⟨ku, vu, r1, r2, r3⟩ i3⟩
  obtain ⟨ts, o1, o2, o3⟩ := tsx heach
  have above : ∀ t ∈ as, s1.heap.objs.size < t := fun t ht => by
    have := g.above t ht
    rw [Heap.size_push] at this
    exact Nat.lt_trans (Nat.lt_succ_self _) this
  have lt2 : ∀ t ∈ as, t < h2.objs.size := fun t ht => g.there ht
  have none_of : ∀ b, s1.heap.objs.size ≤ b → s1.heap.get? b = none := fun b hb => by
    cases q : s1.heap.get? b with
    | none => rfl
    | some o => exact absurd (Nat.lt_of_lt_of_le (Heap.lt_size q) hb) (Nat.lt_irrefl _)
  have big : s1.heap.objs.size ≤ h2.objs.size := Nat.le_of_lt (Heap.lt_size (keep _ _ (Heap.get?_push_size s1.heap rfl)))
  have fin : ∀ b o, h2.get? b = some o → (sortedHeap (h2.push { cls := .type "list", data := .seq (as.map Value.ref).toArray }) h2.objs.size (as.map Value.ref) (List.toArray out)).get? b = some o := fun b o e => by
    rw [sortedHeap_old (Nat.ne_of_lt (Heap.lt_size e)) (by rw [size_push']; exact Nat.lt_succ_of_lt (Heap.lt_size e))]
    exact Heap.get?_push_of_some _ e
  have kn : ((bs.mergeSort (PySem.W.dataLe false (·.2))).map fun b => b.1.1).Nodup := by
    have p1 := (List.mergeSort_perm bs (PySem.W.dataLe false (·.2))).map fun b => b.1.1
    refine p1.nodup_iff.mpr ?_
    obtain ⟨_, _, _, _, _, _, _, _, nd⟩ := hdo
    have : bs.map (fun b => b.1.1) = vs.map (·.1) := by
      have e : ∀ {as : List (Key × V)} {vs : List (Key × Value)}, KV as vs → as.map (·.1) = vs.map (·.1) := by
        intro as vs r
        unfold KV at r
        induction r with
        | nil => rfl
        | cons a _ ih => rw [List.map_cons, List.map_cons, ih, a.1]
      have := e kv
      rwa [List.map_map] at this
    rw [this]; exact nd
  have nd : ts.Nodup := paired_nodup (f := fun c : (Key × V) × PyData => c.1.1) (fun t b c ⟨ku, vu, r1, _, r3⟩ ⟨ku2, vu2, q1, _, q3⟩ => by
    rw [r3] at q3
    injection q3 with q3
    injection q3 with _ _ q3 _
    injection q3 with q3 _
    have : ku = ku2 := by
      have := congrArg (fun a : Array Value => a[0]?) q3
      simpa using this
    subst this
    exact key_inj r1 q1) o3 kn
  have objT : Paired (fun t (q : Key × V) => ∃ ku vu, RelV (kV q.1) ku ∧ RelV q.2 vu ∧ (sortedHeap (h2.push { cls := .type "list", data := .seq (as.map Value.ref).toArray }) h2.objs.size (as.map Value.ref) (List.toArray out)).get? t = some { cls := .type "tuple", data := .seq #[ku, vu] }) ts ((bs.mergeSort (PySem.W.dataLe false (·.2))).map (·.1)) := by
    have e : ∀ {ts : List Addr} {cs : List ((Key × V) × PyData)}, Paired (fun t (c : (Key × V) × PyData) => ∃ ku vu, RelV (kV c.1.1) ku ∧ RelV c.1.2 vu ∧ h2.get? t = some { cls := .type "tuple", data := .seq #[ku, vu] }) ts cs →
        Paired (fun t (q : Key × V) => ∃ ku vu, RelV (kV q.1) ku ∧ RelV q.2 vu ∧ (sortedHeap (h2.push { cls := .type "list", data := .seq (as.map Value.ref).toArray }) h2.objs.size (as.map Value.ref) (List.toArray out)).get? t = some { cls := .type "tuple", data := .seq #[ku, vu] }) ts (cs.map (·.1)) := by
      intro ts cs r
      induction r with
      | nil => exact .nil
      | cons a _ ih =>
        obtain ⟨ku, vu, r1, r2, r3⟩ := a
        exact .cons ⟨ku, vu, r1, r2, fin _ _ r3⟩ ih
    exact e o3
  have tl : ts.length ≤ sizeLine := by
    have := Paired.length o3
    rw [List.length_mergeSort] at this
    omega
  obtain ⟨H2, w1, w2, w3, J⟩ := laid_many (tk := tk) (at1 := h2.objs.size) I1 (fun b o e => fin b o (keep1 b o e)) (fun t ht => by
      have le : s1.heap.objs.size ≤ t := by
        rcases ht with rfl | ht
        · exact big
        · exact Nat.le_of_lt (above t (o2 t ht))
      exact ⟨none_of t le, I1.hok.fresh le⟩) (fun m => absurd (lt2 _ (o2 _ m)) (Nat.lt_irrefl _)) nd tl ⟨out, n, by rw [o1]; exact LiI.vals_refs ts, hn⟩ objT
  exact wpAny_pure ⟨_, rfl, .ref h2.objs.size, H2, J, rfl, q H2 _ ts w1 (I1.hok.fresh big) w2 w3⟩

theorem kv_items {F : Hp} : ∀ {kvs : List (Key × V)} {kds : List (D × D)}, kds.map (·.1) = kvs.map (fun p => keyD p.1) → Reps G F (kvs.map (·.2)) (kds.map (·.2)) → kds.length = kvs.length ∧ ∀ p ∈ kvs.zip kds, p.2.1 = keyD p.1.1 ∧ Rep G F p.1.2 p.2.2
  | [], [], _, _ => ⟨rfl, fun p h => by simp at h⟩
  | [], _ :: _, h, _ => by simp at h
  | _ :: _, [], h, _ => by simp at h
  | a :: kvs, b :: kds, h, r => by
    obtain ⟨h1, h2⟩ := List.cons.inj (show b.1 :: kds.map (·.1) = keyD a.1 :: kvs.map (fun p => keyD p.1) from h)
    cases r with
    | cons r1 r2 =>
      obtain ⟨l, f⟩ := kv_items h2 r2
      refine ⟨by simp [l], fun p hp => ?_⟩
      rw [List.zip_cons_cons] at hp
      rcases List.mem_cons.mp hp with rfl | hp
      · exact ⟨h1, r1⟩
      · exact f p hp
theorem rep_key {F : Hp} (kx : Key) : Rep G F (kV kx) (keyD kx) := by
  cases kx with
  | inl i => exact .int i
  | inr z => exact .str z
theorem py_key (kx : Key) : toPy (keyD kx) = keyPy kx := by
  cases kx with
  | inl i => rfl
  | inr z =>
    show PyData.str _ = PyData.str _
    congr 1
theorem reps_pairs {F : Hp} : ∀ {ts : List Addr} {zs : List ((Key × V) × (D × D))}, Paired (fun (t : Addr) (q : Key × V) => F t = some (.tup [kV q.1, q.2])) ts (zs.map (·.1)) → (∀ p ∈ zs, p.2.1 = keyD p.1.1 ∧ Rep G F p.1.2 p.2.2) → Reps G F (ts.map V.ref) (zs.map fun p => pairD p.2)
  | [], [], _, _ => .nil
  | [], _ :: _, h, _ => by cases h
  | _ :: _, [], h, _ => by cases h
  | t :: ts, z :: zs, h, f => by
    cases h with
    | cons h1 h2 =>
      obtain ⟨e1, e2⟩ := f z List.mem_cons_self
      refine .cons (.tup (.inl (.inl h1)) (.cons ?_ (.cons e2 .nil))) (reps_pairs h2 fun p hp => f p (List.mem_cons_of_mem _ hp))
      rw [e1]; exact rep_key _
theorem paired_mono {α β : Type} {P Q : α → β → Prop} (h : ∀ a b, P a b → Q a b) : ∀ {as : List α} {bs : List β}, Paired P as bs → Paired Q as bs
  | _, _, .nil => .nil
  | _, _, .cons a r => .cons (h _ _ a) (paired_mono h r)
mutual
theorem lay_up : ∀ (n : Nat) (d : D), d.lay n = true → d.lay (n + 1) = true
  | _, .non, _ => by simp [D.lay]
  | _, .bl _, _ => by simp [D.lay]
  | _, .int _, _ => by simp [D.lay]
  | _, .str s, h => by
    have h : s.all (· < 1114112) = true := by simpa [D.lay] using h
    simpa [D.lay] using h
  | n + 1, .lst xs, h => by
    have h : D.lays n xs = true := by simpa [D.lay] using h
    show D.lays (n + 1) xs = true
    exact lays_up n xs h
  | n + 1, .tup xs, h => by
    have h : D.lays n xs = true := by simpa [D.lay] using h
    show D.lays (n + 1) xs = true
    exact lays_up n xs h
  | 0, .lst _, h => by simp [D.lay] at h
  | 0, .tup _, h => by simp [D.lay] at h
  | _, .scr _, h => by simp [D.lay] at h
  | _, .dic _, h => by simp [D.lay] at h
  | _, .dit _, h => by simp [D.lay] at h
  | _, .ob _ _, h => by simp [D.lay] at h
  | _, .fn _, h => by simp [D.lay] at h
theorem lays_up : ∀ (n : Nat) (ds : List D), D.lays n ds = true → D.lays (n + 1) ds = true
  | _, [], _ => by simp [D.lays]
  | n, x :: xs, h => by
    simp only [D.lays, Bool.and_eq_true] at h
    simp only [D.lays, Bool.and_eq_true]
    exact ⟨lay_up n x h.1, lays_up n xs h.2⟩
end
theorem tr_sortItems {e : Expr} {m : E} {p apos cpos pos : Pos} (C : Cok X G W k) (h : TrE X G W e m) (hm : X.mg "sorted" = none) (hg : Gl X "sorted" := by rfl) (hbase : attributeBase e "items" X.env (eval e X.env) = eval e X.env := by rfl) (hline : (apos.endLine == cpos.line) = true := by rfl)
    (hs : starEach [.Call (.Attribute e "items" apos) [] [] cpos] X.env = (false, eval (.Call (.Attribute e "items" apos) [] [] cpos) X.env) :: starEach [] X.env := by rfl) :
    TrE X G W (.Call (.Name "sorted" p) [.Call (.Attribute e "items" apos) [] [] cpos] [] pos) (eUn fSortItems m) := by
  obtain ⟨t, q, d⟩ := h
  refine ⟨_, pe_sortItems C q hg hm hbase hline hs, fun F H σ S T Q st z => d.dat F H σ S T _ st (PR.bind z fun y S1 z1 => ?_)⟩
  intro v F1 H1 T1 s1 st1 r1
  have z1 : PR G W F1 H1 σ T1 (KE G F1 H1 σ T1 Q) (ofO (fSortItems y) S1) := PR.reE s1 z1
  cases r1 with
  | @dK a kvs kds hd hk hr =>
    have z1 : PR G W F1 H1 σ T1 (KE G F1 H1 σ T1 Q) (ofO (if (alkAll (kds.map pairD) && D.lays 60 (kds.map pairD)) = true then some (.li .fz, .lst (sortD (kds.map pairD))) else none) S1) := z1
    split at z1
    · rename_i hz
      have z1 : KE G F1 H1 σ T1 Q (.li .fz, .lst (sortD (kds.map pairD))) S1 := z1
      obtain ⟨h2, h3⟩ := Bool.and_eq_true_iff.mp hz
      obtain ⟨hl, hf⟩ := kv_items hk hr
      let zs := kvs.zip kds
      let enc : (Key × V) × (D × D) → (Key × V) × PyData := fun p => (p.1, toPy (pairD p.2))
      have ez1 : zs.map (·.1) = kvs := zip_fst hl.symm
      have ez2 : zs.map (·.2) = kds := zip_snd hl.symm
      have eb1 : (zs.map enc).map (·.1) = kvs := by rw [List.map_map]; exact ez1
      have eb2 : (zs.map enc).map (·.2) = (kds.map pairD).map toPy := by
        have : (zs.map enc).map (·.2) = ((zs.map (·.2)).map pairD).map toPy := by rw [List.map_map, List.map_map, List.map_map]; rfl
        rw [this, ez2]
      have inz : ∀ p ∈ zs, pairD p.2 ∈ kds.map pairD := fun p hp => List.mem_map.mpr ⟨p.2, by rw [← ez2]; exact List.mem_map.mpr ⟨p, hp, rfl⟩, rfl⟩
      refine ⟨a, zs.map enc, rfl, by rw [eb1]; exact same_rd st1.sub hd, ?_, ?_, ?_, fun H2 pp ts keep hp hl2 pt => ?_⟩
      · intro b hb
        obtain ⟨p, hp, rfl⟩ := List.mem_map.mp hb
        obtain ⟨e1, e2⟩ := hf p hp
        have ly := lays_mem h3 _ (inz p hp)
        have lv : p.2.2.lay 60 = true := by
          have ly : (D.tup [p.2.1, p.2.2]).lay 60 = true := ly
          simp only [D.lay, D.lays, Bool.and_eq_true] at ly
          exact lay_up 59 _ ly.2.1
        refine ⟨toPy p.2.2, C.hK ▸ dp_of 60 _ _ lv (e2.mono st1.sub), ?_⟩
        show toPy (.tup [p.2.1, p.2.2]) = _
        rw [e1]
        show PyData.tuple [toPy (keyD _), toPy _] = _
        rw [py_key]; rfl
      · rw [eb2]
        intro d hd d' hd'
        obtain ⟨x, hx, rfl⟩ := List.mem_map.mp hd
        obtain ⟨y, hyy, rfl⟩ := List.mem_map.mp hd'
        exact alk_py x y (alkAll_ok h2 x hx y hyy)
      · intro b hb
        obtain ⟨p, hp, rfl⟩ := List.mem_map.mp hb
        exact (lay_py 60 _ (lays_mem h3 _ (inz p hp))).2
      · have m1 : (zs.mergeSort fun p q => leD (pairD p.2) (pairD q.2)).map enc = (zs.map enc).mergeSort (PySem.W.dataLe false (·.2)) := by
          refine List.map_mergeSort fun p hp q hq => ?_
          rw [PySem.W.dataLe_eq]
          show leD (pairD p.2) (pairD q.2) = !PySem.W.dataLt (toPy (pairD q.2)) (toPy (pairD p.2))
          rw [lt_py 60 60 _ _ (alkAll_ok h2 _ (inz q hq) _ (inz p hp)) (lays_mem h3 _ (inz q hq)) (lays_mem h3 _ (inz p hp))]
          rfl
        have m2 : (zs.mergeSort fun p q => leD (pairD p.2) (pairD q.2)).map (fun p => pairD p.2) = sortD (kds.map pairD) := by
          have := List.map_mergeSort (r := fun p q : (Key × V) × (D × D) => leD (pairD p.2) (pairD q.2)) (s := leD) (f := fun p => pairD p.2) (l := zs) fun p hp q hq => rfl
          rw [this]
          unfold sortD
          congr 1
          rw [← ez2, List.map_map]; rfl
        rw [← m1] at pt
        have pt : Paired (fun (t : Addr) (q : Key × V) => H2 t = some (.tup [kV q.1, q.2])) ts ((zs.mergeSort fun p q => leD (pairD p.2) (pairD q.2)).map (·.1)) := by
          rw [List.map_map] at pt; exact pt
        have sHH : Same H1 H2 := fun a o h => keep a o h
        obtain ⟨sF, st2, s2⟩ := st1.exT sHH
        have fp : TB.exT F1 H2 pp = none := by
          cases q : TB.exT F1 H2 pp with
          | none => rfl
          | some o =>
            exfalso
            rcases exT_some q with q | ⟨_, q, tp⟩
            · have := st1.sub _ _ q; rw [hp] at this; cases this
            · rw [hl2] at tp; rcases tp with ⟨_, e⟩ | ⟨_, _, e⟩ <;> cases e
        have tp0 : T1 pp = 0 := Decidable.byContradiction fun n => st1.there pp n hp
        have rs : Reps G (TB.exT F1 H2) (ts.map V.ref) (sortD (kds.map pairD)) := by
          rw [← m2]
          refine reps_pairs (paired_mono (fun t q e => exT_of sF e (.inl ⟨_, e⟩)) pt) fun p hp => ?_
          obtain ⟨e1, e2⟩ := hf p ((List.mergeSort_perm _ _).mem_iff.mp hp)
          exact ⟨e1, e2.mono s2.sF⟩
        have le1 : ∀ a, T1 a + (add (one pp) nil0) a ≤ 1 := fun a => by
          by_cases q : a = pp
          · subst q; simp [add, one, nil0, tp0]
          · have := st1.le a; simp [add, one, nil0, q]; exact this
        have nt : ∀ a, (add T1 (add (one pp) nil0)) a ≠ 0 → T1 a ≠ 0 ∨ H1 a = none := fun a n => by
          by_cases q : a = pp
          · rw [q]; exact .inr hp
          · refine .inl fun e => n ?_
            show T1 a + (one pp a + 0) = 0
            rw [e]; simp [one, q]
        refine z1 (.ref pp) (TB.exT F1 H2) H2 T1 (add (one pp) nil0) ⟨s2.sF, s2.fr, nt, s2.nF, s2.tl⟩ st2 (.li hl2 (owns_fz rs)) le1 fun a n => ?_
        by_cases q : a = pp
        · subst q; exact absurd fp n
        · simp [add, one, nil0, q]
    · exact z1.elim
  | _ => exact z1.elim
end
end TB

/-! TbY1: tuples sorted whose places are of one kind up to the first that differs. -/
namespace TB
open PySem PySem.W PySem.Calls PyProof.Rows PySem.SeqAt
mutual
theorem toks_same : ∀ (x y : PyData), PyData.eqv x y = true → keyToks x = keyToks y
  | .none, y, h => by cases y <;> first | rfl | (simp [PyData.eqv] at h)
  | .bool a, y, h => by
    cases y with
    | bool b => have e : a = b := by simpa [PyData.eqv] using h
                rw [e]
    | int j => have e : (if a = true then 1 else 0 : Int) = j := by simpa [PyData.eqv] using h
               simp only [keyToks]; rw [e]
    | _ => simp [PyData.eqv] at h
  | .int i, y, h => by
    cases y with
    | bool b => have e : i = (if b = true then 1 else 0 : Int) := by simpa [PyData.eqv] using h
                simp only [keyToks]; rw [e]
    | int j => have e : i = j := by simpa [PyData.eqv] using h
               rw [e]
    | _ => simp [PyData.eqv] at h
  | .str a, y, h => by
    cases y with
    | str b => have e : a = b := by simpa [PyData.eqv] using h
               rw [e]
    | _ => simp [PyData.eqv] at h
  | .list xs, y, h => by
    cases y with
    | list ys => simp only [keyToks]; exact toks_sames xs ys (by simpa [PyData.eqv] using h)
    | _ => simp [PyData.eqv] at h
  | .tuple xs, y, h => by
    cases y with
    | tuple ys => simp only [keyToks]; exact toks_sames xs ys (by simpa [PyData.eqv] using h)
    | _ => simp [PyData.eqv] at h
  | .dict _, y, h => by cases y <;> simp [PyData.eqv] at h
theorem toks_sames : ∀ (xs ys : List PyData), PyData.eqvAll xs ys = true → keyToksAll xs = keyToksAll ys
  | [], [], _ => rfl
  | [], _ :: _, h => by simp [PyData.eqvAll] at h
  | _ :: _, [], h => by simp [PyData.eqvAll] at h
  | x :: xs, y :: ys, h => by
    rw [eqv_all_cons] at h
    obtain ⟨h1, h2⟩ := Bool.and_eq_true_iff.mp h
    rw [toks_all_cons, toks_all_cons, toks_same x y h1, toks_sames xs ys h2]
end
/-- comparable: of one kind up to the first place that differs -/
def wks : List PyData → List PyData → Bool
  | x :: xs, y :: ys => if PyData.eqv x y = true then wks xs ys else alike x y
  | _, _ => true
/-- what can be sorted so: tuples, their first places alike, no tuples, each two comparable -/
structure WkAll (ds : List PyData) : Prop where
  tup : ∀ d ∈ ds, ∃ x r, d = .tuple (x :: r) ∧ (∀ xs, x ≠ .tuple xs)
  head : ∀ d ∈ ds, ∀ e ∈ ds, ∀ x r y t, d = .tuple (x :: r) → e = .tuple (y :: t) → alike x y = true
  wk : ∀ d ∈ ds, ∀ e ∈ ds, ∀ xs ys, d = .tuple xs → e = .tuple ys → wks xs ys = true
  lay : ∀ d ∈ ds, d.canLay0 = true
theorem toks_yes {x y : PyData} {xs ys : List PyData} (e : PyData.eqv x y = true) : PyProof.Rows.lexLt itemOrd (keyToksAll (x :: xs)) (keyToksAll (y :: ys)) = PyProof.Rows.lexLt itemOrd (keyToksAll xs) (keyToksAll ys) := by
  rw [toks_all_cons, toks_all_cons, toks_same x y e, lex_self (O := itemOrd), lex_pre]
section
variable {prog : Program} {w : World} {A : Around} {s : Shared}
theorem kat_wk {b fin : Bool} {Q : Bool → Shared → Prop} : ∀ (xs ys : List PyData) (i : Nat) (vs us : List Value) (as bs : List Addr), ReadsAll s.heap vs xs as → ReadsAll s.heap us ys bs → wks xs ys = true → PyData.canLayAll0 xs = true → PyData.canLayAll0 ys = true →
    A.units + min (PyData.depthAll xs) (PyData.depthAll ys) < cLine → (b = true → i = 0 → ∀ x r t, xs = x :: r → x ≠ .tuple t) → fin = decide (xs.length < ys.length) → Q (PyProof.Rows.lexLt itemOrd (keyToksAll xs) (keyToksAll ys)) s → KatLex prog w A b fin Q (vs.zip us) i s := by
  intro xs
  induction xs with
  | nil =>
    intro ys i vs us as bs ra rb _ _ _ _ _ hf q
    cases ra
    rw [List.zip_nil_left]
    cases ys with
    | nil =>
      rw [lex_irrefl] at q
      exact kat_nil (by rw [hf]; exact q)
    | cons y ys =>
      rw [toks_all_cons] at q
      simp only [keyToksAll] at q
      rw [lex_diff (O := itemOrd) (by simp)] at q
      exact kat_nil (by rw [hf]; simpa [itemLt] using q)
  | cons x xs ih =>
    intro ys i vs us as bs ra rb hw l1 l2 hu hb hf q
    cases ys with
    | nil =>
      cases rb
      rw [toks_all_cons] at q
      simp only [keyToksAll] at q
      rw [lex_diff (O := itemOrd) (by simp)] at q
      rw [List.zip_nil_right]
      exact kat_nil (by rw [hf]; simpa [itemLt] using q)
    | cons y ys =>
      cases ra with
      | cons r rs =>
        cases rb with
        | cons r2 rs2 =>
          have m1 : x.canLay0 = true ∧ PyData.canLayAll0 xs = true := by simpa [PyData.canLayAll0] using l1
          have m2 : y.canLay0 = true ∧ PyData.canLayAll0 ys = true := by simpa [PyData.canLayAll0] using l2
          rw [List.zip_cons_cons]
          refine kat_cons (SeqAt.eqAt_reads x y A s _ _ _ _ r r2 m1.1 m2.1 (room_head hu) prog w _ _ ?_)
          cases hx : PyData.eqv x y with
          | true =>
            rw [toks_yes hx] at q
            have hw2 : wks xs ys = true := by unfold wks at hw; rw [if_pos hx] at hw; exact hw
            exact kat_yes (ih ys (i + 1) _ _ _ _ rs rs2 hw2 m1.2 m2.2 (room_tail hu) (fun _ z => absurd z (Nat.succ_ne_zero i)) (by rw [hf]; simp) q)
          | false =>
            have ha : alike x y = true := by unfold wks at hw; rw [if_neg (by rw [hx]; exact Bool.false_ne_true)] at hw; exact hw
            rw [dataLt_all_no ha hx] at q
            refine kat_no (oneLt_alike (fun hbi t => ?_) r r2 ha (ne_none_of ha hx) (room_head hu) q)
            rw [Bool.and_eq_true] at hbi
            exact hb hbi.1 (by simpa using hbi.2) x xs t rfl
theorem kind_some {h : Heap} {ds : List PyData} (hl : ∀ d ∈ ds, d.canLay0 = true) {v : Value} {d : PyData} {as : List Addr} (hd : d ∈ ds) (r : Reads h v d as) : (dataKind h ds).keyOf v = some (keyToks d) := by
  have ex : ∃ d, d ∈ ds ∧ ∃ as, Reads h v d as := ⟨d, hd, as, r⟩
  have e : (dataKind h ds).keyOf v = some (keyToks ex.choose) := by
    unfold dataKind
    simp only [dif_pos ex]
  obtain ⟨h1, as2, h2⟩ := ex.choose_spec
  rw [e, SeqAt.Reads.unique _ _ _ _ _ (hl _ h1) h2 r]
theorem sorts_wk {vs : List Value} {ds : List PyData} (e : EachIs (fun v d => ∃ as, Reads s.heap v d as) vs ds) (W : WkAll ds) (hu : ∀ d ∈ ds, A.units + d.depth < cLine) : SortsAt prog w A s (dataKind s.heap ds) vs := by
  refine ⟨fun v hv => ?_, ?_⟩
  · obtain ⟨d, hd, as, r⟩ := e.left v hv
    exact ⟨_, kind_some W.lay hd r⟩
  · cases ds with
    | nil =>
      cases e
      refine ⟨general', fun E x y a b Q ha _ _ => ?_, fun h2 => absurd h2 (by simp)⟩
      obtain ⟨d, _, hd, _⟩ := dataKind_inv ha
      cases hd
    | cons d0 ds0 =>
      obtain ⟨x0, r0, e0, nt⟩ := W.tup d0 List.mem_cons_self
      have first : ∀ x r, PyData.tuple (x :: r) ∈ d0 :: ds0 → alike x x0 = true := fun x r m => W.head _ m _ List.mem_cons_self x r x0 r0 rfl e0
      refine ⟨tuples' (dataType x0 != Value.type "tuple"), fun E x y a b Q ha hb q => ?_, fun h2 E Q q => ?_⟩
      · obtain ⟨d, as, hd, ra, rfl⟩ := dataKind_inv ha
        obtain ⟨d2, as2, hd2, rb, rfl⟩ := dataKind_inv hb
        obtain ⟨x1, r1, rfl, n1⟩ := W.tup d hd
        obtain ⟨x2, r2, rfl, n2⟩ := W.tup d2 hd2
        have q : Q (dataLt (.tuple (x1 :: r1)) (.tuple (x2 :: r2))) s := q
        rw [dataLt_tuple] at q
        have l1 : PyData.canLayAll0 (x1 :: r1) = true := by have := W.lay _ hd; simpa [PyData.canLay0] using this
        have l2 : PyData.canLayAll0 (x2 :: r2) = true := by have := W.lay _ hd2; simpa [PyData.canLay0] using this
        have room : A.units + min (PyData.tuple (x1 :: r1)).depth (PyData.tuple (x2 :: r2)).depth < cLine := Nat.lt_of_le_of_lt (Nat.add_le_add_left (Nat.min_le_left _ _) _) (hu _ hd)
        cases ra with
        | @tuple l o xs n _ _ h1 h2 h3 h4 =>
          cases rb with
          | @tuple l' o' xs' n' _ _ k1 k2 k3 k4 =>
            have z1 : xs.size = (x1 :: r1).length := by simpa using SeqAt.ReadsAll.length _ _ _ h4
            have z2 : xs'.size = (x2 :: r2).length := by simpa using SeqAt.ReadsAll.length _ _ _ k4
            refine kat_lt h1 h3 k1 k3 (kat_wk (x1 :: r1) (x2 :: r2) 0 _ _ _ _ h4 k4 (W.wk _ hd _ hd2 _ _ rfl rfl) l1 l2 (by have := SeqAt.room_in room; omega) (fun _ _ x r t ex => ?_) (by rw [z1, z2]) q)
            cases ex
            exact n1 t
      · obtain ⟨fs, t1, t2, t3⟩ := each_katTups e fun d hd => by
          obtain ⟨x, r, e, _⟩ := W.tup d hd
          exact ⟨x, r, e⟩
        refine kat_kind (T := dataType x0) t1 (by omega) (fun f hf => ?_) (beq_self_eq_true _) q
        obtain ⟨x, r, as, m1, m2⟩ := t3 f hf
        rw [← dataType_alike (first x r m1)]
        exact looks_reads m2
end
theorem vals_wk {β : Type} {h : Heap} {R : Value → β → Prop} {enc : β → PyData} {vs : List Value} {bs : List β} (e : EachIs R vs bs) (er : EachIs (fun v b => ∃ as, Reads h v (enc b) as) vs bs) (W : WkAll (bs.map enc)) :
    EachIs R (sortVals (dataKind h (bs.map enc)) false vs vs) (bs.mergeSort (dataLe false enc)) := by
  have ek : EachIs (fun v d => (dataKind h (bs.map enc)).keyOf v = some (keyToks d)) vs (bs.map enc) := (each_mem (each_map (R := fun v d => ∃ as, Reads h v d as) enc er)).mono fun v d ⟨⟨as, r⟩, hd⟩ => kind_some W.lay hd r
  exact sortVals_each (κ := dataKind h (bs.map enc)) (fun b => keyToks (enc b)) e (each_of_map enc ek)
section
variable {prog : Program} {w : World} {A : Around} {E : Value → Shared → Prop} {s : Shared} {β : Type} {vs : List Value} {bs : List β} {enc : β → PyData} {R : Value → β → Prop}
theorem sorted_wk {l : Addr} {Q : Value → Shared → Prop} (hl : s.heap.IsList l vs.toArray) (e : EachIs R vs bs) (er : EachIs (fun v b => ∃ as, Reads s.heap v (enc b) as) vs bs) (W : WkAll (bs.map enc)) (hL : bs.length ≤ sizeLine)
    (hu : ∀ b ∈ bs, A.units + 2 + (enc b).depth < cLine) (fin : ∀ out, out.length = bs.length → EachIs R out (bs.mergeSort (dataLe false enc)) → Q (.ref (s.heap.objs.size + 1)) { s with heap := sortedAll s.heap vs (List.toArray out) }) :
    wpAny (model prog w) A (call (.builtin "sorted") [.ref l]) Q E s := by
  have er2 : EachIs (fun v b => ∃ as, Reads (sortingHeap (copyHeap s.heap vs) (s.heap.objs.size + 1) vs) v (enc b) as) vs bs := er.mono fun _ _ ⟨as, r⟩ => ⟨as, PyProof.Rows.Reads.keeps (fun _ _ => sorting_copy_old) r⟩
  have S : SortsAt prog w A.in1.in1 { s with heap := sortingHeap (copyHeap s.heap vs) (s.heap.objs.size + 1) vs } (dataKind (sortingHeap (copyHeap s.heap vs) (s.heap.objs.size + 1) vs) (bs.map enc)) vs :=
    sorts_wk (s := { s with heap := sortingHeap (copyHeap s.heap vs) (s.heap.objs.size + 1) vs }) (each_map (R := fun v d => ∃ as, Reads (sortingHeap (copyHeap s.heap vs) (s.heap.objs.size + 1) vs) v d as) enc er2) W fun d hd => by
      obtain ⟨b, hb, rfl⟩ := List.mem_map.mp hd
      exact hu b hb
  exact sorted_vals hl S (by rw [e.length]; exact hL) (fin _ (by rw [sortVals_length false rfl]; exact e.length) (vals_wk e er2 W))
theorem list_sort_wk {a : Addr} {n : Nat} {Q : Value → Shared → Prop} (ho : s.heap.get? a = some (seqObj "list" vs.toArray n)) (e : EachIs R vs bs) (er : EachIs (fun v b => ∃ as, Reads (sortingHeap s.heap a vs) v (enc b) as) vs bs) (W : WkAll (bs.map enc)) (hL : bs.length ≤ sizeLine)
    (hu : ∀ b ∈ bs, A.units + 1 + (enc b).depth < cLine) (fin : ∀ out, out.length = bs.length → EachIs R out (bs.mergeSort (dataLe false enc)) → Q .none { s with heap := sortedHeap s.heap a vs (List.toArray out) }) :
    wpAny (model prog w) A (call (.builtin "list.sort") [.ref a]) Q E s := by
  have S : SortsAt prog w A.in1 { s with heap := sortingHeap s.heap a vs } (dataKind (sortingHeap s.heap a vs) (bs.map enc)) vs :=
    sorts_wk (s := { s with heap := sortingHeap s.heap a vs }) (each_map (R := fun v d => ∃ as, Reads (sortingHeap s.heap a vs) v d as) enc er) W fun d hd => by
      obtain ⟨b, hb, rfl⟩ := List.mem_map.mp hd
      exact hu b hb
  refine wpAny_call_entry slot_list_sort ⟨_, ho, rfl⟩ entry_list_sort (list_sort_vals ho S (by rw [e.length]; exact hL) ⟨.none, rfl, ?_⟩) (args_list_sort _)
  exact fin _ (by rw [sortVals_length false rfl]; exact e.length) (vals_wk e er W)
end
end TB

/-! TbY3: a >= b of such tuples. -/
namespace TB
open PySem PySem.W PySem.Calls PyProof.Rows PySem.SeqAt
open AutoSeq1 (wpAny_loadPart')
open MeetsSeq MeetsSeq2 MeetsSeq3 SeqRoads2
/-- only the first place that differs is asked -/
theorem tuple_geW (l b : Addr) (us vs : Array Value) (n m : Nat) (dl db : Option Addr) (sl sb : Array (Option Value)) (e r : Nat → Bool) :
    Meets (Builtin.«tuple.__ge__» ⟨[.ref l, .ref b], []⟩)
      (fun A R s => s.heap.get? l = some { cls := .type "tuple", dict := dl, data := .seq us n, slots := sl } ∧ s.heap.get? b = some { cls := .type "tuple", dict := db, data := .seq vs m, slots := sb } ∧
        (∀ j (h1 : j < us.size) (h2 : j < vs.size), EqAt A.in1 s us[j] vs[j] (e j)) ∧ (∀ j (h1 : j < us.size) (h2 : j < vs.size), (∀ i, i < j → e i = true) → e j = false → RcOp .GtE A.in1 s us[j] vs[j] (r j)) ∧
        R (.ok (.ret (.bool (firstLt e r (decide (us.size ≥ vs.size)) (List.range (min us.size vs.size)))))) s) :=
  .of_wp fun prog w A R s h => by
    obtain ⟨h0, g, d, tk, os⟩ := s
    obtain ⟨gl, gb, eqs, cmp, fin⟩ := h
    have sub2 := AutoSeq1.sub_tuple_tuple
    have zl : (us.toList.zip vs.toList).length = min us.size vs.size := by simp
    wp_walk using wpAny_loadPart' gl, wpAny_loadPart' gb, wpAny_forIn_list _ (fun todo acc st => acc.1 = none ∧ st = ⟨h0, g, d, tk, os⟩ ∧ ∃ i, (∀ j, j < i → e j = true) ∧ todo = (us.toList.zip vs.toList).drop i ∧
      R (.ok (.ret (.bool (firstLt e r (decide (us.size ≥ vs.size)) ((List.range (min us.size vs.size)).drop i))))) ⟨h0, g, d, tk, os⟩) _
    case turn =>
      rintro ⟨y, x⟩ todo acc st ⟨ha, rfl, i, pre, hz, hR⟩
      have il : i < (us.toList.zip vs.toList).length := Nat.lt_of_not_le fun c => by rw [List.drop_of_length_le c] at hz; cases hz
      have im : i < min us.size vs.size := zl ▸ il
      have i1 : i < us.size := Nat.lt_of_lt_of_le im (Nat.min_le_left _ _)
      have i2 : i < vs.size := Nat.lt_of_lt_of_le im (Nat.min_le_right _ _)
      rw [List.drop_eq_getElem_cons il] at hz
      obtain ⟨hyx, hrest⟩ := List.cons.inj hz
      have ey : y = us[i] := by simpa using congrArg Prod.fst hyx
      have ex : x = vs[i] := by simpa using congrArg Prod.snd hyx
      subst ey ex
      have ed : (List.range (min us.size vs.size)).drop i = i :: (List.range (min us.size vs.size)).drop (i + 1) := by simp [List.drop_eq_getElem_cons, im]
      rw [ed] at hR
      refine wpAny_bind (eqs i i1 i2 prog w _ _ ?_)
      cases c : e i with
      | true =>
        rw [firstLt_yes c] at hR
        wp_walk
        refine ⟨rfl, rfl, i + 1, fun j hj => ?_, hrest, hR⟩
        rcases Nat.lt_succ_iff_lt_or_eq.mp hj with hj | rfl
        · exact pre j hj
        · exact c
      | false =>
        rw [firstLt_no c] at hR
        have cm := fun Q E => cmp i i1 i2 pre c prog w Q E
        generalize PySem.richCompare CmpOp.GtE us[i] vs[i] = rc at cm ⊢
        wp_walk
        refine cm _ _ ?_
        wp_walk
        exact ⟨_, rfl, hR⟩
    case fin =>
      rintro ⟨acc, u⟩ st ⟨ha, rfl, i, pre, hz, hR⟩
      simp only at ha
      subst ha
      have ge : min us.size vs.size ≤ i := Nat.le_of_not_lt fun c => by
        rw [← zl] at c
        rw [List.drop_eq_getElem_cons c] at hz
        cases hz
      rw [List.drop_of_length_le (by simpa using ge)] at hR
      wp_walk
      exact ⟨_, rfl, by simpa [Builtin.Tuple.tupleCompareSizes, firstLt] using hR⟩
    case h => exact ⟨rfl, rfl, 0, fun _ z => absurd z (Nat.not_lt_zero _), rfl, by simpa using fin⟩
theorem first_wk : ∀ (xs ys : List PyData), wks xs ys = true →
    firstLt (pairEq xs ys) (fun j => dataLt (xs.getD j .none) (ys.getD j .none)) (decide (xs.length < ys.length)) (List.range (min xs.length ys.length)) = PyProof.Rows.lexLt itemOrd (keyToksAll xs) (keyToksAll ys)
  | [], [], _ => by simp [firstLt, keyToksAll, lex_irrefl]
  | [], y :: ys, _ => by
    rw [toks_all_cons]
    simp only [keyToksAll]
    rw [lex_diff (O := itemOrd) (by simp)]
    simp [firstLt, itemLt]
  | x :: xs, [], _ => by
    rw [toks_all_cons]
    simp only [keyToksAll]
    rw [lex_diff (O := itemOrd) (by simp)]
    simp [firstLt, itemLt]
  | x :: xs, y :: ys, h => by
    have e1 : min (x :: xs).length (y :: ys).length = min xs.length ys.length + 1 := by simp only [List.length_cons]; omega
    have e2 : decide ((x :: xs).length < (y :: ys).length) = decide (xs.length < ys.length) := decide_eq_decide.mpr (by simp only [List.length_cons]; omega)
    rw [e1, e2, List.range_succ_eq_map]
    unfold wks at h
    cases c : PyData.eqv x y with
    | true =>
      rw [if_pos c] at h
      rw [firstLt_yes (show pairEq (x :: xs) (y :: ys) 0 = true from c), firstLt_map, toks_yes c, ← first_wk xs ys h]
      rfl
    | false =>
      rw [if_neg (by rw [c]; exact Bool.false_ne_true)] at h
      rw [firstLt_no (show pairEq (x :: xs) (y :: ys) 0 = false from c), dataLt_all_no h c]
      rfl
theorem wks_at : ∀ (xs ys : List PyData) (j : Nat), wks xs ys = true → (∀ i, i < j → pairEq xs ys i = true) → j < xs.length → j < ys.length → pairEq xs ys j = false → alike (xs.getD j .none) (ys.getD j .none) = true
  | [], _, _, _, _, h, _, _ => absurd h (Nat.not_lt_zero _)
  | _ :: _, [], _, _, _, _, h, _ => absurd h (Nat.not_lt_zero _)
  | x :: xs, y :: ys, 0, h, _, _, _, c => by
    unfold wks at h
    rw [if_neg (by rw [show PyData.eqv x y = false from c]; exact Bool.false_ne_true)] at h
    exact h
  | x :: xs, y :: ys, j + 1, h, pre, h1, h2, c => by
    unfold wks at h
    rw [if_pos (show PyData.eqv x y = true from pre 0 (Nat.succ_pos _))] at h
    exact wks_at xs ys j h (fun i hi => pre (i + 1) (Nat.succ_lt_succ hi)) (Nat.lt_of_succ_lt_succ h1) (Nat.lt_of_succ_lt_succ h2) c
theorem reads_at {h : Heap} : ∀ {vs : List Value} {xs : List PyData} {as : List Addr}, ReadsAll h vs xs as → ∀ (j : Nat) (hj : j < vs.length), ∃ bs, Reads h vs[j] (xs.getD j .none) bs
  | _, _, _, .nil, j, hj => absurd hj (Nat.not_lt_zero _)
  | _, _, _, .cons r rs, 0, _ => ⟨_, r⟩
  | _, _, _, .cons r rs, j + 1, hj => reads_at rs j (Nat.lt_of_succ_lt_succ hj)
theorem depth_at : ∀ (xs : List PyData) (j : Nat), j < xs.length → (xs.getD j .none).depth ≤ PyData.depthAll xs
  | [], _, h => absurd h (Nat.not_lt_zero _)
  | x :: xs, 0, _ => by simp only [PyData.depthAll, List.getD_cons_zero]; omega
  | x :: xs, j + 1, h => by
    have := depth_at xs j (Nat.lt_of_succ_lt_succ h)
    simp only [PyData.depthAll, List.getD_cons_succ]; omega
/-- a >= b of tuples that are comparable -/
theorem ge_wk {A : Around} {s : Shared} {xs ys : List PyData} {a b : Value} {as bs : List Addr} (ra : Reads s.heap a (.tuple xs) as) (rb : Reads s.heap b (.tuple ys) bs) (hw : wks xs ys = true) (l1 : PyData.canLayAll0 xs = true) (l2 : PyData.canLayAll0 ys = true)
    (hu : A.units + min (PyData.tuple xs).depth (PyData.tuple ys).depth < cLine) : RcOp .GtE A s a b (!dataLt (.tuple xs) (.tuple ys)) := by
  cases ra with
  | @tuple l o us n _ _ h1 h2 h3 h4 =>
    cases rb with
    | @tuple l' o' vs m _ _ k1 k2 k3 k4 =>
      have n1 : us.size = xs.length := by simpa using ReadsAll.length _ _ _ h4
      have n2 : vs.size = ys.length := by simpa using ReadsAll.length _ _ _ k4
      have ef : firstLt (pairEq xs ys) (fun j => !dataLt (xs.getD j .none) (ys.getD j .none)) (decide (us.size ≥ vs.size)) (List.range (min us.size vs.size)) = !dataLt (.tuple xs) (.tuple ys) := by
        rw [n1, n2]
        have e : decide (xs.length ≥ ys.length) = !decide (xs.length < ys.length) := by
          rw [← decide_not]
          exact decide_eq_decide.mpr Nat.not_lt.symm
        rw [e, firstLt_not, first_wk xs ys hw, dataLt_tuple]
      rw [← ef]
      intro prog w E Q q
      obtain ⟨cls, dd, data, sl⟩ := o
      obtain ⟨cls2, dd2, data2, sl2⟩ := o'
      simp only at h2 h3 k2 k3
      subst h2 h3 k2 k3
      refine richCompare_meets_room (op := .GtE) ⟨_, h1, rfl⟩ ⟨_, k1, rfl⟩ F.slot_tuple_ge F.entry_tuple_ge (F.args_tuple_ge_2 _ _) (tuple_geW l l' us vs n m dd dd2 sl sl2 (pairEq xs ys) (fun j => !dataLt (xs.getD j .none) (ys.getD j .none)))
        ⟨h1, k1, fun j j1 j2 => ?_, fun j j1 j2 pre c => ?_, ⟨(fun x => nomatch x), q⟩⟩ (room_here hu)
      · have := eqAt_readsAll xs ys A.in1 s us.toList vs.toList _ _ h4 k4 l1 l2 (room_in hu) j (by simpa using j1) (by simpa using j2)
        simpa using this
      · obtain ⟨c1, r1⟩ := reads_at h4 j (by simpa using j1)
        obtain ⟨c2, r2⟩ := reads_at k4 j (by simpa using j2)
        have al := wks_at xs ys j hw pre (by omega) (by omega) c
        have d1 := depth_at xs j (by omega)
        have d2 := depth_at ys j (by omega)
        have rm := room_in hu
        have u1 : A.in1.units = A.units + 1 := rfl
        have := rcGe_alike _ _ A.in1 s _ _ _ _ r1 r2 al (ne_none_of al c) (by omega)
        simpa using this
end TB

/-! TbY2: sorted, of rows of several forms. -/
namespace TB
open PySem L2 PyProof.Rows
theorem lts_wk : ∀ (xs ys : List D) (n m : Nat), wkDs xs ys = true → D.lays n xs = true → D.lays m ys = true → PyProof.Rows.lexLt itemOrd (PySem.W.keyToksAll (toPys xs)) (PySem.W.keyToksAll (toPys ys)) = D.lts xs ys
  | [], [], _, _, _, _, _ => by simp [toPys, PySem.W.keyToksAll, D.lts, PyProof.Rows.lex_irrefl]
  | [], y :: ys, _, _, _, _, _ => by
    simp only [toPys, PySem.W.keyToksAll, D.lts]
    exact (PyProof.Rows.lex_diff (O := itemOrd) (by decide)).trans (by decide)
  | x :: xs, [], _, _, _, _, _ => by
    simp only [toPys, PySem.W.keyToksAll, D.lts]
    exact (PyProof.Rows.lex_diff (O := itemOrd) (by decide)).trans (by decide)
  | x :: xs, y :: ys, n, m, h, hx, hy => by
    unfold D.lays at hx hy
    obtain ⟨a1, a2⟩ := Bool.and_eq_true_iff.mp hx
    obtain ⟨b1, b2⟩ := Bool.and_eq_true_iff.mp hy
    have ee := eqv_py n m x y a1 b1
    simp only [toPys, D.lts]
    unfold wkDs at h
    by_cases z : D.eqv x y = true
    · rw [if_pos z] at h
      rw [if_pos z, toks_yes (by rw [ee]; exact z)]
      exact lts_wk xs ys n m h a2 b2
    · rw [if_neg z] at h
      have z2 : D.eqv x y = false := by simpa using z
      rw [if_neg z, PySem.W.dataLt_all_no (alk_py x y h) (by rw [ee]; exact z2)]
      exact lt_py n m x y h a1 b1
theorem wks_py : ∀ (xs ys : List D) (n m : Nat), wkDs xs ys = true → D.lays n xs = true → D.lays m ys = true → wks (toPys xs) (toPys ys) = true
  | [], _, _, _, _, _, _ => by simp [toPys, wks]
  | _ :: _, [], _, _, _, _, _ => by simp [toPys, wks]
  | x :: xs, y :: ys, n, m, h, hx, hy => by
    unfold D.lays at hx hy
    obtain ⟨a1, a2⟩ := Bool.and_eq_true_iff.mp hx
    obtain ⟨b1, b2⟩ := Bool.and_eq_true_iff.mp hy
    have ee := eqv_py n m x y a1 b1
    unfold wkDs at h
    simp only [toPys]
    unfold wks
    by_cases z : D.eqv x y = true
    · rw [if_pos z] at h
      rw [if_pos (by rw [ee]; exact z)]
      exact wks_py xs ys n m h a2 b2
    · rw [if_neg z] at h
      rw [if_neg (by rw [ee]; exact z)]
      exact alk_py x y h
theorem tupH_cons {d : D} (h : d.isTupH = true) : ∃ x xs, d = .tup (x :: xs) ∧ ∀ ys, toPy x ≠ .tuple ys := by
  cases d with
  | tup xs =>
    cases xs with
    | nil => simp [D.isTupH] at h
    | cons x xs =>
      refine ⟨x, xs, rfl, ?_⟩
      cases x <;> first | exact absurd h Bool.false_ne_true | (intro ys q; cases q)
  | _ => simp [D.isTupH] at h
theorem wk_lays {xs : List D} (h : (D.tup xs).lay 60 = true) : D.lays 59 xs = true := by simpa [D.lay] using h
theorem wkall_of {ds : List D} (h : sortWk ds = true) : WkAll (ds.map toPy) ∧ D.lays 60 ds = true ∧ ∀ x ∈ ds, ∀ y ∈ ds, PySem.W.dataLt (toPy x) (toPy y) = D.lt x y := by
  unfold sortWk at h
  obtain ⟨h, h3⟩ := Bool.and_eq_true_iff.mp h
  obtain ⟨h1, h2⟩ := Bool.and_eq_true_iff.mp h
  have tp : ∀ d ∈ ds, ∃ x xs, d = .tup (x :: xs) ∧ ∀ ys, toPy x ≠ .tuple ys := fun d hd => tupH_cons (List.all_eq_true.mp h1 d hd)
  have pw : ∀ d ∈ ds, ∀ e ∈ ds, wkD d e = true := fun d hd e he => List.all_eq_true.mp (List.all_eq_true.mp h2 d hd) e he
  refine ⟨⟨fun d hd => ?_, fun d hd e he x r y t q1 q2 => ?_, fun d hd e he xs ys q1 q2 => ?_, fun d hd => ?_⟩, h3, fun x hx y hy => ?_⟩
  · obtain ⟨a, ha, rfl⟩ := List.mem_map.mp hd
    obtain ⟨x, xs, rfl, nt⟩ := tp a ha
    exact ⟨toPy x, toPys xs, by simp only [toPy, toPys], nt⟩
  · obtain ⟨a, ha, rfl⟩ := List.mem_map.mp hd
    obtain ⟨b, hb, rfl⟩ := List.mem_map.mp he
    obtain ⟨x1, xs1, rfl, _⟩ := tp a ha
    obtain ⟨y1, ys1, rfl, _⟩ := tp b hb
    simp only [toPy, toPys, PyData.tuple.injEq, List.cons.injEq] at q1 q2
    rw [← q1.1, ← q2.1]
    have := pw _ ha _ hb
    unfold wkD at this
    exact alk_py _ _ (Bool.and_eq_true_iff.mp this).1
  · obtain ⟨a, ha, rfl⟩ := List.mem_map.mp hd
    obtain ⟨b, hb, rfl⟩ := List.mem_map.mp he
    obtain ⟨x1, xs1, rfl, _⟩ := tp a ha
    obtain ⟨y1, ys1, rfl, _⟩ := tp b hb
    have e1 : toPys (x1 :: xs1) = xs := by simpa [toPy] using q1
    have e2 : toPys (y1 :: ys1) = ys := by simpa [toPy] using q2
    rw [← e1, ← e2]
    have := pw _ ha _ hb
    unfold wkD at this
    exact wks_py _ _ 59 59 (Bool.and_eq_true_iff.mp this).2 (wk_lays (lays_mem h3 _ ha)) (wk_lays (lays_mem h3 _ hb))
  · obtain ⟨a, ha, rfl⟩ := List.mem_map.mp hd
    exact (lay_py 60 a (lays_mem h3 _ ha)).1
  · obtain ⟨x1, xs1, rfl, _⟩ := tp x hx
    obtain ⟨y1, ys1, rfl, _⟩ := tp y hy
    have := pw _ hx _ hy
    unfold wkD at this
    show PySem.W.dataLt (.tuple (toPys _)) (.tuple (toPys _)) = D.lts _ _
    rw [PySem.W.dataLt_tuple]
    exact lts_wk _ _ 59 59 (Bool.and_eq_true_iff.mp this).2 (wk_lays (lays_mem h3 _ hx)) (wk_lays (lays_mem h3 _ hy))
section
variable {X : Cx} {G : Cfgx} {W : WX} {k : Nat} {F H : Hp} {σ : L2.St} {S : List Slot} {T : Cnt}
def rSortedW (K : PySem.W.Frag) : List V → Hp → VK → Prop := fun vs H Q => ∃ (a : Addr) (bs : List (V × PyData)), vs = [V.ref a] ∧ SqL K H a (bs.map (·.1)) ∧ (∀ b ∈ bs, Dp K H b.1 b.2) ∧ WkAll (bs.map (·.2)) ∧ (∀ b ∈ bs, b.2.depth ≤ 60) ∧
  ∀ p, H p = none → Q (.ref p) (upd H p (.lst ((bs.mergeSort (PySem.W.dataLe false (·.2))).map (·.1))))
theorem cr_sortedW {X : Cx} (hu : X.A.units + 64 < cLine) : CallR X (.builtin "sorted") (rSortedW X.K) := by
  intro pins s σ H vs us Q I r ⟨a, bs, e, hs, hd, hw, hz, q⟩
  subst e
  obtain ⟨its, rv, hl, hzl⟩ := I.list hs
  obtain ⟨u, rfl, ru⟩ := vals1 r
  obtain rfl : u = Value.ref a := ru
  obtain ⟨e1, e2⟩ := dp_reads_each I rv hd
  have hlen : bs.length ≤ sizeLine := by simpa using hzl
  refine sorted_wk (enc := fun b : V × PyData => b.2) hl.isList e1 e2 hw hlen (fun b hb => by have := hz b hb; omega) fun out ho he => ?_
  obtain ⟨n, hn⟩ := sortedAll_at s.heap its (List.toArray out)
  exact ⟨.ref (s.heap.objs.size + 1), _, I.laid (t' := s.toks) (o := .lst ((bs.mergeSort (PySem.W.dataLe false (·.2))).map (·.1))) (fun b o e => sortedAll_old e) (Nat.le_succ _) ⟨by rw [List.length_map, List.length_mergeSort]; exact hlen, out, n, vals_each he, hn⟩, rfl, q _ (I.hok.fresh (Nat.le_succ _))⟩
/-- the items, their data -/
theorem zip_core (hK : X.K = G.K) {xs : List V} {ds : List D} {Q : VK} (st : St' G F H σ S T) (rs : Reps G F xs ds) (h : sortWk ds = true) (k : KE G F H σ T Q (.li .fz, .lst (sortD ds)) S) :
    ∃ bs : List (V × PyData), bs.map (·.1) = xs ∧ (∀ b ∈ bs, Dp X.K H b.1 b.2) ∧ WkAll (bs.map (·.2)) ∧ (∀ b ∈ bs, b.2.depth ≤ 60) ∧ ∀ p, H p = none → Q (.ref p) (upd H p (.lst ((bs.mergeSort (PySem.W.dataLe false (·.2))).map (·.1)))) := by
  obtain ⟨wk, ly, lt⟩ := wkall_of h
  have hlen : xs.length = ds.length := rs.len
  have e1 : ((xs.zip ds).map fun p => (p.1, toPy p.2)).map (·.1) = xs := by rw [List.map_map]; exact zip_fst hlen
  have e2 : ((xs.zip ds).map fun p => (p.1, toPy p.2)).map (·.2) = ds.map toPy := by
    have : ((xs.zip ds).map fun p => (p.1, toPy p.2)).map (·.2) = ((xs.zip ds).map (·.2)).map toPy := by rw [List.map_map, List.map_map]; rfl
    rw [this, zip_snd hlen]
  have hz := zip_reps (rs.mono st.sub)
  refine ⟨(xs.zip ds).map fun p => (p.1, toPy p.2), e1, fun b hb => ?_, by rw [e2]; exact wk, fun b hb => ?_, fun p hp => ?_⟩
  · obtain ⟨p, hp, rfl⟩ := List.mem_map.mp hb
    rw [hK]
    exact dp_of 60 p.2 p.1 (lays_mem ly _ (mem_zip_snd hp)) (hz p hp)
  · obtain ⟨p, hp, rfl⟩ := List.mem_map.mp hb
    exact (lay_py 60 p.2 (lays_mem ly _ (mem_zip_snd hp))).2
  · have m1 : ((xs.zip ds).mergeSort fun p q => leD p.2 q.2).map (fun p => (p.1, toPy p.2)) = ((xs.zip ds).map fun p => (p.1, toPy p.2)).mergeSort (PySem.W.dataLe false (·.2)) := by
      refine List.map_mergeSort fun p hp q hq => ?_
      rw [PySem.W.dataLe_eq]
      show leD p.2 q.2 = !PySem.W.dataLt (toPy q.2) (toPy p.2)
      rw [lt _ (mem_zip_snd hq) _ (mem_zip_snd hp)]; rfl
    have m2 : ((xs.zip ds).mergeSort fun p q => leD p.2 q.2).map (·.2) = sortD ds := by
      have := List.map_mergeSort (r := fun p q : V × D => leD p.2 q.2) (s := leD) (f := (·.2)) (l := xs.zip ds) fun p hp q hq => rfl
      rw [this, zip_snd hlen]; rfl
    have m3 : (((xs.zip ds).map fun p => (p.1, toPy p.2)).mergeSort (PySem.W.dataLe false (·.2))).map (·.1) = ((xs.zip ds).mergeSort fun p q => leD p.2 q.2).map (·.1) := by
      rw [← m1, List.map_map]; rfl
    rw [m3]
    refine KE.newL k st ?_ p hp
    rw [← m2]
    exact reps_zip fun p hp => zip_reps rs p ((List.mergeSort_perm _ _).mem_iff.mp hp)
theorem sn_sortW (hK : X.K = G.K) : SN G (rSortedW X.K) fSortW := fun F H σ S T xs ds kd Q st rs e k => by
  rcases rs with _ | ⟨r1, _ | ⟨r2, r3⟩⟩
  · simp [fSortW] at e
  · cases r1 <;> simp only [fSortW, reduceCtorEq] at e
    rename_i a ys as hl ra
    split at e
    · rename_i hz
      cases e
      obtain ⟨bs, b1, b2, b3, b4, b5⟩ := zip_core hK st ra hz.1 k
      exact ⟨a, bs, rfl, by rw [b1]; exact .inl (.inl (st.sub _ _ hl)), b2, b3, b4, b5⟩
    · cases e
  · cases r1 <;> simp [fSortW] at e
def rSortedNW (G : Cfg) (K : PySem.W.Frag) : List V → Hp → VK → Prop := fun vs H Q => ∃ (d : Addr) (xs : List NT) (bs : List (V × PyData)), vs = [V.ref d] ∧ Rd H d (NDO G.w d xs) ∧ KeysAt G H xs ∧ bs.map (·.1) = xs.map (fun x => V.ref x.2.1) ∧ (∀ b ∈ bs, Dp K H b.1 b.2) ∧ WkAll (bs.map (·.2)) ∧ (∀ b ∈ bs, b.2.depth ≤ 60) ∧
  ∀ p, H p = none → Q (.ref p) (upd H p (.lst ((bs.mergeSort (PySem.W.dataLe false (·.2))).map (·.1))))
theorem cr_sortedNW (hK : X.K = G.K) (hw : X.w = G.w) (hr : Room k X.A) : CallR X (.builtin "sorted") (rSortedNW G X.K) := by
  intro pins s σ H vs us Q I r ⟨d, xs, bs, e, ha, hk, he, hd, hal, hz, q⟩
  subst e
  obtain ⟨u, rfl, ru⟩ := vals1 r
  obtain rfl : u = Value.ref d := ru
  obtain ⟨h1, h2, us, rel, dd⟩ := ndo_at I hK hw ha hk
  obtain ⟨es, ep, raw, hs, het⟩ := dd.raw
  have hl : us.length = xs.length := (nrel_len rel).symm
  have rv : Vals (bs.map (·.1)) (us.map fun y => Value.ref y.2.1) := by rw [he]; exact nrel_refs rel
  have hun : X.A.units + 100 < cLine := by have := hr.un; omega
  refine Calls.call_function_entry kind_sorted plain_sorted entry_sorted (args_sorted1 _) ?_
  unfold Builtin.«sorted»
  refine wpAny_bind (m := checkCount "sorted" 1 1 _) (wpAny_pure ?_)
  refine wpAny_bind (PySem.W.kdu_collect (A := X.A.in1) (KdlSrc.rawDict h1) hr.hd raw (by rw [hs, hl]; exact h2) fun h2' tk acc hk' hacc => ?_)
  have ea : acc.toList = us.map fun y => Value.ref y.2.1 := by
    refine List.ext_getElem? fun j => ?_
    rw [Array.getElem?_toList]
    cases ej : acc[j]? with
    | none =>
      rw [Array.getElem?_eq_none_iff] at ej
      rw [eq_comm, List.getElem?_eq_none_iff, List.length_map]
      rw [hacc.1, hs] at ej; exact ej
    | some v =>
      obtain ⟨hi, ev⟩ := hacc.2 j v ej
      obtain ⟨y, hy, g1, _, _⟩ := het j hi
      rw [List.getElem?_map, hy, ev, g1]; rfl
  refine wpAny_bind (wpAny_newList ?_ (by rw [ea, List.length_map, hl]; exact h2))
  rw [ea]
  obtain ⟨e1, e2⟩ := dp_reads_each I rv hd
  have sold : ∀ b o, h2'.get? b = some o → (PySem.W.sortingHeap (h2'.push { cls := .type "list", data := .seq (us.map fun y => Value.ref y.2.1).toArray }) h2'.objs.size (us.map fun y => Value.ref y.2.1)).get? b = some o := fun b o e =>
    PySem.W.sortingHeap_old (Nat.ne_of_lt (Heap.lt_size e)) (Heap.get?_push_of_some _ e)
  have e3 : PySem.W.EachIs (fun u (b : V × PyData) => ∃ as, Reads (PySem.W.sortingHeap (h2'.push { cls := .type "list", data := .seq (us.map fun y => Value.ref y.2.1).toArray }) h2'.objs.size (us.map fun y => Value.ref y.2.1)) u b.2 as) (us.map fun y => Value.ref y.2.1) bs :=
    each_imp (fun u b ⟨as, r⟩ => ⟨as, PyProof.Rows.Reads.keeps (fun b o e => sold b o (hk' b o e)) r⟩) e2
  have blen : bs.length = xs.length := by have := congrArg List.length he; simpa using this
  have ho : (h2'.push { cls := .type "list", data := .seq (us.map fun y => Value.ref y.2.1).toArray }).get? h2'.objs.size = some (seqObj "list" (us.map fun y => Value.ref y.2.1).toArray 0) := Heap.get?_push_size _ rfl
  refine wpAny_bind (wpAny_holding (list_sort_wk (enc := fun b : V × PyData => b.2) (n := 0) ho e1 e3 hal (by rw [blen]; exact h2) (fun b hb => by have := hz b hb; show X.A.units + 1 + 1 + _ < _; omega) fun out hout heach => ?_))
  obtain ⟨n, hn⟩ := sortedHeap_at (out := List.toArray out) ho
  have I0 : Inv X pins σ H { s with heap := h2', toks := tk } := I.kept (t' := tk) hk'
  refine wpAny_pure ⟨_, rfl, .ref h2'.objs.size, _, I0.laid (t' := tk) (a := h2'.objs.size) (o := .lst ((bs.mergeSort (PySem.W.dataLe false (·.2))).map (·.1))) (fun b o g => ?_) (Nat.le_refl _) ⟨?_, out, n, vals_each heach, hn⟩, rfl, q _ (I0.hok.fresh (Nat.le_refl _))⟩
  · rw [sortedHeap_old (Nat.ne_of_lt (Heap.lt_size g)) (by rw [size_push']; exact Nat.lt_succ_of_lt (Heap.lt_size g))]
    exact Heap.get?_push_of_some _ g
  · rw [List.length_map, List.length_mergeSort, blen]
    exact h2
theorem sn_sortNW (hK : X.K = G.K) : SN G (rSortedNW G X.K) fSortNW := fun F H σ S T xs ds kd Q st rs e k => by
  rcases rs with _ | ⟨r1, _ | ⟨r2, r3⟩⟩
  · simp [fSortNW] at e
  · cases r1 <;> simp only [fSortNW, reduceCtorEq] at e
    rename_i d nts kds hl hk hq hv
    split at e
    · rename_i hz
      cases e
      obtain ⟨bs, b1, b2, b3, b4, b5⟩ := zip_core hK st hq hz k
      exact ⟨d, nts, bs, rfl, same_rd st.sub hl, keysAt_mono st.sub (keysAt_of hk hq), b1, b2, b3, b4, b5⟩
    · cases e
  · cases r1 <;> simp [fSortNW] at e
theorem cls_sortedB (hK : X.K = G.K) (hw : X.w = G.w) (hr : Room k X.A) : ∃ r, CallR X (.builtin "sorted") r ∧ SN G r fSortedB := by
  obtain ⟨r, h1, h2⟩ := cls_sortedA (X := X) (G := G) hK hr
  exact ⟨_, h1.or ((cr_sortedN hK hw hr).or ((cr_sortedW hr.units).or (cr_sortedNW hK hw hr))), SN_or1 h2 (SN_or1 (sn_sortN hK) (SN_or1 (sn_sortW hK) (sn_sortNW hK)))⟩

def rGeW (K : PySem.W.Frag) : R2 := fun x y H Q => ∃ xs ys, Dp K H x (.tuple xs) ∧ Dp K H y (.tuple ys) ∧ wks xs ys = true ∧ PyData.canLayAll0 xs = true ∧ PyData.canLayAll0 ys = true ∧ (PyData.tuple xs).depth ≤ 60 ∧ Q (.bl (!PySem.W.dataLt (.tuple xs) (.tuple ys))) H
theorem op_geW (hu : X.A.units + 64 < cLine) : OpR X (compareOp .GtE) (rGeW X.K) := by
  intro pins s σ H x y v u Q I rx ry ⟨xs, ys, hx, hy, hw, l1, l2, hz, q⟩
  obtain ⟨as, r1⟩ := Dp.reads I _ x v hx rx
  obtain ⟨bs, r2⟩ := Dp.reads I _ y u hy ry
  exact ge_wk r1 r2 hw l1 l2 (by omega) X.prog X.w X.xe _ ⟨.bl _, H, I, rfl, q⟩
theorem wkD_elim {d e : D} (h : wkD d e = true) : ∃ x xs y ys, d = .tup (x :: xs) ∧ e = .tup (y :: ys) ∧ wkDs (x :: xs) (y :: ys) = true := by
  cases d with
  | tup xs =>
    cases xs with
    | nil => cases e <;> exact absurd h Bool.false_ne_true
    | cons x xs =>
      cases e with
      | tup ys =>
        cases ys with
        | nil => exact absurd h Bool.false_ne_true
        | cons y ys => exact ⟨x, xs, y, ys, rfl, rfl, (Bool.and_eq_true_iff.mp (show (D.alk x y && wkDs (x :: xs) (y :: ys)) = true from h)).2⟩
      | _ => exact absurd h Bool.false_ne_true
  | _ => cases e <;> exact absurd h Bool.false_ne_true
theorem cls_geB (hK : X.K = G.K) (hr : Room k X.A) : ∃ r, OpR X (compareOp .GtE) r ∧ S2 G r fGeB := by
  obtain ⟨r, h1, h2⟩ := cls_geD (X := X) (G := G) hK hr
  refine ⟨_, orR h1 (op_geW hr.units), S2_or h2 fun F H σ S T x y dx dy kd Q st rx ry e k => ?_⟩
  unfold fGeW kz at e
  split at e
  · rename_i h
    cases e
    obtain ⟨h, hw⟩ := Bool.and_eq_true_iff.mp h
    obtain ⟨l1, l2⟩ := Bool.and_eq_true_iff.mp h
    obtain ⟨x1, xs, y1, ys, rfl, rfl, hv⟩ := wkD_elim hw
    obtain ⟨c1, c2⟩ := lay_py 60 _ l1
    obtain ⟨d1, d2⟩ := lay_py 60 _ l2
    have w1 := wk_lays l1
    have w2 := wk_lays l2
    have el : PySem.W.dataLt (.tuple (toPys (x1 :: xs))) (.tuple (toPys (y1 :: ys))) = D.lt (.tup (x1 :: xs)) (.tup (y1 :: ys)) := by
      rw [PySem.W.dataLt_tuple]
      exact lts_wk _ _ 59 59 hv w1 w2
    refine ⟨toPys (x1 :: xs), toPys (y1 :: ys), hK ▸ dp_of 60 _ _ l1 (rx.mono st.sub), hK ▸ dp_of 60 _ _ l2 (ry.mono st.sub), wks_py _ _ 59 59 hv w1 w2, ?_, ?_, c2, ?_⟩
    · have : (PyData.tuple (toPys (x1 :: xs))).canLay0 = true := c1
      simpa [PyData.canLay0] using this
    · have : (PyData.tuple (toPys (y1 :: ys))).canLay0 = true := d1
      simpa [PyData.canLay0] using this
    · rw [el]
      exact KE.val k st (.bl _)
  · cases e
end
end TB

/-! TbX4: one rule per operator (printed by gen/mk4.py). -/
namespace TB
open PySem PySem.Spec PyProof.Rows L2
section
variable {X : Cx} {G : Cfgx} {W : WX} {k : Nat}
theorem Cok.u64 (C : Cok X G W k) : X.A.units + 64 < cLine := by have := C.room.un; omega
theorem tr_b_sortedB (C : Cok X G W k) {p pos : Pos} {e : Expr} {es : List Expr} {ms : List E} (hm : X.mg "sorted" = none) (hw : X.w = G.w) (hg : Gl X "sorted") (ha : TrA X G W (e :: es) ms) (he : starEach (e :: es) X.env = (false, eval e X.env) :: starEach es X.env := by rfl) (hpl : (backTo pos (starEach es X.env)).any (·.1) = false := by rfl) : TrE X G W (.Call (.Name "sorted" p) (e :: es) [] pos) (eApp fSortedB ms) := by
  obtain ⟨r, h1, h2⟩ := cls_sortedB (X := X) (G := G) C.hK hw C.room
  exact tr_callB h1 h2 hm (by rfl) ha hg (by decide) (by decide) he hpl
theorem cls_inB (hK : X.K = G.K) (hr : Room k X.A) : ∃ r, OpR X (compareOp .In) r ∧ S2 G r fInB := by
  obtain ⟨r, h1, h2⟩ := cls_inA (X := X) (G := G) hK
  obtain ⟨r', g1, g2⟩ := cls_inN (X := X) (G := G) hK hr
  exact ⟨_, orR h1 g1, h2.or g2⟩
theorem cls_notInB (hK : X.K = G.K) (hr : Room k X.A) : ∃ r, OpR X (compareOp .NotIn) r ∧ S2 G r fNotInB := by
  obtain ⟨r, h1, h2⟩ := cls_notInA (X := X) (G := G) hK
  obtain ⟨r', g1, g2⟩ := cls_notInN (X := X) (G := G) hK hr
  exact ⟨_, orR h1 g1, h2.or g2⟩
theorem tt_pk2 (i : Nat) {op : CmpOp} {r : R2} {f : D → D → Option KD} {a : Expr} {m : E} {x : PySem.Str} {p pos : Pos} (ho : OpR X (compareOp op) r) (hs : S2 G r f) (ha : TrE X G W a m) (hm : behindInMarks op (.Name x p) = false := by rfl)
    (hN : X.N[i]? = some x := by rfl) (hv : Vis X.env.scope x := by first | exact Or.inl rfl | exact Or.inr (Or.inl rfl) | exact Or.inr (Or.inr rfl)) (hd : (x == ("__debug__" : PySem.Str)) = false := by decide) (hcd : (x == ("__classdict__" : PySem.Str)) = false := by decide) :
    TrT X G W (.Compare a [op] [.Name x p] pos) (eBool (ePk2 f m i)) := by
  obtain ⟨t, pa, d⟩ := ha
  exact ⟨_, pt_cmpR ho pa (pe_var hN hv hd hcd) hm, den_test (den_pk2 i ho hs d)⟩
theorem tr_LtA (C : Cok X G W k) {a b : Expr} {ma mb : E} {pos : Pos} (ha : TrE X G W a ma) (hb : TrE X G W b mb) (hm : behindInMarks .Lt b = false := by rfl) : TrE X G W (.Compare a [.Lt] [b] pos) (eOp fLtA ma mb) := by
  obtain ⟨r, h1, h2⟩ := cls_ltD C.hK C.room
  exact tr_cmp h1 h2 ha hb hm
theorem tt_LtA (C : Cok X G W k) {a b : Expr} {ma mb : E} {pos : Pos} (ha : TrE X G W a ma) (hb : TrE X G W b mb) (hm : behindInMarks .Lt b = false := by rfl) : TrT X G W (.Compare a [.Lt] [b] pos) (eBool (eOp fLtA ma mb)) := by
  obtain ⟨r, h1, h2⟩ := cls_ltD C.hK C.room
  exact tt_cmp h1 h2 ha hb hm
theorem tr_GtA (C : Cok X G W k) {a b : Expr} {ma mb : E} {pos : Pos} (ha : TrE X G W a ma) (hb : TrE X G W b mb) (hm : behindInMarks .Gt b = false := by rfl) : TrE X G W (.Compare a [.Gt] [b] pos) (eOp fGtA ma mb) := by
  obtain ⟨r, h1, h2⟩ := cls_gtD C.hK C.room
  exact tr_cmp h1 h2 ha hb hm
theorem tt_GtA (C : Cok X G W k) {a b : Expr} {ma mb : E} {pos : Pos} (ha : TrE X G W a ma) (hb : TrE X G W b mb) (hm : behindInMarks .Gt b = false := by rfl) : TrT X G W (.Compare a [.Gt] [b] pos) (eBool (eOp fGtA ma mb)) := by
  obtain ⟨r, h1, h2⟩ := cls_gtD C.hK C.room
  exact tt_cmp h1 h2 ha hb hm
theorem tr_LtEA (C : Cok X G W k) {a b : Expr} {ma mb : E} {pos : Pos} (ha : TrE X G W a ma) (hb : TrE X G W b mb) (hm : behindInMarks .LtE b = false := by rfl) : TrE X G W (.Compare a [.LtE] [b] pos) (eOp fLeA ma mb) := by
  obtain ⟨r, h1, h2⟩ := cls_leD C.hK C.room
  exact tr_cmp h1 h2 ha hb hm
theorem tt_LtEA (C : Cok X G W k) {a b : Expr} {ma mb : E} {pos : Pos} (ha : TrE X G W a ma) (hb : TrE X G W b mb) (hm : behindInMarks .LtE b = false := by rfl) : TrT X G W (.Compare a [.LtE] [b] pos) (eBool (eOp fLeA ma mb)) := by
  obtain ⟨r, h1, h2⟩ := cls_leD C.hK C.room
  exact tt_cmp h1 h2 ha hb hm
theorem tr_GtEA (C : Cok X G W k) {a b : Expr} {ma mb : E} {pos : Pos} (ha : TrE X G W a ma) (hb : TrE X G W b mb) (hm : behindInMarks .GtE b = false := by rfl) : TrE X G W (.Compare a [.GtE] [b] pos) (eOp fGeA ma mb) := by
  obtain ⟨r, h1, h2⟩ := cls_geD C.hK C.room
  exact tr_cmp h1 h2 ha hb hm
theorem tt_GtEA (C : Cok X G W k) {a b : Expr} {ma mb : E} {pos : Pos} (ha : TrE X G W a ma) (hb : TrE X G W b mb) (hm : behindInMarks .GtE b = false := by rfl) : TrT X G W (.Compare a [.GtE] [b] pos) (eBool (eOp fGeA ma mb)) := by
  obtain ⟨r, h1, h2⟩ := cls_geD C.hK C.room
  exact tt_cmp h1 h2 ha hb hm
theorem tr_GtEB (C : Cok X G W k) {a b : Expr} {ma mb : E} {pos : Pos} (ha : TrE X G W a ma) (hb : TrE X G W b mb) (hm : behindInMarks .GtE b = false := by rfl) : TrE X G W (.Compare a [.GtE] [b] pos) (eOp fGeB ma mb) := by
  obtain ⟨r, h1, h2⟩ := cls_geB C.hK C.room
  exact tr_cmp h1 h2 ha hb hm
theorem tt_GtEB (C : Cok X G W k) {a b : Expr} {ma mb : E} {pos : Pos} (ha : TrE X G W a ma) (hb : TrE X G W b mb) (hm : behindInMarks .GtE b = false := by rfl) : TrT X G W (.Compare a [.GtE] [b] pos) (eBool (eOp fGeB ma mb)) := by
  obtain ⟨r, h1, h2⟩ := cls_geB C.hK C.room
  exact tt_cmp h1 h2 ha hb hm
theorem tr_InB (C : Cok X G W k) {a b : Expr} {ma mb : E} {pos : Pos} (ha : TrE X G W a ma) (hb : TrE X G W b mb) (hm : behindInMarks .In b = false := by rfl) : TrE X G W (.Compare a [.In] [b] pos) (eOp fInB ma mb) := by
  obtain ⟨r, h1, h2⟩ := cls_inB C.hK C.room
  exact tr_cmp h1 h2 ha hb hm
theorem tt_InB (C : Cok X G W k) {a b : Expr} {ma mb : E} {pos : Pos} (ha : TrE X G W a ma) (hb : TrE X G W b mb) (hm : behindInMarks .In b = false := by rfl) : TrT X G W (.Compare a [.In] [b] pos) (eBool (eOp fInB ma mb)) := by
  obtain ⟨r, h1, h2⟩ := cls_inB C.hK C.room
  exact tt_cmp h1 h2 ha hb hm
theorem tr_NotInB (C : Cok X G W k) {a b : Expr} {ma mb : E} {pos : Pos} (ha : TrE X G W a ma) (hb : TrE X G W b mb) (hm : behindInMarks .NotIn b = false := by rfl) : TrE X G W (.Compare a [.NotIn] [b] pos) (eOp fNotInB ma mb) := by
  obtain ⟨r, h1, h2⟩ := cls_notInB C.hK C.room
  exact tr_cmp h1 h2 ha hb hm
theorem tt_NotInB (C : Cok X G W k) {a b : Expr} {ma mb : E} {pos : Pos} (ha : TrE X G W a ma) (hb : TrE X G W b mb) (hm : behindInMarks .NotIn b = false := by rfl) : TrT X G W (.Compare a [.NotIn] [b] pos) (eBool (eOp fNotInB ma mb)) := by
  obtain ⟨r, h1, h2⟩ := cls_notInB C.hK C.room
  exact tt_cmp h1 h2 ha hb hm
theorem tr_pkEq (C : Cok X G W k) (i : Nat) {a : Expr} {m : E} {x : PySem.Str} {p pos : Pos} (ha : TrE X G W a m) (hm : behindInMarks .Eq (.Name x p) = false := by rfl)
    (hN : X.N[i]? = some x := by rfl) (hv : Vis X.env.scope x := by first | exact Or.inl rfl | exact Or.inr (Or.inl rfl) | exact Or.inr (Or.inr rfl)) (hd : (x == ("__debug__" : PySem.Str)) = false := by decide) (hcd : (x == ("__classdict__" : PySem.Str)) = false := by decide) : TrE X G W (.Compare a [.Eq] [.Name x p] pos) (ePk2 fEq m i) := by
  obtain ⟨r, h1, h2⟩ := cls_eq C.hK C.room
  exact tr_pk2 i h1 h2 ha hm hN hv hd hcd
theorem tt_pkEq (C : Cok X G W k) (i : Nat) {a : Expr} {m : E} {x : PySem.Str} {p pos : Pos} (ha : TrE X G W a m) (hm : behindInMarks .Eq (.Name x p) = false := by rfl)
    (hN : X.N[i]? = some x := by rfl) (hv : Vis X.env.scope x := by first | exact Or.inl rfl | exact Or.inr (Or.inl rfl) | exact Or.inr (Or.inr rfl)) (hd : (x == ("__debug__" : PySem.Str)) = false := by decide) (hcd : (x == ("__classdict__" : PySem.Str)) = false := by decide) : TrT X G W (.Compare a [.Eq] [.Name x p] pos) (eBool (ePk2 fEq m i)) := by
  obtain ⟨r, h1, h2⟩ := cls_eq C.hK C.room
  exact tt_pk2 i h1 h2 ha hm hN hv hd hcd
theorem tr_pkNotEq (C : Cok X G W k) (i : Nat) {a : Expr} {m : E} {x : PySem.Str} {p pos : Pos} (ha : TrE X G W a m) (hm : behindInMarks .NotEq (.Name x p) = false := by rfl)
    (hN : X.N[i]? = some x := by rfl) (hv : Vis X.env.scope x := by first | exact Or.inl rfl | exact Or.inr (Or.inl rfl) | exact Or.inr (Or.inr rfl)) (hd : (x == ("__debug__" : PySem.Str)) = false := by decide) (hcd : (x == ("__classdict__" : PySem.Str)) = false := by decide) : TrE X G W (.Compare a [.NotEq] [.Name x p] pos) (ePk2 fNe m i) := by
  obtain ⟨r, h1, h2⟩ := cls_ne C.hK C.room
  exact tr_pk2 i h1 h2 ha hm hN hv hd hcd
theorem tt_pkNotEq (C : Cok X G W k) (i : Nat) {a : Expr} {m : E} {x : PySem.Str} {p pos : Pos} (ha : TrE X G W a m) (hm : behindInMarks .NotEq (.Name x p) = false := by rfl)
    (hN : X.N[i]? = some x := by rfl) (hv : Vis X.env.scope x := by first | exact Or.inl rfl | exact Or.inr (Or.inl rfl) | exact Or.inr (Or.inr rfl)) (hd : (x == ("__debug__" : PySem.Str)) = false := by decide) (hcd : (x == ("__classdict__" : PySem.Str)) = false := by decide) : TrT X G W (.Compare a [.NotEq] [.Name x p] pos) (eBool (ePk2 fNe m i)) := by
  obtain ⟨r, h1, h2⟩ := cls_ne C.hK C.room
  exact tt_pk2 i h1 h2 ha hm hN hv hd hcd
end
end TB

namespace LW
open TB
/-- is_within -/
def mb_0 (Γ : Nat → Fn) : St := (sRet (eAnd (eIsi .int (eVar 0)) (eAnd (eNot (eIsi .bool (eVar 0))) (eChain fLe fLe (eVar 1) (eVar 0) (eVar 2)))))
/-- is_name -/
def mb_1 (Γ : Nat → Fn) : St := (sRet (eAnd (eIsi .str (eVar 0)) (eAnd (eChain fLe fLe (eCon (.int 1)) (eApp fLen [(eVar 0)]) (eCon (.int 8))) (eApp fAllB [(eLc (itStr (eVar 0)) (.nm 1) [1] tTrue (eOp fInA (eVar 1) (eCon (.str [97, 98, 99, 100, 101, 102, 103, 104, 105, 106, 107, 108, 109, 110, 111, 112, 113, 114, 115, 116, 117, 118, 119, 120, 121, 122]))))]))))
/-- are_rising -/
def mb_2 (Γ : Nat → Fn) : St := (sRet (eApp fAllB [(eLc (itRange2 (eCon (.int 1)) (eApp fLen [(eVar 0)])) (.nm 1) [1] tTrue (eOp fLt (eOp fIx (eVar 0) (eOp fSub (eVar 1) (eCon (.int 1)))) (eOp fIx (eVar 0) (eVar 1))))]))
/-- are_names -/
def mb_3 (Γ : Nat → Fn) : St := (sSeq (sIf (tOr (tNot (eBool (eIsi .tuple (eVar 0)))) (tNot (eBool (eChain fLe fLe (eVar 1) (eApp fLen [(eVar 0)]) (eVar 2))))) (sRet (eCon (.bl false))) sNx) (sRet (eAnd (eApp fAllB [(eLc (itSeq (eVar 0)) (.nm 3) [3] tTrue (eCall (Γ 1) [.v (eVar 3)]))]) (eCall (Γ 2) [.v (eVar 0)]))))
/-- are_two -/
def mb_54 (Γ : Nat → Fn) : St := (sRet (eAnd (eCall (Γ 1) [.v (eVar 0)]) (eAnd (eCall (Γ 1) [.v (eVar 1)]) (eOp fNe (eVar 0) (eVar 1)))))
/-- is_row -/
def mb_55 (Γ : Nat → Fn) : St := (sSeq (sIf (tOr (tNot (eBool (eIsi .tuple (eVar 0)))) (tOr (eBool (eOp fLt (eApp fLen [(eVar 0)]) (eCon (.int 4)))) (tNot (eBool (eIsi .str (eOp fIx (eVar 0) (eCon (.int 0)))))))) (sRet (eCon (.bl false))) sNx) (sSeq (sIf (tOr (eBool (eOp fNe (eOp (fGetC [([119, 114, 111, 110, 103], 5), ([112, 97, 105, 100], 4), ([98, 97, 99, 107], 5), ([108, 101, 110, 116], 5), ([98, 111, 117, 103, 104, 116], 6)]) (eOp fIx (eVar 0) (eCon (.int 0))) (eCon (.int 0))) (eApp fLen [(eVar 0)]))) (tNot (eBool (eCall (Γ 0) [.v (eOp fIx (eVar 0) (eCon (.int 1))), .v (eCon (.int 0)), .v (eCon (.int 1000000))])))) (sRet (eCon (.bl false))) sNx) (sSeq (sIf (eBool (eOp fEq (eOp fIx (eVar 0) (eCon (.int 0))) (eCon (.str [119, 114, 111, 110, 103])))) (sRet (eAnd (eCall (Γ 0) [.v (eOp fIx (eVar 0) (eCon (.int 2))), .v (eCon (.int 0)), .v (eCon (.int 1000000))]) (eCall (Γ 54) [.v (eOp fIx (eVar 0) (eCon (.int 3))), .v (eOp fIx (eVar 0) (eCon (.int 4)))]))) sNx) (sSeq (sIf (eBool (eOp fEq (eOp fIx (eVar 0) (eCon (.int 0))) (eCon (.str [112, 97, 105, 100])))) (sRet (eAnd (eCall (Γ 1) [.v (eOp fIx (eVar 0) (eCon (.int 2)))]) (eCall (Γ 0) [.v (eOp fIx (eVar 0) (eCon (.int 3))), .v (eCon (.int 1)), .v (eCon (.int 1000000))]))) sNx) (sSeq (sIf (eBool (eOp fEq (eOp fIx (eVar 0) (eCon (.int 0))) (eCon (.str [98, 111, 117, 103, 104, 116])))) (sSeq (sIf (tOr (tNot (eBool (eCall (Γ 0) [.v (eOp fIx (eVar 0) (eCon (.int 2))), .v (eCon (.int 0)), .v (eCon (.int 1000000))]))) (tOr (tNot (eBool (eCall (Γ 3) [.v (eOp fIx (eVar 0) (eCon (.int 3))), .v (eCon (.int 1)), .v (eCon (.int 4))]))) (tNot (eBool (eCall (Γ 1) [.v (eOp fIx (eVar 0) (eCon (.int 4)))]))))) (sRet (eCon (.bl false))) sNx) (sRet (eCall (Γ 0) [.v (eOp fIx (eVar 0) (eCon (.int 5))), .v (eApp fLen [(eOp fIx (eVar 0) (eCon (.int 3)))]), .v (eCon (.int 1000000))]))) sNx) (sRet (eAnd (eCall (Γ 54) [.v (eOp fIx (eVar 0) (eCon (.int 2))), .v (eOp fIx (eVar 0) (eCon (.int 3)))]) (eCall (Γ 0) [.v (eOp fIx (eVar 0) (eCon (.int 4))), .v (eCon (.int 1)), .v (eCon (.int 1000000))]))))))))
/-- numbers_in -/
def mb_56 (Γ : Nat → Fn) : St := (sRet (eFr (eLc (itSeq (eVar 0)) (.nm 1) [1] (eBool (eOp fEq (eOp fIx (eVar 1) (eCon (.int 0))) (eCon (.str [98, 111, 117, 103, 104, 116])))) (eOp fIx (eVar 1) (eCon (.int 2))))))
/-- are_rows -/
def mb_57 (Γ : Nat → Fn) : St := (sSeq (sIf (tOr (tNot (eBool (eIsi .list (eVar 0)))) (tOr (eBool (eOp fGt (eApp fLen [(eVar 0)]) (eCon (.int 200)))) (tNot (eBool (eApp fAllB [(eLc (itSeq (eVar 0)) (.nm 2) [2] tTrue (eCall (Γ 55) [.v (eVar 2)]))]))))) (sRet (eCon (.bl false))) sNx) (sSeq (sSet 1 (eCall (Γ 56) [.v (eVar 0)])) (sRet (eAnd (eOp fEq (eUn fLenSet (eVar 0)) (eApp fLen [(eVar 0)])) (eOp fEq (eUn fLenSet (eVar 1)) (eApp fLen [(eVar 1)]))))))
/-- need_rows -/
def mb_58 (Γ : Nat → Fn) : St := (sIf (tNot (eBool (eCall (Γ 57) [.v (eVar 0)]))) sBad sNx)
/-- in_course -/
def mb_59 (Γ : Nat → Fn) : St := (sSeq (sSet 1 (eFr (eLc (itSeq (eVar 0)) (.nm 2) [2] tTrue (eApp fTup [(eApp fIntB [(eOp fNe (eOp fIx (eVar 2) (eCon (.int 0))) (eCon (.str [119, 114, 111, 110, 103])))]), (eOp fIx (eVar 2) (eCon (.int 1))), (eUn (fIndexC [[119, 114, 111, 110, 103], [112, 97, 105, 100], [98, 97, 99, 107], [108, 101, 110, 116], [98, 111, 117, 103, 104, 116]]) (eOp fIx (eVar 2) (eCon (.int 0)))), (eVar 2)])))) (sRet (eLc (itSeq (eApp fSortedB [(eVar 1)])) (.nm 3) [3] tTrue (eOp fIx (eVar 3) (eCon (.int 3))))))
/-- course_of -/
def mb_114 (Γ : Nat → Fn) : St := (sSeq (sDrop (eCall (Γ 58) [.v (eVar 0)])) (sRet (eCall (Γ 59) [.v (eVar 0)])))
/-- _law_draws -/
def mb_6 (Γ : Nat → Fn) : St := (sSeq (sSet 2 (eFr (eOp fMul (eCon (.int 15485863)) (eVar 1)))) (sSeq (sIf (eBool (eOp fLt (eVar 1) (eApp fLen [(eVar 0)]))) (sSet 2 (eOp fMod (eOp fIx (eVar 0) (eVar 1)) (eOp fMul (eOp fPow (eCon (.int 10)) (eCon (.int 60))) (eOp fPow (eCon (.int 10)) (eCon (.int 60)))))) (sIf (eBool (eOp fGt (eApp fLen [(eVar 0)]) (eCon (.int 0)))) (sSet 2 (eFr (eOp fAdd (eOp fMod (eOp fIx (eVar 0) (eOp fMod (eVar 1) (eApp fLen [(eVar 0)]))) (eOp fPow (eCon (.int 10)) (eCon (.int 15)))) (eOp fMul (eCon (.int 15485863)) (eVar 1))))) sNx)) (sRet (eApp fLst [(eOp fMul (eVar 2) (eApp fIntB [(eOp fGe (eVar 2) (eOp fPow (eCon (.int 10)) (eCon (.int 18))))])), (eOp fAdd (eCon (.int 1)) (eOp fMod (eOp fAdd (eOp fMul (eVar 2) (eCon (.int 69621))) (eOp fMul (eCon (.int 86028121)) (eOp fAdd (eVar 1) (eCon (.int 1))))) (eCon (.int 2147483646))))]))))
/-- _law_draw -/
def mb_7 (Γ : Nat → Fn) : St := (sSeq (sIf (eBool (eOp fGt (eIxO 0 (eCon (.int 0))) (eCon (.int 0)))) (sSeq (sSet 2 (eOp fMod (eIxO 0 (eCon (.int 0))) (eVar 1))) (sSeq (sSetIx 0 (eCon (.int 0)) (eOp fDiv (eIxO 0 (eCon (.int 0))) (eVar 1))) (sRet (eVar 2)))) sNx) (sSeq (sSet 2 (eCon (.int 0))) (sSeq (sSet 3 (eCon (.int 1))) (sSeq (sWhile 64 (eBool (eOp fLt (eVar 3) (eVar 1))) (sSeq (sSetIx 0 (eCon (.int 1)) (eOp fMod (eOp fMul (eIxO 0 (eCon (.int 1))) (eCon (.int 69621))) (eCon (.int 2147483647)))) (sSeq (sSet 2 (eFr (eOp fAdd (eOp fMul (eVar 2) (eCon (.int 268435456))) (eOp fDiv (eOp fMod (eOp fMul (eIxO 0 (eCon (.int 1))) (eOp fAdd (eOp fDiv (eIxO 0 (eCon (.int 1))) (eCon (.int 128))) (eCon (.int 3)))) (eCon (.int 2147483629))) (eCon (.int 8)))))) (sSet 3 (eFr (eOp fMul (eVar 3) (eCon (.int 268435456)))))))) (sRet (eOp fMod (eVar 2) (eVar 1)))))))
/-- _law_names -/
def mb_11 (Γ : Nat → Fn) : St := (sSeq (sSet 2 (eCon (.str [97, 98, 99, 100, 101, 102, 103, 104, 105, 106, 107, 108, 109, 110, 111, 112, 113, 114, 115, 116, 117, 118, 119, 120, 121, 122]))) (sSeq (sSet 3 (eJoin (eCon (.str [])) (eLc (itRange1 (eOp fIx (eApp fLst [(eCon (.int 0)), (eCon (.int 1)), (eCon (.int 2)), (eCon (.int 7))]) (eCall (Γ 7) [.b 0, .v (eCon (.int 4))]))) (.nm 6) [6] tTrue (eOp fIx (eVar 2) (eCall (Γ 7) [.b 0, .v (eCon (.int 26))]))))) (sSeq (sSet 4 (eCall (Γ 7) [.b 0, .v (eCon (.int 26))])) (sSeq (sSet 5 (eOp fIx (eApp fLst [(eCon (.int 1)), (eCon (.int 3)), (eCon (.int 5)), (eCon (.int 7))]) (eCall (Γ 7) [.b 0, .v (eCon (.int 4))]))) (sRet (eFr (eApp fSorted [(eLc (itRange1 (eVar 1)) (.nm 6) [6] tTrue (eOp fAdd (eVar 3) (eOp fIx (eVar 2) (eOp fMod (eOp fAdd (eVar 4) (eOp fMul (eVar 5) (eVar 6))) (eCon (.int 26))))))])))))))
/-- _law_some -/
def mb_8 (Γ : Nat → Fn) : St := (sSeq (sSet 3 eDnew) (sSeq (sFor (itRange1 (eCall (Γ 7) [.b 0, .v (eOp fAdd (eVar 2) (eCon (.int 1)))])) (.nm 4) (sDput 3 (eOp fIx (eVar 1) (eCall (Γ 7) [.b 0, .v (eApp fLen [(eVar 1)])])) (eCon (.bl true)))) (sRet (eApp fTuple [(eApp fSorted [(ePeekL (eApp fList [(eVar 3)]))])]))))
/-- _law_rule -/
def mb_9 (Γ : Nat → Fn) : St := (sSeq (sSet 4 (eFr (eOp fAdd (eCon (.int 1)) (eOp fIx (eApp fLst [(eCon (.int 0)), (eCall (Γ 7) [.b 0, .v (eCon (.int 9))]), (eCall (Γ 7) [.b 0, .v (eVar 3)])]) (eCall (Γ 7) [.b 0, .v (eCon (.int 3))]))))) (sSeq (sSet 5 (eApp fMin2 [(eOp fPow (eCon (.int 10)) (eCon (.int 6))), (eOp fAdd (eVar 4) (eOp fIx (eApp fLst [(eCon (.int 0)), (eCall (Γ 7) [.b 0, .v (eCon (.int 9))]), (eCall (Γ 7) [.b 0, .v (eVar 3)]), (eOp fPow (eCon (.int 10)) (eCon (.int 6)))]) (eCall (Γ 7) [.b 0, .v (eCon (.int 4))])))])) (sSeq (sSet 6 (eCall (Γ 8) [.b 0, .v (eLRg1 (eCon (.int 7))), .v (eOp fIx (eApp fLst [(eCon (.int 0)), (eCon (.int 3)), (eCon (.int 7))]) (eCall (Γ 7) [.b 0, .v (eCon (.int 3))]))])) (sSeq (sSet 7 (eOp fIx (eApp fLst [(eCon (.str [98, 97, 114])), (eCon (.str [108, 101, 116]))]) (eOp fDiv (eCall (Γ 7) [.b 0, .v (eCon (.int 5))]) (eCon (.int 3))))) (sRet (eApp fTup [(eVar 7), (eCall (Γ 8) [.b 0, .v (eVar 1), .v (eCon (.int 2))]), (eCall (Γ 8) [.b 0, .v (eVar 2), .v (eCon (.int 2))]), (eVar 6), (eVar 4), (eVar 5)]))))))
/-- _law_book -/
def mb_10 (Γ : Nat → Fn) : St := (sSeq (sSet 3 (eOp fIx (eApp fLst [(eCon (.int 30)), (eOp fPow (eCon (.int 10)) (eCon (.int 6)))]) (eOp fDiv (eCall (Γ 7) [.b 0, .v (eCon (.int 4))]) (eCon (.int 3))))) (sRet (eApp fTuple [(eLc (itRange1 (eCall (Γ 7) [.b 0, .v (eCon (.int 6))])) (.nm 4) [4] tTrue (eCall (Γ 9) [.b 0, .v (eVar 1), .v (eVar 2), .v (eVar 3)]))])))
/-- _law_shop -/
def mb_107 (Γ : Nat → Fn) : St := (sSeq (sSet 3 eDnew) (sSeq (sFor (itRange1 (eCall (Γ 7) [.b 0, .v (eCon (.int 4))])) (.nm 4) (sSeq (sSet 7 (eOp fIx (eOp fAdd (eApp fLst [(eCon (.str []))]) (eVar 1)) (eCall (Γ 7) [.b 0, .v (eOp fAdd (eApp fLen [(eVar 1)]) (eCon (.int 1)))]))) (sDput 3 (eVar 7) (eOp fAdd (eOp fIx (eApp fLst [(eCon (.int 0)), (eCon (.int 9)), (eCon (.int 20)), (eCon (.int 60))]) (eCall (Γ 7) [.b 0, .v (eCon (.int 4))])) (eCall (Γ 7) [.b 0, .v (eCon (.int 9))]))))) (sSeq (sSet 5 eDnew) (sSeq (sFor (itRange1 (eCall (Γ 7) [.b 0, .v (eCon (.int 3))])) (.nm 4) (sDput 5 (eOp fAdd (eCon (.int 1)) (eCall (Γ 7) [.b 0, .v (eCon (.int 20))])) (eOp fIx (eApp fLst [(eCon (.str [99, 97, 114, 114, 105, 101, 100])), (eCon (.str [103, 105, 118, 101, 110]))]) (eCall (Γ 7) [.b 0, .v (eCon (.int 2))])))) (sSeq (sSet 6 (eCall (Γ 10) [.b 0, .v (eVar 1), .v (eVar 2)])) (sRet (eApp fTup [(eVar 6), (eApp fTuple [(ePeekLI (eUn fSortItems (eVar 3)))]), (eApp fTuple [(ePeekLI (eUn fSortItems (eVar 5)))])])))))))
/-- _law_any_order -/
def mb_130 (Γ : Nat → Fn) : St := (sSeq (sSet 2 (eApp fLst [])) (sSeq (sFor (itRange1 (eVar 1)) (.nm 3) (sDrop (eMth fInsert 2 [(eCall (Γ 7) [.b 0, .v (eOp fAdd (eVar 3) (eCon (.int 1)))]), (eVar 3)]))) (sRet (eFzV 2))))
/-- _law_rows -/
def mb_131 (Γ : Nat → Fn) : St := (sSeq (sSet 4 eNnew) (sSeq (sFor (itRange1 (eVar 3)) (.nm 5) (sSeq (sSet 7 (eOp fIx (eVar 2) (eCall (Γ 7) [.b 0, .v (eApp fLen [(eVar 2)])]))) (sSeq (sSet 8 (eOp fIx (eVar 2) (eCall (Γ 7) [.b 0, .v (eApp fLen [(eVar 2)])]))) (sSeq (sSet 9 (eCall (Γ 7) [.b 0, .v (eOp fIx (eApp fLst [(eCon (.int 5)), (eCon (.int 24))]) (eCall (Γ 7) [.b 0, .v (eCon (.int 2))]))])) (sSeq (sSet 10 (eFr (eOp fAdd (eCon (.int 1)) (eCall (Γ 7) [.b 0, .v (eOp fIx (eApp fLst [(eCon (.int 6)), (eCon (.int 40))]) (eCall (Γ 7) [.b 0, .v (eCon (.int 2))]))])))) (sSeq (sSet 11 (eCall (Γ 7) [.b 0, .v (eCon (.int 12))])) (sIf (eBool (eOp fLt (eVar 11) (eCon (.int 4)))) (sNput 4 (eApp fTup [(eCon (.str [112, 97, 105, 100])), (eOp fIx (eApp fLst [(eVar 9), (eCon (.int 0))]) (eCall (Γ 7) [.b 0, .v (eCon (.int 2))])), (eVar 7), (eVar 10)]) (eCon (.bl true))) (sIf (tAnd (eBool (eOp fEq (eVar 11) (eCon (.int 4)))) (eBool (eOp fNe (eVar 7) (eVar 8)))) (sNput 4 (eApp fTup [(eCon (.str [119, 114, 111, 110, 103])), (eVar 9), (eCall (Γ 7) [.b 0, .v (eVar 3)]), (eVar 7), (eVar 8)]) (eCon (.bl true))) (sIf (tAnd (eBool (eOp fEq (eVar 11) (eCon (.int 5)))) (eBool (eOp fNe (eVar 7) (eVar 8)))) (sNput 4 (eApp fTup [(eCon (.str [108, 101, 110, 116])), (eVar 9), (eVar 7), (eVar 8), (eVar 10)]) (eCon (.bl true))) (sIf (tAnd (eBool (eOp fEq (eVar 11) (eCon (.int 6)))) (eBool (eOp fNe (eVar 7) (eVar 8)))) (sNput 4 (eApp fTup [(eCon (.str [98, 97, 99, 107])), (eVar 9), (eVar 7), (eVar 8), (eVar 10)]) (eCon (.bl true))) (sSeq (sSet 12 (eOrV (eCall (Γ 8) [.b 0, .v (eVar 2), .v (eOp fIx (eApp fLst [(eCon (.int 0)), (eCon (.int 4))]) (eCall (Γ 7) [.b 0, .v (eCon (.int 2))]))]) (eApp fTup [(eVar 7)]))) (sSeq (sSet 13 (eOp fIx (eVar 1) (eCall (Γ 7) [.b 0, .v (eApp fLen [(eVar 1)])]))) (sNput 4 (eApp fTup [(eCon (.str [98, 111, 117, 103, 104, 116])), (eVar 9), (eVar 5), (eVar 12), (eVar 13), (eApp fMax2 [(eVar 10), (eApp fLen [(eVar 12)])])]) (eCon (.bl true))))))))))))))) (sSeq (sSet 6 (eFr (ePeekLI (eApp fSortedB [(eVar 4)])))) (sRet (eLc (itSeq (eCall (Γ 130) [.b 0, .v (eApp fLen [(eVar 6)])])) (.nm 5) [5] tTrue (eOp fIx (eVar 6) (eVar 5)))))))
/-- _law_case -/
def mb_132 (Γ : Nat → Fn) : St := (sSeq (sSet 1 (eCall (Γ 11) [.b 0, .v (eCon (.int 3))])) (sSeq (sSet 2 (eCall (Γ 11) [.b 0, .v (eOp fAdd (eCon (.int 2)) (eCall (Γ 7) [.b 0, .v (eCon (.int 4))]))])) (sSeq (sSet 3 (eCall (Γ 107) [.b 0, .v (eVar 1), .v (eVar 2)])) (sRet (eApp fTup [(eVar 3), (eCall (Γ 131) [.b 0, .v (eVar 1), .v (eVar 2), .v (eOp fIx (eApp fLst [(eCon (.int 8)), (eCon (.int 25)), (eCon (.int 45))]) (eCall (Γ 7) [.b 0, .v (eCon (.int 3))]))]), (eVar 1), (eVar 2)])))))
/-- law -/
def mb_139 (Γ : Nat → Fn) : St := (sSeq (sSet 1 (eFr (eApp fLst [(eCon (.str [119, 114, 111, 110, 103])), (eCon (.str [112, 97, 105, 100])), (eCon (.str [98, 97, 99, 107])), (eCon (.str [108, 101, 110, 116])), (eCon (.str [98, 111, 117, 103, 104, 116]))]))) (sSeq (sFor (itRange1 (eApp fMax2 [(eCon (.int 1)), (eApp fMin2 [(eCon (.int 30)), (eApp fLen [(eVar 0)])])])) (.nm 2) (sSeq (sSet 3 (eCall (Γ 6) [.v (eVar 0), .v (eVar 2)])) (sSeq (sPut (.tp [(.nm 4), (.nm 5), (.nm 6), (.nm 7)]) (eCall (Γ 132) [.b 3])) (sSeq (sSet 8 (eFr (eLc (itSeq (eVar 5)) (.nm 14) [14] tTrue (eOp fAdd (eOp fAdd (eSl (eVar 14) none (some (eCon (.int 1)))) (eApp fTup [(eOp fMod (eOp fIx (eVar 14) (eCon (.int 1))) (eCon (.int 5)))])) (eSl (eVar 14) (some (eCon (.int 2))) none))))) (sSeq (sSet 8 (eFr (eLc (itRange1 (eApp fLen [(eVar 8)])) (.nm 12) [12] (eBool (eOp fNotInB (eOp fIx (eVar 8) (eVar 12)) (eSl (eVar 8) none (some (eVar 12))))) (eOp fIx (eVar 8) (eVar 12))))) (sFor (itSeq (eApp fTup [(eVar 5), (eVar 8)])) (.nm 9) (sSeq (sSet 10 (eFr (eApp fList [(eVar 9)]))) (sSeq (sSet 11 (eCall (Γ 114) [.v (eVar 10)])) (sSeq (sIf (tOr (tNot (eBool (ePeek (eIsi .list (eVar 11))))) (tOr (eBool (eOp fNe (ePeekLI (eApp fSortedB [(eVar 11)])) (eApp fSortedB [(eVar 9)]))) (eBool (eOp fNe (eVar 10) (eVar 9))))) (sRet (eCon (.bl false))) sNx) (sSeq (sFor (itRange2 (eCon (.int 1)) (ePeek (eApp fLen [(eVar 11)]))) (.nm 12) (sSeq (sSet 13 (eApp fLst [])) (sSeq (sFor (itSeq (eSlO 11 (some (eOp fSub (eVar 12) (eCon (.int 1)))) (some (eOp fAdd (eVar 12) (eCon (.int 1)))))) (.nm 14) (sDrop (eMth fAppend 13 [(eApp fTup [(eApp fIntB [(eOp fNe (eOp fIx (eVar 14) (eCon (.int 0))) (eCon (.str [119, 114, 111, 110, 103])))]), (eOp fIx (eVar 14) (eCon (.int 1))), (eIndexL (eVar 1) (eOp fIx (eVar 14) (eCon (.int 0)))), (eVar 14)])]))) (sIf (eBool (eOp fGeB (eIxO 13 (eCon (.int 0))) (eIxO 13 (eCon (.int 1))))) (sRet (eCon (.bl false))) sNx)))) (sSeq (sIf (eBool (ePk2 fNe (eCall (Γ 114) [.v (eLc (itSeq (eCall (Γ 130) [.b 3, .v (eApp fLen [(eVar 9)])])) (.nm 12) [12] tTrue (eOp fIx (eVar 9) (eVar 12)))]) 11)) (sRet (eCon (.bl false))) sNx) (sSeq (sDrop (eMth fAppend 11 [(eCon (.str [122, 122]))])) (sIf (eBool (eOp fNe (eCall (Γ 114) [.v (eVar 9)]) (eSlO 11 none (some (eUn fNeg (eCon (.int 1))))))) (sRet (eCon (.bl false))) sNx))))))))))))) (sRet (eCon (.bl true)))))
def bodyF (Γ : Nat → Fn) : Nat → Fn
  | 0 => runF 3 [] (mb_0 Γ)
  | 1 => runF 2 [] (mb_1 Γ)
  | 2 => runF 2 [] (mb_2 Γ)
  | 3 => runF 4 [] (mb_3 Γ)
  | 54 => runF 2 [] (mb_54 Γ)
  | 55 => runF 1 [] (mb_55 Γ)
  | 56 => runF 2 [] (mb_56 Γ)
  | 57 => runF 3 [] (mb_57 Γ)
  | 58 => runF 1 [] (mb_58 Γ)
  | 59 => runF 4 [] (mb_59 Γ)
  | 114 => runF 1 [] (mb_114 Γ)
  | 6 => runF 3 [] (mb_6 Γ)
  | 7 => runF 4 [0] (mb_7 Γ)
  | 11 => runF 7 [0] (mb_11 Γ)
  | 8 => runF 5 [0] (mb_8 Γ)
  | 9 => runF 8 [0] (mb_9 Γ)
  | 10 => runF 5 [0] (mb_10 Γ)
  | 107 => runF 8 [0] (mb_107 Γ)
  | 130 => runF 4 [0] (mb_130 Γ)
  | 131 => runF 14 [0] (mb_131 Γ)
  | 132 => runF 4 [0] (mb_132 Γ)
  | 139 => runF 15 [] (mb_139 Γ)
  | _ => fun _ => .bad
def callF (k : Nat) : Nat → Fn := Nat.rec (fun _ _ => .bad) (fun _ Γ => bodyF Γ) k
end LW

/-! TbP: the mirror evaluated; the laws' draws -/
namespace TB
section
variable {α β : Type}
@[simp] theorem bind_ap (m : M α) (f : α → M β) (S : List Slot) : M.bind m f S = (m S).bind f := rfl
@[simp] theorem rbind_ok (a : α) (S : List Slot) (f : α → M β) : (R.ok a S).bind f = f a S := rfl
@[simp] theorem rbind_bad (f : α → M β) : (R.bad : R α).bind f = .bad := rfl
@[simp] theorem rbind_exc (x : Xc) (S : List Slot) (f : α → M β) : (R.exc x S : R α).bind f = .exc x S := rfl
@[simp] theorem pure_ap (a : α) (S : List Slot) : M.pure a S = R.ok a S := rfl
@[simp] theorem ite_ap (c : Prop) [Decidable c] (f g : M α) (S : List Slot) : (if c then f else g) S = if c then f S else g S := by split <;> rfl
@[simp] theorem rbind_ite (c : Prop) [Decidable c] (x y : R α) (f : α → M β) : (if c then x else y).bind f = if c then x.bind f else y.bind f := by split <;> rfl
end
@[simp] theorem eVar_ap (i : Nat) (S : List Slot) : eVar i S = match S[i]? with | some (some (.fz, d)) => .ok (.fz, d) S | _ => .bad := rfl
@[simp] theorem eMv_ap (i : Nat) (S : List Slot) : eMv i S = match S[i]? with | some (some kd) => .ok kd (S.set i none) | _ => .bad := rfl
@[simp] theorem eFzV_ap (i : Nat) (S : List Slot) : eFzV i S = match S[i]? with | some (some (_, d)) => .ok (.fz, d) (S.set i (some (.fz, d))) | _ => .bad := rfl
@[simp] theorem eCon_ap (d : D) (S : List Slot) : eCon d S = .ok (.fz, d) S := rfl
@[simp] theorem eDat_ap (e : E) (S : List Slot) : eDat e S = (e S).bind fun kd => M.pure kd.2 := rfl
@[simp] theorem eAll_nil (S : List Slot) : eAll [] S = .ok [] S := rfl
@[simp] theorem eAll_cons (e : E) (es : List E) (S : List Slot) : eAll (e :: es) S = (eDat e S).bind fun d S1 => (eAll es S1).bind fun ds S2 => .ok (d :: ds) S2 := rfl
@[simp] theorem ofO_some (kd : KD) (S : List Slot) : ofO (some kd) S = .ok kd S := rfl
@[simp] theorem ofO_none (S : List Slot) : ofO none S = .bad := rfl
@[simp] theorem ofO_ite (c : Prop) [Decidable c] (a b : Option KD) (S : List Slot) : ofO (if c then a else b) S = if c then ofO a S else ofO b S := by split <;> rfl
@[simp] theorem eFr_ap (e : E) (S : List Slot) : eFr e S = (e S).bind fun kd S1 => .ok (.fz, kd.2) S1 := rfl
@[simp] theorem eApp_ap (f : List D → Option KD) (es : List E) (S : List Slot) : eApp f es S = (eAll es S).bind fun ds S1 => ofO (f ds) S1 := rfl
@[simp] theorem eOp_ap (f : D → D → Option KD) (a b : E) (S : List Slot) : eOp f a b S = (eDat a S).bind fun x S1 => (eDat b S1).bind fun y S2 => ofO (f x y) S2 := rfl
@[simp] theorem eUn_ap (f : D → Option KD) (a : E) (S : List Slot) : eUn f a S = (eDat a S).bind fun x S1 => ofO (f x) S1 := rfl
@[simp] theorem eIsi_ap (t : Ty) (a : E) (S : List Slot) : eIsi t a S = (eDat a S).bind fun x S1 => ofO (fIsi t x) S1 := rfl
@[simp] theorem eBool_ap (e : E) (S : List Slot) : eBool e S = (e S).bind fun kd S1 => (match kd.2 with | .bl b => (M.pure b : M Bool) | _ => fun _ => .bad) S1 := rfl
@[simp] theorem eAnd_ap (a b : E) (S : List Slot) : eAnd a b S = (eBool a S).bind fun c S1 => if c = true then b S1 else .ok (.fz, .bl false) S1 := by
  show (eBool a S).bind (fun c => if c = true then b else M.pure (.fz, .bl false)) = _
  congr 1; funext c S1; split <;> rfl
@[simp] theorem eOr_ap (a b : E) (S : List Slot) : eOr a b S = (eBool a S).bind fun c S1 => if c = true then .ok (.fz, .bl true) S1 else b S1 := by
  show (eBool a S).bind (fun c => if c = true then M.pure (.fz, .bl true) else b) = _
  congr 1; funext c S1; split <;> rfl
@[simp] theorem eNot_ap (a : E) (S : List Slot) : eNot a S = (eBool a S).bind fun c S1 => .ok (.fz, .bl (!c)) S1 := rfl
@[simp] theorem tAnd_ap (a b : T) (S : List Slot) : tAnd a b S = (a S).bind fun c S1 => if c = true then b S1 else .ok false S1 := by
  show (a S).bind (fun c => if c = true then b else M.pure false) = _
  congr 1; funext c S1; split <;> rfl
@[simp] theorem tOr_ap (a b : T) (S : List Slot) : tOr a b S = (a S).bind fun c S1 => if c = true then .ok true S1 else b S1 := by
  show (a S).bind (fun c => if c = true then M.pure true else b) = _
  congr 1; funext c S1; split <;> rfl
@[simp] theorem tNot_ap (a : T) (S : List Slot) : tNot a S = (a S).bind fun c S1 => .ok (!c) S1 := rfl
@[simp] theorem tTrue_ap (S : List Slot) : tTrue S = .ok true S := rfl
@[simp] theorem eIf_ap (c : T) (a b : E) (S : List Slot) : eIf c a b S = (c S).bind fun x S1 => if x = true then a S1 else b S1 := by
  show (c S).bind (fun x => if x = true then a else b) = _
  congr 1; funext c S1; split <;> rfl
@[simp] theorem eChain_ap (f g : D → D → Option KD) (a b c : E) (S : List Slot) : eChain f g a b c S = (eDat a S).bind fun x S1 => (eDat b S1).bind fun y S2 => chain2 g c y (f x y) S2 := rfl
@[simp] theorem chain2_ap (g : D → D → Option KD) (c : E) (y : D) (b : Bool) (S : List Slot) : chain2 g c y (some (.fz, .bl b)) S = if b = true then (eDat c S).bind fun z S1 => ofO (g y z) S1 else .ok (.fz, .bl false) S := by
  show (if b = true then M.bind (eDat c) (fun z => ofO (g y z)) else M.pure (.fz, .bl false)) S = _
  split <;> rfl
@[simp] theorem ePeek_ap (e : E) (S : List Slot) : ePeek e S = match e (S.map frz) with | .ok (_, d) _ => (if d.flat = true then .ok (.fz, d) S else .bad) | _ => .bad := rfl
@[simp] theorem tPeek_ap (c : T) (S : List Slot) : tPeek c S = match c (S.map frz) with | .ok b _ => .ok b S | _ => .bad := rfl
@[simp] theorem ePeekL_ap (e : E) (S : List Slot) : ePeekL e S = match e (S.map frz) with | .ok (.li .fz, .lst ds) _ => (if ds.all D.flat = true then .ok (.li .fz, .lst ds) S else .bad) | _ => .bad := rfl
@[simp] theorem sNx_ap (S : List Slot) : sNx S = .ok .nx S := rfl
@[simp] theorem sSet_ap (i : Nat) (e : E) (S : List Slot) : sSet i e S = (e S).bind fun kd S1 => if i < S1.length then .ok .nx (S1.set i (some kd)) else .bad := rfl
@[simp] theorem sPut_ap (g : Tg) (e : E) (S : List Slot) : sPut g e S = (eDat e S).bind fun d S1 => match g.put d S1 with | some S' => .ok .nx S' | none => .bad := rfl
@[simp] theorem sSeq_ap (a b : St) (S : List Slot) : sSeq a b S = (a S).bind fun f S1 => (match f with | .nx => b | f => M.pure f) S1 := rfl
@[simp] theorem sRet_ap (e : E) (S : List Slot) : sRet e S = (e S).bind fun kd S1 => .ok (.rt kd) S1 := rfl
@[simp] theorem sDrop_ap (e : E) (S : List Slot) : sDrop e S = (e S).bind fun _ S1 => .ok .nx S1 := rfl
@[simp] theorem sIf_ap (c : T) (a b : St) (S : List Slot) : sIf c a b S = (c S).bind fun x S1 => if x = true then a S1 else b S1 := by
  show (c S).bind (fun x => if x = true then a else b) = _
  congr 1; funext c S1; split <;> rfl
@[simp] theorem sFor_ap (it : It) (g : Tg) (b : St) (S : List Slot) : sFor it g b S = (it S).bind fun ds S1 => loop g b ds S1 := rfl
@[simp] theorem itSeq_ap (e : E) (S : List Slot) : itSeq e S = (eDat e S).bind fun d S1 => (match itemsOf d with | some xs => (M.pure xs : It) | none => fun _ => .bad) S1 := rfl
@[simp] theorem itStr_ap (e : E) (S : List Slot) : itStr e S = (eDat e S).bind fun d S1 => (match d with | .str s => (M.pure (s.map fun c => D.str [c]) : It) | _ => fun _ => .bad) S1 := rfl
@[simp] theorem itRange1_ap (e : E) (S : List Slot) : itRange1 e S = (eDat e S).bind fun d S1 => (match d with | .int j => (if j.natAbs < limN then (M.pure (rangeL 0 j.toNat) : It) else fun _ => .bad) | _ => fun _ => .bad) S1 := rfl
@[simp] theorem itRange2_ap (a b : E) (S : List Slot) : itRange2 a b S = (eDat a S).bind fun x S1 => (eDat b S1).bind fun y S2 => (match x, y with | .int i, .int j => (if i.natAbs < limN ∧ j.natAbs < limN then (M.pure (rangeL i (j - i).toNat) : It) else fun _ => .bad) | _, _ => fun _ => .bad) S2 := rfl
@[simp] theorem hasL_ap (i : Nat) (S : List Slot) : hasL i S = match ownL S i with | some _ => .ok () S | none => .bad := rfl
@[simp] theorem hasK_ap (i : Nat) (S : List Slot) : hasK i S = match ownK S i with | some _ => .ok () S | none => .bad := rfl
@[simp] theorem sSetIx_ap (i : Nat) (k e : E) (S : List Slot) : sSetIx i k e S = (eDat e S).bind fun y S1 => (hasL i S1).bind fun _ S2 => (eDat k S2).bind fun x S3 => match ownL S3 i, x with
  | some xs, .int j => (match normIx xs.length j with | some n => .ok .nx (S3.set i (some (.li .fz, .lst (xs.set n y)))) | none => .bad)
  | _, _ => .bad := rfl
@[simp] theorem eIxO_ap (i : Nat) (k : E) (S : List Slot) : eIxO i k S = (hasL i S).bind fun _ S2 => (eDat k S2).bind fun x S3 => match ownL S3 i, x with
  | some xs, .int j => (match (normIx xs.length j).bind fun n => xs[n]? with | some d => .ok (.fz, d) S3 | none => .bad)
  | _, _ => .bad := rfl
@[simp] theorem eMth_ap (f : List D → List D → Option (D × List D)) (i : Nat) (es : List E) (S : List Slot) : eMth f i es S = (hasL i S).bind fun _ S2 => (eAll es S2).bind fun ds S3 => match ownL S3 i with
  | some xs => (match f xs ds with | some (r, ys) => .ok (.fz, r) (S3.set i (some (.li .fz, .lst ys))) | none => .bad)
  | none => .bad := rfl
@[simp] theorem sDput_ap (i : Nat) (k e : E) (S : List Slot) : sDput i k e S = (eDat e S).bind fun y S1 => (hasK i S1).bind fun _ S2 => (eDat k S2).bind fun x S3 => match ownK S3 i with
  | some kvs => (if isKey x = true ∧ kvs.length < sizeMax then .ok .nx (S3.set i (some (.dK .fz, .dic (putD kvs x y)))) else .bad)
  | none => .bad := rfl
@[simp] theorem eDnew_ap (S : List Slot) : eDnew S = .ok (.dK .fz, .dic []) S := rfl
@[simp] theorem eOpt_none (S : List Slot) : eOpt none S = .ok none S := rfl
@[simp] theorem eOpt_some (e : E) (S : List Slot) : eOpt (some e) S = (eDat e S).bind fun d S1 => (match d with | .int i => (M.pure (some i) : M (Option Int)) | _ => fun _ => .bad) S1 := rfl
@[simp] theorem eSl_ap (a : E) (lo hi : Option E) (S : List Slot) : eSl a lo hi S = (eDat a S).bind fun x S1 => (eOpt lo S1).bind fun l S2 => (eOpt hi S2).bind fun h S3 => ofO (fSl x l h) S3 := rfl
@[simp] theorem eSlO_ap (i : Nat) (lo hi : Option E) (S : List Slot) : eSlO i lo hi S = (hasL i S).bind fun _ S1 => (eOpt lo S1).bind fun l S2 => (eOpt hi S2).bind fun h S3 => match ownL S3 i with
  | some xs => .ok (.li .fz, .lst (cutL xs l h)) S3
  | none => .bad := rfl
@[simp] theorem eJoin_ap (a b : E) (S : List Slot) : eJoin a b S = (eDat a S).bind fun x S1 => (match x with | .str s => M.bind (eDat b) fun y => ofO (fJoin s y) | _ => fun _ => .bad) S1 := rfl
@[simp] theorem eLRg1_ap (a : E) (S : List Slot) : eLRg1 a S = (eDat a S).bind fun d S1 => (match d with | .int j => (if j.natAbs ≤ sizeMax then (M.pure (.li .fz, .lst (rangeL 0 j.toNat)) : E) else fun _ => .bad) | _ => fun _ => .bad) S1 := rfl
theorem eCall_ap (F : Fn) (as : List Ar) (S : List Slot) : eCall F as S = (arEv as S).bind fun vs S1 => match arIn vs S1 with
  | none => .bad
  | some (ks, S1) => (match F ks with
    | .ret r os => (match arOut vs os S1 with | some S2 => .ok r S2 | none => .bad)
    | .exc x os => (match arOut vs os S1 with | some S2 => .exc x S2 | none => .bad)
    | .bad => .bad) := rfl
theorem arEv_nil (S : List Slot) : arEv [] S = .ok [] S := rfl
theorem arEv_v (e : E) (as : List Ar) (S : List Slot) : arEv (.v e :: as) S = (eDat e S).bind fun d S1 => (arEv as S1).bind fun r S2 => .ok (.v d :: r) S2 := rfl
theorem arEv_b (i : Nat) (as : List Ar) (S : List Slot) : arEv (.b i :: as) S = match S[i]? with | some (some _) => (arEv as S).bind (fun r S2 => .ok (.b i :: r) S2) | _ => .bad := rfl
/-! ### what comes, as a promise -/
def okP {α : Type} (r : R α) (Q : α → List Slot → Prop) : Prop := match r with
  | .ok a S => Q a S
  | _ => False
section
variable {α β : Type}
theorem okP_congr {r r' : R α} {Q : α → List Slot → Prop} (h : r = r') : okP r Q = okP r' Q := by rw [h]
theorem rbind_congr {r r' : R α} {f : α → M β} (h : r = r') : r.bind f = r'.bind f := by rw [h]
@[simp] theorem okP_ok (a : α) (S : List Slot) (Q : α → List Slot → Prop) : okP (.ok a S) Q = Q a S := rfl
@[simp] theorem okP_bad (Q : α → List Slot → Prop) : okP (.bad) Q = False := rfl
@[simp] theorem okP_bind (r : R α) (f : α → M β) (Q : β → List Slot → Prop) : okP (r.bind f) Q = okP r (fun a S => okP (f a S) Q) := by cases r <;> rfl
theorem okP.of {r : R α} {a : α} {S : List Slot} {Q : α → List Slot → Prop} (e : r = .ok a S) (h : Q a S) : okP r Q := by rw [e]; exact h
theorem okP.mono {r : R α} {Q Q' : α → List Slot → Prop} (h : okP r Q) (i : ∀ a S, Q a S → Q' a S) : okP r Q' := by
  cases r with
  | ok a S => exact i a S h
  | exc x S => exact h
  | bad => exact h
theorem okP.ex {r : R α} {Q : α → List Slot → Prop} (h : okP r Q) : ∃ a S, r = .ok a S ∧ Q a S := by
  cases r with
  | ok a S => exact ⟨a, S, rfl, h⟩
  | exc x S => exact h.elim
  | bad => exact h.elim
end
def fin (as : List KD) (Q : KD → List KD → Prop) (f : Fl) (S : List Slot) : Prop := match f with
  | .rt r => (match outsOf as S with | some o => Q r o | none => False)
  | .nx => (match outsOf as S with | some o => Q (.fz, .non) o | none => False)
  | _ => False
@[simp] theorem fin_rt (as : List KD) (Q : KD → List KD → Prop) (r : KD) (S : List Slot) : fin as Q (.rt r) S = (match outsOf as S with | some o => Q r o | none => False) := rfl
@[simp] theorem fin_nx (as : List KD) (Q : KD → List KD → Prop) (S : List Slot) : fin as Q .nx S = (match outsOf as S with | some o => Q (.fz, .non) o | none => False) := rfl
theorem runF_eq (n : Nat) (pk : List Nat) (body : St) (as : List KD) : runF n pk body as = if pinned pk 0 as = true then (match body (as.map some ++ List.replicate (n - as.length) none) with
    | .ok (.rt r) S => frOf as r S
    | .ok .nx S => frOf as (.fz, .non) S
    | .exc x S => (match outsOf as S with | some o => .exc x o | none => .bad)
    | _ => .bad) else .bad := rfl
/-- a function's promise -/
def FnP (F : Fn) (as : List KD) (Q : KD → List KD → Prop) : Prop := ∃ r o, F as = .ret r o ∧ Q r o
theorem runF_wp {n : Nat} {pk : List Nat} {body : St} {as : List KD} {Q : KD → List KD → Prop} (hp : pinned pk 0 as = true) (h : okP (body (as.map some ++ List.replicate (n - as.length) none)) (fin as Q)) : FnP (runF n pk body) as Q := by
  obtain ⟨f, S, e, h⟩ := h.ex
  unfold FnP
  rw [runF_eq, if_pos hp, e]
  cases f with
  | rt r =>
    show ∃ r' o, frOf as r S = .ret r' o ∧ Q r' o
    unfold frOf
    have h : (match outsOf as S with | some o => Q r o | none => False) := h
    cases e2 : outsOf as S with
    | none => rw [e2] at h; exact h.elim
    | some o => rw [e2] at h; exact ⟨r, o, rfl, h⟩
  | nx =>
    show ∃ r' o, frOf as (.fz, .non) S = .ret r' o ∧ Q r' o
    unfold frOf
    have h : (match outsOf as S with | some o => Q (.fz, .non) o | none => False) := h
    cases e2 : outsOf as S with
    | none => rw [e2] at h; exact h.elim
    | some o => rw [e2] at h; exact ⟨_, o, rfl, h⟩
  | bk => exact h.elim
  | ct => exact h.elim
theorem call_wp {F : Fn} {as : List Ar} {S : List Slot} {Q : KD → List Slot → Prop} (h : okP (arEv as S) fun vs S1 => match arIn vs S1 with
    | some (ks, S2) => FnP F ks fun r os => (match arOut vs os S2 with | some S3 => Q r S3 | none => False)
    | none => False) : okP (eCall F as S) Q := by
  rw [eCall_ap, okP_bind]
  refine h.mono fun vs S1 h => ?_
  cases e : arIn vs S1 with
  | none => rw [e] at h; exact h.elim
  | some q =>
    obtain ⟨ks, S2⟩ := q
    rw [e] at h
    obtain ⟨r, os, e2, h⟩ := h
    have h : (match arOut vs os S2 with | some S3 => Q r S3 | none => False) := h
    simp only [e2]
    cases e3 : arOut vs os S2 with
    | none => rw [e3] at h; exact h.elim
    | some S3 => rw [e3] at h; exact h
theorem runF_ret {n : Nat} {pk : List Nat} {body : St} {as : List KD} {r : KD} {S : List Slot} {o : List KD} (hp : pinned pk 0 as = true) (hb : body (as.map some ++ List.replicate (n - as.length) none) = .ok (.rt r) S) (ho : outsOf as S = some o) : runF n pk body as = .ret r o := by
  unfold runF
  rw [if_pos hp, hb]
  show frOf as r S = _
  unfold frOf
  rw [ho]
/-- a while by an invariant and a measure -/
theorem while_inv {c : T} {b : St} (I : Nat → List Slot → Prop) (h : ∀ m S, I m S → c S = .ok false S ∨ (c S = .ok true S ∧ m ≠ 0 ∧ ∃ S', b S = .ok .nx S' ∧ I (m - 1) S')) :
    ∀ n m S, m < n → I m S → ∃ m' S', sWhile n c b S = .ok .nx S' ∧ I m' S' ∧ c S' = .ok false S'
  | 0, _, _, l, _ => absurd l (Nat.not_lt_zero _)
  | n + 1, m, S, l, i => by
    unfold sWhile
    rcases h m S i with e | ⟨e, hm, S', e2, i2⟩
    · exact ⟨m, S, by rw [bind_ap, e]; rfl, i, e⟩
    · obtain ⟨m', S2, e3, i3, e4⟩ := while_inv I h n (m - 1) S' (by omega) i2
      refine ⟨m', S2, ?_, i3, e4⟩
      rw [bind_ap, e, rbind_ok, if_pos rfl, bind_ap, e2, rbind_ok]
      exact e3
/-! ### draws -/
def dr (a b : Int) : KD := (.li .fz, .lst [.int a, .int b])
def DI (kd : KD) : Prop := ∃ a b, kd = dr a b ∧ 0 ≤ a ∧ a < 1000000000000000000000000000000000000000000000000000000000000000000000000000000000000000000000000000000000000000000000000 ∧ 0 ≤ b ∧ b < 2147483648
def DrawOk (F : Fn) : Prop := ∀ kd m, DI kd → 1 ≤ m → m < 1000000000000000000000000000000000000000000000000000000000000 → ∃ r kd', F [kd, (.fz, .int m)] = .ret (.fz, .int r) [kd'] ∧ DI kd' ∧ 0 ≤ r ∧ r < m
def bDraw : St := (sSeq (sIf (eBool (eOp fGt (eIxO 0 (eCon (.int 0))) (eCon (.int 0)))) (sSeq (sSet 2 (eOp fMod (eIxO 0 (eCon (.int 0))) (eVar 1))) (sSeq (sSetIx 0 (eCon (.int 0)) (eOp fDiv (eIxO 0 (eCon (.int 0))) (eVar 1))) (sRet (eVar 2)))) sNx) (sSeq (sSet 2 (eCon (.int 0))) (sSeq (sSet 3 (eCon (.int 1))) (sSeq (sWhile 64 (eBool (eOp fLt (eVar 3) (eVar 1))) (sSeq (sSetIx 0 (eCon (.int 1)) (eOp fMod (eOp fMul (eIxO 0 (eCon (.int 1))) (eCon (.int 69621))) (eCon (.int 2147483647)))) (sSeq (sSet 2 (eFr (eOp fAdd (eOp fMul (eVar 2) (eCon (.int 268435456))) (eOp fDiv (eOp fMod (eOp fMul (eIxO 0 (eCon (.int 1))) (eOp fAdd (eOp fDiv (eIxO 0 (eCon (.int 1))) (eCon (.int 128))) (eCon (.int 3)))) (eCon (.int 2147483629))) (eCon (.int 8)))))) (sSet 3 (eFr (eOp fMul (eVar 3) (eCon (.int 268435456)))))))) (sRet (eOp fMod (eVar 2) (eVar 1)))))))
def wBody : St := (sSeq (sSetIx 0 (eCon (.int 1)) (eOp fMod (eOp fMul (eIxO 0 (eCon (.int 1))) (eCon (.int 69621))) (eCon (.int 2147483647)))) (sSeq (sSet 2 (eFr (eOp fAdd (eOp fMul (eVar 2) (eCon (.int 268435456))) (eOp fDiv (eOp fMod (eOp fMul (eIxO 0 (eCon (.int 1))) (eOp fAdd (eOp fDiv (eIxO 0 (eCon (.int 1))) (eCon (.int 128))) (eCon (.int 3)))) (eCon (.int 2147483629))) (eCon (.int 8)))))) (sSet 3 (eFr (eOp fMul (eVar 3) (eCon (.int 268435456)))))))
theorem draw_ok : DrawOk (runF 4 [0] bDraw) := by
  rintro _ m ⟨a, b, rfl, a0, a1, b0, b1⟩ m1 m2
  unfold dr
  by_cases ha : a > 0
  · have hm : small m := by show m.natAbs < _; omega
    refine ⟨a % m, dr (a / m) b, ?_, ⟨a / m, b, rfl, Int.ediv_nonneg a0 (by omega), Int.lt_of_le_of_lt (Int.ediv_le_self _ a0) a1, b0, b1⟩, Int.emod_nonneg _ (by omega), Int.emod_lt_of_pos _ (by omega)⟩
    have hm0 : 0 < m := by omega
    simp [bDraw, runF, pinned, Kd.isF, ownL, normIx, fGt, kz, ha, fMod, hm0, hm, fDiv, frOf, outsOf, dr]
  · obtain ⟨m', S', e1, ⟨f, w, b', rfl, h0, h1, h2, h3, h4⟩, _⟩ := while_inv (c := eBool (eOp fLt (eVar 3) (eVar 1))) (b := wBody)
      (fun j S => ∃ f w b', S = [some (dr a b'), some (.fz, .int m), some (.fz, .int f), some (.fz, .int w)] ∧ 0 ≤ b' ∧ b' < 2147483648 ∧ 0 ≤ f ∧ f < w * 1073741824 ∧ 1 ≤ w ∧ m ≤ w * 268435456 ^ j) (by
        rintro j S ⟨f, w, b', rfl, h0, h1, h2, h3, h4, h5⟩
        by_cases hw : w < m
        · right
          have hj : j ≠ 0 := by
            intro z; subst z
            simp at h5; omega
          refine ⟨by simp [fLt, kz, hw], hj, ?_⟩
          have q1 : 0 ≤ b' * 69621 % 2147483647 := Int.emod_nonneg _ (by decide)
          have q2 : b' * 69621 % 2147483647 < 2147483647 := Int.emod_lt_of_pos _ (by decide)
          generalize hb2 : b' * 69621 % 2147483647 = b2 at q1 q2
          have q3 : 0 ≤ b2 * (b2 / 128 + 3) % 2147483629 := Int.emod_nonneg _ (by decide)
          have q4 : b2 * (b2 / 128 + 3) % 2147483629 < 2147483629 := Int.emod_lt_of_pos _ (by decide)
          have s1 : small b' := by show b'.natAbs < _; omega
          have s2 : small b2 := by show b2.natAbs < _; omega
          have s3 : small (b2 / 128 + 3) := by show (b2 / 128 + 3).natAbs < _; omega
          have s4 : small f := by show f.natAbs < _; omega
          have s5 : small w := by show w.natAbs < _; omega
          refine ⟨_, by simp [wBody, ownL, dr, normIx, fMul, fMod, kz, s1, s2, s3, s4, s5, fAdd, fDiv, hb2], f * 268435456 + b2 * (b2 / 128 + 3) % 2147483629 / 8, w * 268435456, b2, rfl, q1, by omega, by omega, by omega, by omega, ?_⟩
          have : (268435456 : Int) ^ j = 268435456 * 268435456 ^ (j - 1) := by
            conv => lhs; rw [show j = (j - 1) + 1 by omega, Int.pow_succ]
            exact Int.mul_comm _ _
          rw [this, ← Int.mul_assoc] at h5
          exact h5
        · left
          simp [fLt, kz, hw]) 64 8 [some (dr a b), some (.fz, .int m), some (.fz, .int 0), some (.fz, .int 1)] (by omega) ⟨0, 1, b, rfl, b0, b1, by omega, by omega, by omega, by omega⟩
    have hm0 : 0 < m := by omega
    refine ⟨f % m, dr a b', ?_, ⟨a, b', rfl, a0, a1, h0, h1⟩, Int.emod_nonneg _ (by omega), Int.emod_lt_of_pos _ hm0⟩
    have e2 : bDraw [some (dr a b), some (.fz, .int m), none, none] = .ok (.rt (.fz, .int (f % m))) [some (dr a b'), some (.fz, .int m), some (.fz, .int f), some (.fz, .int w)] := by
      unfold dr at e1 ⊢
      unfold wBody at e1
      simp [bDraw, ownL, normIx, fGt, kz, ha, e1, fMod, hm0]
    exact runF_ret (as := [dr a b, (.fz, .int m)]) rfl e2 rfl
/-- a draw -/
theorem draw_wp {F : Fn} (hF : DrawOk F) {S : List Slot} {i : Nat} {kd0 : KD} {e : E} {Q : KD → List Slot → Prop} (h0 : S[i]? = some (some kd0))
    (he : okP (eDat e S) fun d S1 => match d with
      | .int m => 1 ≤ m ∧ m < 1000000000000000000000000000000000000000000000000000000000000 ∧ (match S1[i]? with | some (some kd) => DI kd ∧ ∀ (r : Int) (kd' : KD), DI kd' → 0 ≤ r → r < m → Q (.fz, .int r) (S1.set i (some kd')) | _ => False)
      | _ => False) : okP (eCall F [.b i, .v e] S) Q := by
  refine call_wp ?_
  rw [arEv_b, h0]
  simp only [okP_bind]
  rw [arEv_v, okP_bind]
  refine he.mono fun d S1 h => ?_
  cases d with
  | int m =>
    obtain ⟨m1, m2, h⟩ := h
    rw [arEv_nil]
    cases e1 : S1[i]? with
    | none => rw [e1] at h; exact h.elim
    | some s =>
      cases s with
      | none => rw [e1] at h; exact h.elim
      | some kd =>
        rw [e1] at h
        obtain ⟨hd, h⟩ := h
        obtain ⟨r, kd', e2, d2, r0, r1⟩ := hF kd m hd m1 m2
        obtain ⟨a, b, rfl, _⟩ := hd
        obtain ⟨a', b', rfl, hh⟩ := id d2
        have h := h r (dr a' b') ⟨a', b', rfl, hh⟩ r0 r1
        rw [rbind_ok, okP_ok, okP_ok]
        have e3 : arIn [.b i, .v (.int m)] S1 = some ([dr a b, (.fz, .int m)], S1.set i none) := by
          simp [arIn, e1, dr, Kd.isF]
        rw [e3]
        refine ⟨_, _, e2, ?_⟩
        have e4 : arOut [.b i, .v (.int m)] [dr a' b'] (S1.set i none) = some (S1.set i (some (dr a' b'))) := by
          simp [arOut]
        simp only [e4]
        exact h
  | _ => exact h.elim
end TB

/-! TbP2: comprehensions and loops evaluated -/
namespace TB
theorem set_self {S : List Slot} {v : Nat} (hv : v < S.length) (h : S[v]? = some s) : S.set v s = S := by
  apply List.ext_getElem?
  intro j
  by_cases q : v = j
  · subst q; rw [List.getElem?_set_self hv, h]
  · rw [List.getElem?_set_ne q]
theorem cLoop_pure {S : List Slot} {v : Nat} {c : T} {e : E} {p : D → Bool} {f : D → D} (hv : v < S.length) : ∀ (ds acc : List D),
    (∀ d ∈ ds, c (S.set v (some (.fz, d))) = .ok (p d) (S.set v (some (.fz, d)))) → (∀ d ∈ ds, p d = true → ∃ k, e (S.set v (some (.fz, d))) = .ok (k, f d) (S.set v (some (.fz, d)))) → acc.length + ds.length ≤ sizeMax →
    cLoop (.nm v) [v] c e ds acc (S.set v none) = .ok (acc ++ (ds.filter p).map f) (S.set v none)
  | [], acc, _, _, _ => by simp [cLoop, M.pure]
  | d :: ds, acc, hc, he, hl => by
    unfold cLoop
    have h1 : Tg.put (.nm v) d (S.set v none) = some (S.set v (some (.fz, d))) := by
      unfold Tg.put
      rw [if_pos (by rw [List.length_set]; exact hv), List.set_set]
    have h2 : ∀ S' : List Slot, wipeS S' [v] = S'.set v none := fun _ => rfl
    have hl2 : acc.length + ds.length + 1 ≤ sizeMax := by simpa [Nat.add_assoc] using hl
    rw [h1]
    show R.bind (c (S.set v (some (.fz, d)))) _ = _
    rw [hc d List.mem_cons_self, rbind_ok]
    cases hp : p d with
    | false =>
      show cLoop (.nm v) [v] c e ds acc (wipeS (S.set v (some (.fz, d))) [v]) = _
      rw [h2, List.set_set, cLoop_pure hv ds acc (fun x hx => hc x (List.mem_cons_of_mem _ hx)) (fun x hx => he x (List.mem_cons_of_mem _ hx)) (by omega)]
      simp [hp]
    | true =>
      obtain ⟨k, hk⟩ := he d List.mem_cons_self hp
      show R.bind (eDat e (S.set v (some (.fz, d)))) _ = _
      rw [eDat_ap, hk]
      show (if acc.length < sizeMax then cLoop (.nm v) [v] c e ds (acc ++ [f d]) (wipeS (S.set v (some (.fz, d))) [v]) else .bad) = _
      rw [if_pos (by omega), h2, List.set_set, cLoop_pure hv ds (acc ++ [f d]) (fun x hx => hc x (List.mem_cons_of_mem _ hx)) (fun x hx => he x (List.mem_cons_of_mem _ hx)) (by rw [List.length_append, List.length_singleton]; omega)]
      simp [hp]
/-- a comprehension that changes nothing -/
theorem lc_pure {S0 S : List Slot} {v : Nat} {it : It} {c : T} {e : E} {ds : List D} (p : D → Bool) (f : D → D) (hit : it S0 = .ok ds S) (hv : v < S.length) (hz : fzAt S v = true)
    (hc : ∀ d ∈ ds, c (S.set v (some (.fz, d))) = .ok (p d) (S.set v (some (.fz, d)))) (he : ∀ d ∈ ds, p d = true → ∃ k, e (S.set v (some (.fz, d))) = .ok (k, f d) (S.set v (some (.fz, d)))) (hl : ds.length ≤ sizeMax) :
    eLc it (.nm v) [v] c e S0 = .ok (.li .fz, .lst ((ds.filter p).map f)) S := by
  unfold eLc
  rw [bind_ap, hit, rbind_ok]
  have h1 : ([v].all (fzAt S) && noDup [v] && (Tg.nm v).sl.all [v].contains) = true := by simp [hz, noDup, Tg.sl]
  rw [if_pos h1]
  have h2 : wipeS S [v] = S.set v none := rfl
  rw [h2, cLoop_pure hv ds [] hc he (by simpa using hl)]
  have h3 : backS S (S.set v none) [v] = S := by
    show (S.set v none).set v (S.getD v none) = S
    rw [List.set_set]
    refine set_self hv ?_
    rw [List.getElem?_eq_getElem hv, List.getD_eq_getElem?_getD, List.getElem?_eq_getElem hv]
    rfl
  simp [h3]
theorem cLoop_inv {v n : Nat} {e : E} (I : List Slot → Prop) (Q : D → Prop) (hI : ∀ S, I S → v < S.length) : ∀ (ds acc : List D) (S : List Slot), I S → acc.length + ds.length ≤ sizeMax →
    (∀ S d, I S → d ∈ ds → ∃ k y S', e (S.set v (some (.fz, d))) = .ok (k, y) S' ∧ I (S'.set v none) ∧ Q y) →
    ∃ ys S', cLoop (.nm v) [v] tTrue e ds acc S = .ok (acc ++ ys) S' ∧ I S' ∧ ys.length = ds.length ∧ ∀ y ∈ ys, Q y
  | [], acc, S, i, _, _ => ⟨[], S, by simp [cLoop, M.pure], i, rfl, fun y hy => by simp at hy⟩
  | d :: ds, acc, S, i, hl, he => by
    have hl2 : acc.length + ds.length + 1 ≤ sizeMax := by simpa [Nat.add_assoc] using hl
    obtain ⟨k, y, S1, e1, i1, q1⟩ := he S d i List.mem_cons_self
    obtain ⟨ys, S2, e2, i2, l2, q2⟩ := cLoop_inv (n := n) I Q hI ds (acc ++ [y]) (S1.set v none) i1 (by rw [List.length_append, List.length_singleton]; omega) fun S d i h => he S d i (List.mem_cons_of_mem _ h)
    refine ⟨y :: ys, S2, ?_, i2, by simp [l2], fun z hz => ?_⟩
    · unfold cLoop
      have h1 : Tg.put (.nm v) d S = some (S.set v (some (.fz, d))) := by
        unfold Tg.put
        rw [if_pos (hI S i)]
      rw [h1]
      show R.bind (eDat e (S.set v (some (.fz, d)))) _ = _
      rw [eDat_ap, e1]
      show (if acc.length < sizeMax then cLoop (.nm v) [v] tTrue e ds (acc ++ [y]) (wipeS S1 [v]) else .bad) = _
      rw [if_pos (by omega)]
      have h2 : wipeS S1 [v] = S1.set v none := rfl
      rw [h2, e2]
      simp
    · rcases List.mem_cons.mp hz with h | h
      · rw [h]; exact q1
      · exact q2 z h
/-- a comprehension whose items keep I -/
theorem lc_inv {S0 S : List Slot} {v : Nat} {it : It} {e : E} {ds : List D} (I : List Slot → Prop) (Q : D → Prop) (hit : it S0 = .ok ds S) (hz : fzAt S v = true) (hl : ds.length ≤ sizeMax) (hI : ∀ S, I S → v < S.length) (i : I (S.set v none))
    (he : ∀ S d, I S → d ∈ ds → ∃ k y S', e (S.set v (some (.fz, d))) = .ok (k, y) S' ∧ I (S'.set v none) ∧ Q y) :
    ∃ ys S', eLc it (.nm v) [v] tTrue e S0 = .ok (.li .fz, .lst ys) (S'.set v (S.getD v none)) ∧ I S' ∧ ys.length = ds.length ∧ ∀ y ∈ ys, Q y := by
  obtain ⟨ys, S', e1, i1, l1, q1⟩ := cLoop_inv (n := 0) I Q hI ds [] (S.set v none) i (by simpa using hl) he
  refine ⟨ys, S', ?_, i1, l1, q1⟩
  unfold eLc
  rw [bind_ap, hit, rbind_ok]
  have h1 : ([v].all (fzAt S) && noDup [v] && (Tg.nm v).sl.all [v].contains) = true := by simp [hz, noDup, Tg.sl]
  rw [if_pos h1]
  have h2 : wipeS S [v] = S.set v none := rfl
  rw [h2, e1]
  rfl
/-- a for by an invariant: J by the items left -/
theorem loop_inv {v : Nat} {b : St} (I : List D → List Slot → Prop) (hI : ∀ ds S, I ds S → v < S.length) (h : ∀ d ds S, I (d :: ds) S → ∃ S', b (S.set v (some (.fz, d))) = .ok .nx S' ∧ I ds S') :
    ∀ ds S, I ds S → ∃ S', loop (.nm v) b ds S = .ok .nx S' ∧ I [] S'
  | [], S, i => ⟨S, rfl, i⟩
  | d :: ds, S, i => by
    obtain ⟨S1, e1, i1⟩ := h d ds S i
    obtain ⟨S2, e2, i2⟩ := loop_inv I hI h ds S1 i1
    refine ⟨S2, ?_, i2⟩
    unfold loop
    have h1 : Tg.put (.nm v) d S = some (S.set v (some (.fz, d))) := by
      unfold Tg.put
      rw [if_pos (hI _ S i)]
    rw [h1]
    show R.bind (b (S.set v (some (.fz, d)))) _ = _
    rw [e1]
    exact e2
/-- the same as promises -/
theorem lc_wp {it : It} {e : E} {v : Nat} {S : List Slot} {Q : KD → List Slot → Prop} (I : List Slot → Prop) (P : D → Prop) (hI : ∀ S, I S → v < S.length)
    (h : okP (it S) fun ds S1 => fzAt S1 v = true ∧ ds.length ≤ sizeMax ∧ I (S1.set v none) ∧ (∀ S d, I S → d ∈ ds → okP (e (S.set v (some (.fz, d)))) fun a S' => I (S'.set v none) ∧ P a.2) ∧
      ∀ ys S', ys.length = ds.length → (∀ y ∈ ys, P y) → I S' → Q (.li .fz, .lst ys) (S'.set v (S1.getD v none))) : okP (eLc it (.nm v) [v] tTrue e S) Q := by
  obtain ⟨ds, S1, e1, hz, hl, i, he, hq⟩ := h.ex
  obtain ⟨ys, S', e2, i2, l2, q2⟩ := lc_inv (e := e) I P e1 hz hl hI i fun S d i hd => by
    obtain ⟨⟨k, y⟩, S', e3, i3, q3⟩ := (he S d i hd).ex
    exact ⟨k, y, S', e3, i3, q3⟩
  exact okP.of e2 (hq ys S' l2 q2 i2)
theorem lcp_wp {it : It} {c : T} {e : E} {v : Nat} {S : List Slot} {Q : KD → List Slot → Prop} (p : D → Bool) (f : D → D)
    (h : okP (it S) fun ds S1 => fzAt S1 v = true ∧ v < S1.length ∧ ds.length ≤ sizeMax ∧ (∀ d ∈ ds, c (S1.set v (some (.fz, d))) = .ok (p d) (S1.set v (some (.fz, d)))) ∧ (∀ d ∈ ds, p d = true → ∃ k, e (S1.set v (some (.fz, d))) = .ok (k, f d) (S1.set v (some (.fz, d)))) ∧
      Q (.li .fz, .lst ((ds.filter p).map f)) S1) : okP (eLc it (.nm v) [v] c e S) Q := by
  obtain ⟨ds, S1, e1, hz, hv, hl, hc, he, hq⟩ := h.ex
  exact okP.of (lc_pure p f e1 hv hz hc he hl) hq
theorem loop_wp {v : Nat} {b : St} {S : List Slot} {ds : List D} {Q : Fl → List Slot → Prop} (I : List D → List Slot → Prop) (hI : ∀ ds S, I ds S → v < S.length) (i : I ds S)
    (h : ∀ d ds S, I (d :: ds) S → okP (b (S.set v (some (.fz, d)))) fun f S' => f = .nx ∧ I ds S') (hq : ∀ S, I [] S → Q .nx S) : okP (loop (.nm v) b ds S) Q := by
  obtain ⟨S', e, i2⟩ := loop_inv (b := b) I hI (fun d ds S i => by
    obtain ⟨f, S', e1, rfl, i1⟩ := (h d ds S i).ex
    exact ⟨S', e1, i1⟩) ds S i
  exact okP.of e (hq S' i2)
end TB

/-! TbP3: the laws' draws, names -/
namespace TB
def bDraws : St := (sSeq (sSet 2 (eFr (eOp fMul (eCon (.int 15485863)) (eVar 1)))) (sSeq (sIf (eBool (eOp fLt (eVar 1) (eApp fLen [(eVar 0)]))) (sSet 2 (eOp fMod (eOp fIx (eVar 0) (eVar 1)) (eOp fMul (eOp fPow (eCon (.int 10)) (eCon (.int 60))) (eOp fPow (eCon (.int 10)) (eCon (.int 60)))))) (sIf (eBool (eOp fGt (eApp fLen [(eVar 0)]) (eCon (.int 0)))) (sSet 2 (eFr (eOp fAdd (eOp fMod (eOp fIx (eVar 0) (eOp fMod (eVar 1) (eApp fLen [(eVar 0)]))) (eOp fPow (eCon (.int 10)) (eCon (.int 15)))) (eOp fMul (eCon (.int 15485863)) (eVar 1))))) sNx)) (sRet (eApp fLst [(eOp fMul (eVar 2) (eApp fIntB [(eOp fGe (eVar 2) (eOp fPow (eCon (.int 10)) (eCon (.int 18))))])), (eOp fAdd (eCon (.int 1)) (eOp fMod (eOp fAdd (eOp fMul (eVar 2) (eCon (.int 69621))) (eOp fMul (eCon (.int 86028121)) (eOp fAdd (eVar 1) (eCon (.int 1))))) (eCon (.int 2147483646))))]))))
def DrawsOk (F : Fn) : Prop := ∀ (ns : List Int) (k : Int), 0 ≤ k → k ≤ 1000 → ∃ kd, F [(.fz, .scr ns), (.fz, .int k)] = .ret kd [] ∧ DI kd
theorem normIx_nat {n : Nat} {k : Int} (h0 : 0 ≤ k) (h : k < n) : normIx n k = some k.toNat := by
  unfold normIx
  rw [if_pos h0, if_pos h]
theorem draws_tail {ns : List Int} {k c : Int} (k0 : 0 ≤ k) (k1 : k ≤ 1000) (c0 : 0 ≤ c) (c1 : c < 1000000000000000000000000000000000000000000000000000000000000000000000000000000000000000000000000000000000000000000000000) :
    ∃ kd, (sRet (eApp fLst [(eOp fMul (eVar 2) (eApp fIntB [(eOp fGe (eVar 2) (eOp fPow (eCon (.int 10)) (eCon (.int 18))))])), (eOp fAdd (eCon (.int 1)) (eOp fMod (eOp fAdd (eOp fMul (eVar 2) (eCon (.int 69621))) (eOp fMul (eCon (.int 86028121)) (eOp fAdd (eVar 1) (eCon (.int 1))))) (eCon (.int 2147483646))))])) [some (.fz, .scr ns), some (.fz, .int k), some (.fz, .int c)] =
      .ok (.rt kd) [some (.fz, .scr ns), some (.fz, .int k), some (.fz, .int c)] ∧ DI kd := by
  have s1 : small c := by show c.natAbs < _; omega
  have s2 : small (k + 1) := by show (k + 1).natAbs < _; omega
  by_cases h : 1000000000000000000 ≤ c
  · refine ⟨_, by simp [fPow, fGe, fIntB, fMul, fAdd, fMod, fLst, kz, h, s1, s2, sizeMax]; rfl, c, _, rfl, c0, c1, ?_, ?_⟩
    · have := Int.emod_nonneg (c * 69621 + 86028121 * (k + 1)) (b := 2147483646) (by decide); omega
    · have := Int.emod_lt_of_pos (c * 69621 + 86028121 * (k + 1)) (b := 2147483646) (by decide); omega
  · refine ⟨_, by simp [fPow, fGe, fIntB, fMul, fAdd, fMod, fLst, kz, h, s1, s2, sizeMax]; rfl, 0, _, rfl, by omega, by omega, ?_, ?_⟩
    · have := Int.emod_nonneg (c * 69621 + 86028121 * (k + 1)) (b := 2147483646) (by decide); omega
    · have := Int.emod_lt_of_pos (c * 69621 + 86028121 * (k + 1)) (b := 2147483646) (by decide); omega
theorem draws_ok : DrawsOk (runF 3 [] bDraws) := by
  intro ns k k0 k1
  have sk : small k := by show k.natAbs < _; omega
  have main : ∃ kd c, bDraws [some (.fz, .scr ns), some (.fz, .int k), none] = .ok (.rt kd) [some (.fz, .scr ns), some (.fz, .int k), some (.fz, .int c)] ∧ DI kd := by
    unfold bDraws
    by_cases h : k < (ns.length : Int)
    · have hn : k.toNat < ns.length := by omega
      have e1 := Int.emod_nonneg ns[k.toNat] (b := 1000000000000000000000000000000000000000000000000000000000000000000000000000000000000000000000000000000000000000000000000) (by decide)
      have e2 := Int.emod_lt_of_pos ns[k.toNat] (b := 1000000000000000000000000000000000000000000000000000000000000000000000000000000000000000000000000000000000000000000000000) (by decide)
      obtain ⟨kd, h1, h2⟩ := draws_tail (ns := ns) k0 k1 e1 e2
      refine ⟨kd, ns[k.toNat] % 1000000000000000000000000000000000000000000000000000000000000000000000000000000000000000000000000000000000000000000000000, ?_, h2⟩
      rw [← h1]
      simp [fMul, fLt, fLen, kz, sk, h, fIx, normIx_nat k0 h, hn, fPow, fMod]
    · by_cases hl : 0 < ns.length
      · have hl' : (0 : Int) < ns.length := by omega
        have m0 := Int.emod_nonneg k (b := (ns.length : Int)) (by omega)
        have m1 := Int.emod_lt_of_pos k hl'
        have hn : (k % (ns.length : Int)).toNat < ns.length := by omega
        have e1 := Int.emod_nonneg ns[(k % (ns.length : Int)).toNat] (b := 1000000000000000) (by decide)
        have e2 := Int.emod_lt_of_pos ns[(k % (ns.length : Int)).toNat] (b := 1000000000000000) (by decide)
        obtain ⟨kd, h1, h2⟩ := draws_tail (ns := ns) (c := ns[(k % (ns.length : Int)).toNat] % 1000000000000000 + 15485863 * k) k0 k1 (by omega) (by omega)
        refine ⟨kd, ns[(k % (ns.length : Int)).toNat] % 1000000000000000 + 15485863 * k, ?_, h2⟩
        rw [← h1]
        simp [fMul, fLt, fLen, fGt, kz, sk, h, hl, fIx, normIx_nat m0 m1, hn, fPow, fMod, fAdd]
      · have hl0 : ns.length = 0 := by omega
        obtain ⟨kd, h1, h2⟩ := draws_tail (ns := ns) (c := 15485863 * k) k0 k1 (by omega) (by omega)
        refine ⟨kd, 15485863 * k, ?_, h2⟩
        rw [← h1]
        simp [fMul, fLt, fLen, fGt, kz, sk, h, hl]
  obtain ⟨kd, c, e, h⟩ := main
  exact ⟨kd, runF_ret (as := [(.fz, .scr ns), (.fz, .int k)]) rfl e rfl, h⟩
end TB

/-! TbP4: the laws' names -/
namespace TB
def bNames (F : Fn) : St := (sSeq (sSet 2 (eCon (.str [97, 98, 99, 100, 101, 102, 103, 104, 105, 106, 107, 108, 109, 110, 111, 112, 113, 114, 115, 116, 117, 118, 119, 120, 121, 122]))) (sSeq (sSet 3 (eJoin (eCon (.str [])) (eLc (itRange1 (eOp fIx (eApp fLst [(eCon (.int 0)), (eCon (.int 1)), (eCon (.int 2)), (eCon (.int 7))]) (eCall F [.b 0, .v (eCon (.int 4))]))) (.nm 6) [6] tTrue (eOp fIx (eVar 2) (eCall F [.b 0, .v (eCon (.int 26))]))))) (sSeq (sSet 4 (eCall F [.b 0, .v (eCon (.int 26))])) (sSeq (sSet 5 (eOp fIx (eApp fLst [(eCon (.int 1)), (eCon (.int 3)), (eCon (.int 5)), (eCon (.int 7))]) (eCall F [.b 0, .v (eCon (.int 4))]))) (sRet (eFr (eApp fSorted [(eLc (itRange1 (eVar 1)) (.nm 6) [6] tTrue (eOp fAdd (eVar 3) (eOp fIx (eVar 2) (eOp fMod (eOp fAdd (eVar 4) (eOp fMul (eVar 5) (eVar 6))) (eCon (.int 26))))))])))))))
def abc : List Nat := [97, 98, 99, 100, 101, 102, 103, 104, 105, 106, 107, 108, 109, 110, 111, 112, 113, 114, 115, 116, 117, 118, 119, 120, 121, 122]
/-- names: texts of one to eight letters -/
def nameS (s : List Nat) : Bool := decide (1 ≤ s.length) && decide (s.length ≤ 8) && s.all (abc.contains ·)
theorem abc_ix {r : Int} (h0 : 0 ≤ r) (h1 : r < 26) : ∃ c, fIx (.str abc) (.int r) = some (.fz, .str [c]) ∧ c ∈ abc ∧ c = 97 + r.toNat := by
  have hn : r.toNat < 26 := by omega
  have hl : abc.length = 26 := rfl
  refine ⟨abc[r.toNat]'(by rw [hl]; exact hn), ?_, List.getElem_mem _, ?_⟩
  · show (if abc.length ≤ sizeMax then (normIx abc.length r).bind fun n => abc[n]?.bind fun c => kz (.str [c]) else none) = _
    rw [if_pos (by decide), normIx_nat h0 (by rw [hl]; exact h1)]
    simp [hl, hn, kz]
  · generalize r.toNat = n at hn
    have : ∀ n : Fin 26, abc[n.1]? = some (97 + n.1) := by decide
    have := this ⟨n, hn⟩
    rw [List.getElem?_eq_getElem (by rw [hl]; exact hn)] at this
    exact Option.some.inj this
def NamesQ (m : Int) (r : KD) (o : List KD) : Prop := ∃ (ss : List (List Nat)) (kd : KD), r = (.fz, .lst (ss.map D.str)) ∧ o = [kd] ∧ DI kd ∧ ss.length = m.toNat ∧ (∀ s ∈ ss, nameS s = true) ∧ ss.Pairwise (· ≤ ·) ∧ ss.Nodup
def NamesOk (F : Fn) : Prop := ∀ (kd : KD) (m : Int), DI kd → 0 ≤ m → m ≤ 26 → FnP F [kd, (.fz, .int m)] (NamesQ m)
theorem strsOf_map : ∀ ss : List (List Nat), strsOf (ss.map D.str) = some ss
  | [] => rfl
  | s :: ss => by simp [strsOf, strsOf_map ss]
theorem strs_exists : ∀ ys : List D, (∀ y ∈ ys, ∃ c, y = .str [c] ∧ c ∈ abc) → ∃ cs : List Nat, ys = cs.map (fun c => .str [c]) ∧ (∀ c ∈ cs, c ∈ abc)
  | [], _ => ⟨[], rfl, fun _ h => by simp at h⟩
  | y :: ys, h => by
    obtain ⟨c, e, m⟩ := h y List.mem_cons_self
    obtain ⟨cs, e2, m2⟩ := strs_exists ys fun z hz => h z (List.mem_cons_of_mem _ hz)
    exact ⟨c :: cs, by rw [e, e2]; rfl, fun x hx => by rcases List.mem_cons.mp hx with q | q; (rw [q]; exact m); exact m2 x q⟩
theorem join_ones : ∀ cs : List Nat, joinD [] (cs.map fun c => [c]) = cs
  | [] => rfl
  | [c] => rfl
  | c :: d :: cs => by
    show [c] ++ ([] ++ joinD [] ((d :: cs).map fun c => [c])) = _
    rw [join_ones (d :: cs)]; rfl
theorem sortT_perm (xs : List (List Nat)) : (sortT xs).Perm xs := List.mergeSort_perm _ _
theorem sortT_pair (xs : List (List Nat)) : (sortT xs).Pairwise (· ≤ ·) := by
  unfold sortT
  have e : (fun a b : List Nat => !decide (b < a)) = fun a b => decide (a ≤ b) := by
    funext a b
    rw [← decide_not]
    exact decide_eq_decide.mpr List.not_lt
  rw [e]
  have := List.pairwise_mergeSort (le := fun a b : List Nat => decide (a ≤ b)) (fun a b c h1 h2 => by simp at *; exact List.le_trans h1 h2) (fun a b => by simp; exact List.le_total a b) xs
  exact this.imp fun h => by simpa using h
theorem fIx_lst {xs : List D} {r : Int} (h0 : 0 ≤ r) (h1 : r < xs.length) : ∃ x ∈ xs, fIx (.lst xs) (.int r) = some (.fz, x) := by
  have hn : r.toNat < xs.length := by omega
  refine ⟨xs[r.toNat], List.getElem_mem _, ?_⟩
  show ((normIx xs.length r).bind fun n => xs[n]?.bind kz) = _
  rw [normIx_nat h0 h1]
  simp [hn, kz]
theorem pick_int {xs : List D} {r lo hi : Int} (h0 : 0 ≤ r) (h1 : r < xs.length) (h : ∀ x ∈ xs, ∃ j, x = .int j ∧ lo ≤ j ∧ j ≤ hi) : ∃ j, fIx (.lst xs) (.int r) = some (.fz, .int j) ∧ lo ≤ j ∧ j ≤ hi := by
  obtain ⟨x, hx, e⟩ := fIx_lst h0 h1
  obtain ⟨j, rfl, h2⟩ := h x hx
  exact ⟨j, e, h2⟩
theorem small_i {i : Int} (h0 : 0 ≤ i) (h1 : i < 1000000000000000000000000000000000000000000000000000000000000) : small i := by show i.natAbs < _; omega
theorem ones_sum : ∀ cs : List Nat, ((cs.map fun c => [c]).map (·.length)).sum = cs.length
  | [] => rfl
  | c :: cs => by
    show 1 + ((cs.map fun c => [c]).map (·.length)).sum = cs.length + 1
    rw [ones_sum cs]; omega
theorem abc_eq : abc = [97, 98, 99, 100, 101, 102, 103, 104, 105, 106, 107, 108, 109, 110, 111, 112, 113, 114, 115, 116, 117, 118, 119, 120, 121, 122] := rfl
def stepOk (s : Int) : Prop := s = 1 ∨ s = 3 ∨ s = 5 ∨ s = 7
def nth (stem : List Nat) (a s : Int) (d : D) : D := match d with
  | .int k => .str (stem ++ [97 + ((a + s * k) % 26).toNat])
  | _ => .non
def nthS (stem : List Nat) (a s : Int) (k : Nat) : List Nat := stem ++ [97 + ((a + s * (k : Int)) % 26).toNat]
theorem nth_map (stem : List Nat) (a s : Int) (n : Nat) : (rangeL 0 n).map (nth stem a s) = ((List.range n).map (nthS stem a s)).map D.str := by
  unfold rangeL
  rw [List.map_map, List.map_map]
  refine List.map_congr_left fun k _ => ?_
  show nth stem a s (.int (0 + (k : Int))) = D.str (nthS stem a s k)
  rw [Int.zero_add]; rfl
theorem nth_inj {stem : List Nat} {a s : Int} (hs : stepOk s) {i j : Nat} (hi : i < 26) (hj : j < 26) (h : nthS stem a s i = nthS stem a s j) : i = j := by
  unfold nthS at h
  have h := List.append_cancel_left h
  have h : 97 + ((a + s * (i : Int)) % 26).toNat = 97 + ((a + s * (j : Int)) % 26).toNat := by simpa using h
  have m1 := Int.emod_nonneg (a + s * (i : Int)) (b := 26) (by decide)
  have m2 := Int.emod_nonneg (a + s * (j : Int)) (b := 26) (by decide)
  rcases hs with rfl | rfl | rfl | rfl <;> omega
theorem nth_name {stem : List Nat} {a s : Int} (h1 : stem.length ≤ 7) (h2 : ∀ c ∈ stem, c ∈ abc) (k : Nat) : nameS (nthS stem a s k) = true := by
  unfold nameS nthS
  have m1 := Int.emod_nonneg (a + s * (k : Int)) (b := 26) (by decide)
  have m2 := Int.emod_lt_of_pos (a + s * (k : Int)) (b := 26) (by decide)
  generalize hc : ((a + s * (k : Int)) % 26).toNat = c
  have hc2 : c < 26 := by omega
  have h3 : ∀ n : Fin 26, abc.contains (97 + n.1) = true := by decide
  have h3 := h3 ⟨c, hc2⟩
  have h4 : stem.all (abc.contains ·) = true := List.all_eq_true.mpr fun c hc => by simpa using h2 c hc
  simp only [List.length_append, List.length_singleton, List.all_append, h4, List.all_cons, List.all_nil, h3]
  simp
  omega
theorem map_nodup {α β : Type} {f : α → β} : ∀ {l : List α}, l.Nodup → (∀ a ∈ l, ∀ b ∈ l, f a = f b → a = b) → (l.map f).Nodup
  | [], _, _ => .nil
  | x :: l, h, i => by
    rw [List.nodup_cons] at h
    rw [List.map_cons, List.nodup_cons]
    refine ⟨fun m => ?_, map_nodup h.2 fun a ha b hb => i a (List.mem_cons_of_mem _ ha) b (List.mem_cons_of_mem _ hb)⟩
    obtain ⟨y, hy, e⟩ := List.mem_map.mp m
    have := i y (List.mem_cons_of_mem _ hy) x List.mem_cons_self e
    exact h.1 (this ▸ hy)
theorem intsOf_str {s : List Nat} {ds : List D} : intsOf (.str s :: ds) = none := rfl
theorem sorted_strs {ss : List (List Nat)} (h : ss.length < 64) : fSorted [.lst (ss.map D.str)] = some (.li .fz, .lst ((sortT ss).map D.str)) := by
  cases ss with
  | nil => simp [fSorted, intsOf, sortI, sortT]
  | cons s ss =>
    show (match intsOf (.str s :: ss.map D.str) with | some is => some ((.li .fz, .lst ((sortI is).map D.int)) : KD) | none => match strsOf ((s :: ss).map D.str) with | some ss => if ss.length < 64 then some ((.li .fz, .lst ((sortT ss).map D.str)) : KD) else none | none => none) = _
    rw [intsOf_str, strsOf_map]
    exact if_pos h
theorem names_ok {F : Fn} (hF : DrawOk F) : NamesOk (runF 7 [0] (bNames F)) := by
  intro kd m hd m0 m1
  refine runF_wp (by obtain ⟨a, b, rfl, _⟩ := hd; rfl) ?_
  simp [bNames, ← abc_eq, -Prod.exists, -Prod.forall]
  refine lc_wp (fun S => ∃ kd, DI kd ∧ S = [some kd, some (.fz, .int m), some (.fz, .str abc), none, none, none, none]) (fun d => ∃ c, d = .str [c] ∧ c ∈ abc) ?_ ?_
  · rintro S ⟨_, _, rfl⟩; simp
  simp [-Prod.exists, -Prod.forall]
  refine draw_wp hF rfl ?_
  simp [hd, -Prod.exists, -Prod.forall]
  intro r kd2 hd2 r0 r1
  obtain ⟨j, e, j0, j1⟩ := pick_int (xs := [.int 0, .int 1, .int 2, .int 7]) (lo := 0) (hi := 7) r0 (by simpa using r1) (by simp)
  have hj : j.natAbs < limN := by unfold limN; omega
  simp [e, hj, -Prod.exists, -Prod.forall]
  refine ⟨by simp [fzAt], by simp [rangeL, sizeMax]; omega, hd2, ?_, ?_⟩
  · rintro S d kd3 hd3 rfl hm
    simp [-Prod.exists, -Prod.forall]
    refine draw_wp hF rfl ?_
    simp [hd3, -Prod.exists, -Prod.forall]
    intro r kd4 hd4 r2 r3
    obtain ⟨c, e2, hc, _⟩ := abc_ix r2 r3
    simp [e2, hc, -Prod.exists, -Prod.forall]
    exact hd4
  · rintro ys S' hl hy kd3 hd3 rfl
    obtain ⟨cs, rfl, hcs⟩ := strs_exists ys hy
    have hl2 : cs.length ≤ 7 := by
      rw [List.length_map] at hl
      rw [hl]; simp [rangeL]; omega
    have ej : fJoin [] (.lst (cs.map fun c => D.str [c])) = some (.fz, .str cs) := by
      have e1 : (cs.map fun c => D.str [c]) = (cs.map fun c => [c]).map D.str := by rw [List.map_map]; rfl
      show (strsOf _).bind _ = _
      rw [e1, strsOf_map]
      show (if ((cs.map fun c => [c]).map (·.length)).sum + (cs.map fun c => [c]).length * 0 ≤ sizeMax then kz (.str (joinD [] (cs.map fun c => [c]))) else none) = _
      rw [ones_sum, join_ones, if_pos (by simp [sizeMax]; omega)]
      rfl
    simp [ej, -Prod.exists, -Prod.forall]
    refine draw_wp hF rfl ?_
    simp [hd3, -Prod.exists, -Prod.forall]
    intro a kd4 hd4 a0 a1
    refine draw_wp hF rfl ?_
    simp [hd4, -Prod.exists, -Prod.forall]
    intro r kd5 hd5 r4 r5
    obtain ⟨x, hx, e3⟩ := fIx_lst (xs := [.int 1, .int 3, .int 5, .int 7]) r4 (by simpa using r5)
    have hs : ∃ s, x = .int s ∧ stepOk s := by
      unfold stepOk
      simp at hx
      rcases hx with rfl | rfl | rfl | rfl <;> simp
    obtain ⟨s, rfl, hs⟩ := hs
    have s0 : 0 ≤ s := by unfold stepOk at hs; omega
    have s1 : s ≤ 7 := by unfold stepOk at hs; omega
    simp [e3, -Prod.exists, -Prod.forall]
    refine lcp_wp (fun _ => true) (nth cs a s) ?_
    have hm : m.natAbs < limN := by unfold limN; omega
    simp [hm, -Prod.exists, -Prod.forall]
    refine ⟨by simp [fzAt], by simp [rangeL, sizeMax]; omega, ?_, ?_⟩
    · intro d hd
      unfold rangeL at hd
      obtain ⟨k, hk, rfl⟩ := List.mem_map.mp hd
      have hk := List.mem_range.mp hk
      have q1 := Int.emod_nonneg (a + s * (0 + (k : Int))) (b := 26) (by decide)
      have q2 := Int.emod_lt_of_pos (a + s * (0 + (k : Int))) (b := 26) (by decide)
      obtain ⟨c, e4, _, e5⟩ := abc_ix q1 q2
      have z1 : small s := small_i s0 (by omega)
      have z2 : small (0 + (k : Int)) := small_i (by omega) (by omega)
      have z3 : cs.length + 1 ≤ sizeMax := by simp [sizeMax]; omega
      simp only [Int.zero_add] at e4 e5 z2 ⊢
      exact ⟨.fz, by simp [fMul, fAdd, fMod, kz, z1, z2, e4, z3, nth, e5]; omega⟩
    · rw [show ∀ l : List D, l.filter (fun _ => true) = l from fun l => List.filter_eq_self.mpr fun _ _ => rfl, nth_map, sorted_strs (by simp; omega)]
      obtain ⟨ka, kb, rfl, _⟩ := hd
      obtain ⟨kc, kd', rfl, hh⟩ := hd5
      simp [outsOf, dr, Kd.isF, -Prod.exists]
      refine ⟨_, _, rfl, rfl, ⟨kc, kd', rfl, hh⟩, ?_, ?_, sortT_pair _, ?_⟩
      · rw [(sortT_perm _).length_eq]; simp
      · intro x hx
        obtain ⟨k, _, rfl⟩ := List.mem_map.mp ((sortT_perm _).mem_iff.mp hx)
        exact nth_name hl2 hcs k
      · refine (sortT_perm _).nodup_iff.mpr (map_nodup List.nodup_range fun i hi j hj e => ?_)
        have hi := List.mem_range.mp hi
        have hj := List.mem_range.mp hj
        exact nth_inj hs (by omega) (by omega) e
end TB

/-! TbP5: some of .. -/
namespace TB
def bSome (F : Fn) : St := (sSeq (sSet 3 eDnew) (sSeq (sFor (itRange1 (eCall F [.b 0, .v (eOp fAdd (eVar 2) (eCon (.int 1)))])) (.nm 4) (sDput 3 (eOp fIx (eVar 1) (eCall F [.b 0, .v (eApp fLen [(eVar 1)])])) (eCon (.bl true)))) (sRet (eApp fTuple [(eApp fSorted [(ePeekL (eApp fList [(eVar 3)]))])]))))
section
variable {α : Type} [DecidableEq α]
theorem putD_map {K : α → D} (he : ∀ a b, D.eqv (K a) (K b) = decide (a = b)) (as : List α) (a : α) : putD (as.map fun a => (K a, D.bl true)) (K a) (.bl true) = (if a ∈ as then as else as ++ [a]).map fun a => (K a, D.bl true) := by
  unfold putD
  have h1 : ((as.map fun a => (K a, D.bl true)).any fun p => D.eqv p.1 (K a)) = decide (a ∈ as) := by
    rw [List.any_map, Bool.eq_iff_iff, List.any_eq_true, decide_eq_true_iff]
    constructor
    · rintro ⟨b, hb, e⟩
      have e : D.eqv (K b) (K a) = true := e
      rw [he, decide_eq_true_iff] at e
      exact e ▸ hb
    · intro h
      exact ⟨a, h, by show D.eqv (K a) (K a) = true; rw [he]; simp⟩
  rw [h1]
  by_cases h : a ∈ as
  · rw [if_pos (by simpa using h), if_pos h, List.map_map]
    refine List.map_congr_left fun b _ => ?_
    show (if D.eqv (K b) (K a) = true then (K b, D.bl true) else (K b, D.bl true)) = _
    split <;> rfl
  · rw [if_neg (by simpa using h), if_neg h, List.map_append]
    rfl
theorem all_flat {K : α → D} (hf : ∀ a, (K a).flat = true) (as : List α) : (as.map K).all D.flat = true := by
  rw [List.all_map, List.all_eq_true]
  exact fun a _ => hf a
def SomeQ (K : α → D) (srt : List α → List α) (src : List α) (m : Int) (r : KD) (o : List KD) : Prop := ∃ (as : List α) (kd : KD), r = (.fz, .tup ((srt as).map K)) ∧ o = [kd] ∧ DI kd ∧ as.Nodup ∧ as.length ≤ m.toNat ∧ ∀ a ∈ as, a ∈ src
theorem some_gen {F : Fn} (hF : DrawOk F) {K : α → D} (hk : ∀ a, isKey (K a) = true) (hf : ∀ a, (K a).flat = true) (he : ∀ a b, D.eqv (K a) (K b) = decide (a = b)) {srt : List α → List α} (hs : ∀ as : List α, as.length < 64 → fSorted [.lst (as.map K)] = some (.li .fz, .lst ((srt as).map K)))
    {kd : KD} {src : List α} {m : Int} (hd : DI kd) (l0 : 1 ≤ src.length) (l1 : src.length ≤ 1000) (m0 : 0 ≤ m) (m1 : m ≤ 60) : FnP (runF 5 [0] (bSome F)) [kd, (.fz, .lst (src.map K)), (.fz, .int m)] (SomeQ K srt src m) := by
  refine runF_wp (by obtain ⟨a, b, rfl, _⟩ := hd; rfl) ?_
  simp [bSome, -Prod.exists, -Prod.forall]
  refine draw_wp hF rfl ?_
  simp [fAdd, kz, hd, -Prod.exists, -Prod.forall]
  refine ⟨by omega, by omega, fun r kd2 hd2 r0 r1 => ?_⟩
  have hr : r.natAbs < limN := by unfold limN; omega
  simp [hr, -Prod.exists, -Prod.forall]
  refine loop_wp (fun ds S => ∃ (kd : KD) (as : List α) (x : Slot), DI kd ∧ as.Nodup ∧ as.length + ds.length ≤ m.toNat ∧ (∀ a ∈ as, a ∈ src) ∧ S = [some kd, some (.fz, .lst (src.map K)), some (.fz, .int m), some (.dK .fz, .dic (as.map fun a => (K a, D.bl true))), x]) ?_ ?_ ?_ ?_
  · rintro ds S ⟨kd, as, x, _, _, _, _, rfl⟩; simp
  · exact ⟨kd2, [], none, hd2, .nil, by simp [rangeL]; omega, by simp, rfl⟩
  · rintro d ds S ⟨kd3, as, x, hd3, nd, hl, hsub, rfl⟩
    simp [ownK, -Prod.exists, -Prod.forall]
    refine draw_wp hF rfl ?_
    simp [fLen, kz, hd3, -Prod.exists, -Prod.forall]
    refine ⟨by omega, by omega, fun r kd4 hd4 r2 r3 => ?_⟩
    obtain ⟨y, hy, e⟩ := fIx_lst (xs := src.map K) r2 (by simpa using r3)
    obtain ⟨a, ha, rfl⟩ := List.mem_map.mp hy
    have hz : as.length < sizeMax := by simp [sizeMax]; simp at hl; omega
    simp [e, hk, hz, putD_map he, -Prod.exists, -Prod.forall]
    refine ⟨kd4, hd4, if a ∈ as then as else as ++ [a], ?_, ?_, ?_, rfl, rfl⟩
    · split
      · exact nd
      · rename_i h
        rw [List.nodup_append]
        exact ⟨nd, by simp, fun b hb c hc => by simp at hc; subst hc; intro z; subst z; exact h hb⟩
    · simp at hl
      split
      · omega
      · simp; omega
    · intro b hb
      split at hb
      · exact hsub b hb
      · rcases List.mem_append.mp hb with h | h
        · exact hsub b h
        · simp at h; subst h; exact ha
  · rintro S ⟨kd3, as, x, hd3, nd, hl, hsub, rfl⟩
    simp at hl
    have e1 : (as.map fun a => (K a, D.bl true)).map (·.1) = as.map K := by rw [List.map_map]; rfl
    simp [frz, fList, e1, all_flat hf, -Prod.exists, -Prod.forall]
    have e2 := hs as (by omega)
    simp [e1, e2, fTuple, kz, -Prod.exists, -Prod.forall]
    obtain ⟨ka, kb, rfl, _⟩ := hd
    obtain ⟨kc, ke, rfl, hh⟩ := hd3
    simp [outsOf, dr, Kd.isF, -Prod.exists]
    exact ⟨as, _, rfl, rfl, ⟨kc, ke, rfl, hh⟩, nd, by omega, hsub⟩
end
theorem some_str {F : Fn} (hF : DrawOk F) {kd : KD} {src : List (List Nat)} {m : Int} (hd : DI kd) (l0 : 1 ≤ src.length) (l1 : src.length ≤ 1000) (m0 : 0 ≤ m) (m1 : m ≤ 60) : FnP (runF 5 [0] (bSome F)) [kd, (.fz, .lst (src.map D.str)), (.fz, .int m)] (SomeQ D.str sortT src m) :=
  some_gen hF (fun _ => rfl) (fun _ => rfl) (fun a b => by show (a == b) = _; rw [Bool.eq_iff_iff]; simp) (fun as h => sorted_strs h) hd l0 l1 m0 m1
theorem intsOf_map : ∀ is : List Int, intsOf (is.map D.int) = some is
  | [] => rfl
  | i :: is => by simp [intsOf, intsOf_map is]
theorem some_int {F : Fn} (hF : DrawOk F) {kd : KD} {src : List Int} {m : Int} (hd : DI kd) (l0 : 1 ≤ src.length) (l1 : src.length ≤ 1000) (m0 : 0 ≤ m) (m1 : m ≤ 60) : FnP (runF 5 [0] (bSome F)) [kd, (.fz, .lst (src.map D.int)), (.fz, .int m)] (SomeQ D.int sortI src m) :=
  some_gen hF (fun _ => rfl) (fun _ => rfl) (fun a b => by show (a == b) = _; rw [Bool.eq_iff_iff]; simp) (fun as _ => by show (match intsOf (as.map D.int) with | some is => some ((.li .fz, .lst ((sortI is).map D.int)) : KD) | none => _) = _; rw [intsOf_map]) hd l0 l1 m0 m1
end TB

/-! TbP6: all([..]), [..] == [], things -/
namespace TB
theorem boolsOf_map {α : Type} (g : α → Bool) : ∀ l : List α, boolsOf (l.map fun x => D.bl (g x)) = some (l.map g)
  | [] => rfl
  | x :: l => by simp [boolsOf, boolsOf_map g l]
theorem filter_true (l : List D) : l.filter (fun _ => true) = l := List.filter_eq_self.mpr fun _ _ => rfl
section
variable {it : It} {c : T} {e : E} {v : Nat} {S : List Slot} {ds : List D}
theorem all_eq (g : D → Bool) (hit : it S = .ok ds S) (hz : fzAt S v = true) (hv : v < S.length) (hl : ds.length ≤ sizeMax) (he : ∀ d ∈ ds, ∃ k, e (S.set v (some (.fz, d))) = .ok (k, .bl (g d)) (S.set v (some (.fz, d)))) :
    eApp fAllB [eLc it (.nm v) [v] tTrue e] S = .ok (.fz, .bl (ds.all g)) S := by
  have h := lc_pure (c := tTrue) (e := e) (fun _ => true) (fun d => .bl (g d)) hit hv hz (fun _ _ => rfl) (fun d hd _ => he d hd) hl
  rw [filter_true] at h
  rw [eApp_ap, eAll_cons, eDat_ap, h]
  show ofO (fAllB [.lst (ds.map fun d => .bl (g d))]) S = _
  have : fAllB [.lst (ds.map fun d => .bl (g d))] = some (.fz, .bl (ds.all g)) := by
    show ((boolsOf _).bind fun bs => kz (.bl (bs.all id))) = _
    rw [boolsOf_map]
    show kz (.bl ((ds.map g).all id)) = _
    rw [List.all_map]; rfl
  rw [this]; rfl
theorem lays_of : ∀ {xs : List D}, (∀ d ∈ xs, d.lay n = true) → D.lays n xs = true
  | [], _ => by unfold D.lays; rfl
  | x :: xs, h => by
    unfold D.lays
    rw [h x List.mem_cons_self, lays_of fun d hd => h d (List.mem_cons_of_mem _ hd)]; rfl
theorem filt_nil (g : D → Bool) (ds : List D) : D.eqv (.lst (ds.filter fun d => !g d)) (.lst []) = ds.all g := by
  show D.eqvs _ [] = _
  have : ∀ l : List D, D.eqvs l [] = l.isEmpty := fun l => by cases l <;> (unfold D.eqvs; rfl)
  rw [this]
  induction ds with
  | nil => rfl
  | cons d ds ih =>
    rw [List.filter_cons, List.all_cons]
    cases h : g d with
    | true => simpa using ih
    | false => simp
theorem nil_lc (g : D → Bool) (hit : it S = .ok ds S) (hz : fzAt S v = true) (hv : v < S.length) (hl : ds.length ≤ sizeMax) (hc : ∀ d ∈ ds, c (S.set v (some (.fz, d))) = .ok (!g d) (S.set v (some (.fz, d)))) :
    eLc it (.nm v) [v] c (eVar v) S = .ok (.li .fz, .lst (ds.filter fun d => !g d)) S := by
  have h := lc_pure (c := c) (e := eVar v) (fun d => !g d) id hit hv hz hc (fun d hd _ => ⟨.fz, by rw [eVar_ap, List.getElem?_set_self hv]; rfl⟩) hl
  rw [List.map_id] at h
  exact h
theorem none_eq (g : D → Bool) (hit : it S = .ok ds S) (hz : fzAt S v = true) (hv : v < S.length) (hl : ds.length ≤ sizeMax) (hc : ∀ d ∈ ds, c (S.set v (some (.fz, d))) = .ok (!g d) (S.set v (some (.fz, d)))) (hy : ∀ d ∈ ds, d.lay 59 = true) :
    eOp fEq (eLc it (.nm v) [v] c (eVar v)) (eApp fLst []) S = .ok (.fz, .bl (ds.all g)) S := by
  have h1 : eqOk (.lst (ds.filter fun d => !g d)) (.lst []) = true := by
    unfold eqOk
    have : D.lay 60 (.lst (ds.filter fun d => !g d)) = true := by
      unfold D.lay
      exact lays_of fun d hd => hy d (List.mem_filter.mp hd).1
    rw [this]
    simp [D.lay, D.lays]
  rw [eOp_ap, eDat_ap, nil_lc g hit hz hv hl hc]
  simp [fLst, sizeMax, fEq, h1, filt_nil, kz]
theorem none_ne (g : D → Bool) (hit : it S = .ok ds S) (hz : fzAt S v = true) (hv : v < S.length) (hl : ds.length ≤ sizeMax) (hc : ∀ d ∈ ds, c (S.set v (some (.fz, d))) = .ok (!g d) (S.set v (some (.fz, d)))) (hy : ∀ d ∈ ds, d.lay 59 = true) :
    eOp fNe (eLc it (.nm v) [v] c (eVar v)) (eApp fLst []) S = .ok (.fz, .bl (!ds.all g)) S := by
  have h1 : eqOk (.lst (ds.filter fun d => !g d)) (.lst []) = true := by
    unfold eqOk
    have : D.lay 60 (.lst (ds.filter fun d => !g d)) = true := by
      unfold D.lay
      exact lays_of fun d hd => hy d (List.mem_filter.mp hd).1
    rw [this]
    simp [D.lay, D.lays]
  rw [eOp_ap, eDat_ap, nil_lc g hit hz hv hl hc]
  simp [fLst, sizeMax, fNe, h1, filt_nil, kz]
end
section
variable {it : It} {c : T} {e : E} {v : Nat} {S : List Slot} {ds : List D}
theorem all_ex (g : D → Bool) (hit : it S = .ok ds S) (hz : fzAt S v = true) (hv : v < S.length) (hl : ds.length ≤ sizeMax) (he : ∀ d ∈ ds, ∃ k, e (S.set v (some (.fz, d))) = .ok (k, .bl (g d)) (S.set v (some (.fz, d)))) :
    ∃ ys, eLc it (.nm v) [v] tTrue e S = .ok (.li .fz, .lst ys) S ∧ fAllB [.lst ys] = some (.fz, .bl (ds.all g)) := by
  have h := lc_pure (c := tTrue) (e := e) (fun _ => true) (fun d => .bl (g d)) hit hv hz (fun _ _ => rfl) (fun d hd _ => he d hd) hl
  rw [filter_true] at h
  refine ⟨_, h, ?_⟩
  show ((boolsOf _).bind fun bs => kz (.bl (bs.all id))) = _
  rw [boolsOf_map]
  show kz (.bl ((ds.map g).all id)) = _
  rw [List.all_map]; rfl
theorem none_ex (g : D → Bool) (hit : it S = .ok ds S) (hz : fzAt S v = true) (hv : v < S.length) (hl : ds.length ≤ sizeMax) (hc : ∀ d ∈ ds, c (S.set v (some (.fz, d))) = .ok (!g d) (S.set v (some (.fz, d)))) (hy : ∀ d ∈ ds, d.lay 59 = true) :
    ∃ ys, eLc it (.nm v) [v] c (eVar v) S = .ok (.li .fz, .lst ys) S ∧ fEq (.lst ys) (.lst []) = some (.fz, .bl (ds.all g)) ∧ fNe (.lst ys) (.lst []) = some (.fz, .bl (!ds.all g)) := by
  have h1 : eqOk (.lst (ds.filter fun d => !g d)) (.lst []) = true := by
    unfold eqOk
    have : D.lay 60 (.lst (ds.filter fun d => !g d)) = true := by
      unfold D.lay
      exact lays_of fun d hd => hy d (List.mem_filter.mp hd).1
    rw [this]
    simp [D.lay, D.lays]
  refine ⟨_, nil_lc g hit hz hv hl hc, ?_, ?_⟩
  · simp [fEq, h1, filt_nil, kz]
  · simp [fNe, h1, filt_nil, kz]
theorem fLst_nil : fLst [] = some (.li .fz, .lst []) := rfl
end
/-! ### things: no scripts, dicts, objects; of bounded size -/
def good (b : Nat) : Nat → D → Prop
  | _, .non => True
  | _, .bl _ => True
  | _, .int _ => True
  | _, .str s => s.length ≤ b ∧ ∀ c ∈ s, c < 1114112
  | n + 1, .lst xs => xs.length ≤ b ∧ ∀ x ∈ xs, good b n x
  | n + 1, .tup xs => xs.length ≤ b ∧ ∀ x ∈ xs, good b n x
  | _, _ => False
theorem good_mono {b b' : Nat} (hb : b ≤ b') : ∀ {n n' : Nat} {d : D}, n ≤ n' → good b n d → good b' n' d := by
  intro n
  induction n with
  | zero =>
    intro n' d hn h
    cases d <;> simp only [good] at h <;> cases n' <;> simp only [good] <;> first | trivial | exact ⟨by omega, h.2⟩ | exact h.elim
  | succ n ih =>
    intro n' d hn h
    cases n' with
    | zero => omega
    | succ n' =>
      cases d <;> simp only [good] at h ⊢ <;> first | trivial | exact ⟨by omega, h.2⟩ | exact ⟨by omega, fun x hx => ih (by omega) (h.2 x hx)⟩
theorem good_lay {b : Nat} : ∀ {n : Nat} {d : D}, good b n d → d.lay n = true := by
  intro n
  induction n with
  | zero => intro d h; cases d <;> simp only [good] at h <;> simp [D.lay] <;> first | exact h.2 | exact h.elim
  | succ n ih =>
    intro d h
    cases d <;> simp only [good] at h <;> unfold D.lay <;> first | rfl | exact lays_of fun d hd => ih (h.2 d hd) | simpa using h.2 | exact h.elim
theorem lay_mono : ∀ {n n' : Nat} {d : D}, n ≤ n' → d.lay n = true → d.lay n' = true := by
  intro n
  induction n with
  | zero => intro n' d hn h; cases d <;> cases n' <;> simp [D.lay] at h ⊢ <;> exact h
  | succ n ih =>
    intro n' d hn h
    cases n' with
    | zero => omega
    | succ n' =>
      have ys : ∀ {xs : List D}, D.lays n xs = true → D.lays n' xs = true := by
        intro xs
        induction xs with
        | nil => intro _; unfold D.lays; rfl
        | cons x xs ih2 =>
          intro h
          unfold D.lays at h ⊢
          obtain ⟨h1, h2⟩ := Bool.and_eq_true_iff.mp h
          rw [ih (by omega) h1, ih2 h2]; rfl
      cases d <;> unfold D.lay at h ⊢ <;> first | exact h | exact ys h
@[elab_as_elim] theorem good_elim {b n : Nat} {d : D} {P : D → Prop} (h : good b n d) (h1 : P .non) (h2 : ∀ x, P (.bl x)) (h3 : ∀ i, P (.int i)) (h4 : ∀ s : List Nat, s.length ≤ b → (∀ c ∈ s, c < 1114112) → P (.str s))
    (h5 : ∀ (xs : List D) (n' : Nat), n = n' + 1 → xs.length ≤ b → (∀ x ∈ xs, good b n' x) → P (.lst xs)) (h6 : ∀ (xs : List D) (n' : Nat), n = n' + 1 → xs.length ≤ b → (∀ x ∈ xs, good b n' x) → P (.tup xs)) : P d := by
  cases d with
  | non => exact h1
  | bl x => exact h2 x
  | int i => exact h3 i
  | str s =>
    have h : s.length ≤ b ∧ ∀ c ∈ s, c < 1114112 := by cases n <;> exact h
    exact h4 s h.1 h.2
  | lst xs => cases n with
    | zero => exact h.elim
    | succ n => exact h5 xs n rfl h.1 h.2
  | tup xs => cases n with
    | zero => exact h.elim
    | succ n => exact h6 xs n rfl h.1 h.2
  | _ => cases n <;> exact h.elim
theorem FnP.eq {F : Fn} {as : List KD} {r : KD} {o : List KD} (h : FnP F as fun r' o' => r' = r ∧ o' = o) : F as = .ret r o := by
  obtain ⟨r', o', e, rfl, rfl⟩ := h
  exact e
end TB

/-! TbP7: calls that take the draws along -/
namespace TB
theorem arEv_vs : ∀ (es : List E) (S : List Slot), arEv (es.map Ar.v) S = (eAll es S).bind fun ds S1 => .ok (ds.map AV.v) S1
  | [], S => rfl
  | e :: es, S => by
    rw [List.map_cons, arEv_v, eAll_cons]
    cases eDat e S with
    | ok d S1 =>
      show (arEv (es.map Ar.v) S1).bind _ = ((eAll es S1).bind _).bind _
      rw [arEv_vs es S1]
      cases eAll es S1 <;> rfl
    | exc x S1 => rfl
    | bad => rfl
theorem arIn_vs : ∀ (ds : List D) (S : List Slot), arIn (ds.map AV.v) S = some (ds.map fun d => (.fz, d), S)
  | [], S => rfl
  | d :: ds, S => by rw [List.map_cons]; unfold arIn; rw [arIn_vs ds S]; rfl
theorem arOut_vs : ∀ (ds : List D) (S : List Slot), arOut (ds.map AV.v) [] S = some S
  | [], S => rfl
  | d :: ds, S => by rw [List.map_cons]; unfold arOut; exact arOut_vs ds S
theorem DI.own {kd : KD} (h : DI kd) : kd.1.isF = false := by obtain ⟨a, b, rfl, _⟩ := h; rfl
theorem callB_wp {F : Fn} {i : Nat} {es : List E} {S : List Slot} {kd0 : KD} {Q : KD → List Slot → Prop} (h0 : S[i]? = some (some kd0))
    (h : okP (eAll es S) fun ds S1 => match S1[i]? with
      | some (some kd) => DI kd ∧ FnP F (kd :: ds.map fun d => (.fz, d)) fun r o => ∃ kd', o = [kd'] ∧ DI kd' ∧ Q r (S1.set i (some kd'))
      | _ => False) : okP (eCall F (.b i :: es.map Ar.v) S) Q := by
  refine call_wp ?_
  rw [arEv_b, h0]
  simp only [okP_bind]
  rw [arEv_vs, okP_bind]
  refine h.mono fun ds S1 h => ?_
  cases e1 : S1[i]? with
  | none => rw [e1] at h; exact h.elim
  | some s =>
    cases s with
    | none => rw [e1] at h; exact h.elim
    | some kd =>
      rw [e1] at h
      obtain ⟨hd, r, o, e2, kd', rfl, d2, q⟩ := h
      show (match arIn (.b i :: ds.map AV.v) S1 with | some (ks, S2) => _ | none => False)
      have e3 : arIn (.b i :: ds.map AV.v) S1 = some (kd :: ds.map fun d => (.fz, d), S1.set i none) := by
        unfold arIn
        rw [e1]
        simp only [hd.own, Bool.false_eq_true, if_false]
        rw [arIn_vs]; rfl
      rw [e3]
      refine ⟨r, [kd'], e2, ?_⟩
      have e4 : arOut (.b i :: ds.map AV.v) [kd'] (S1.set i none) = some (S1.set i (some kd')) := by
        unfold arOut
        rw [List.set_set, arOut_vs]
      simp only [e4]
      exact q
theorem call1_wp {F : Fn} {i : Nat} {a : E} {S : List Slot} {kd0 : KD} {Q : KD → List Slot → Prop} (h0 : S[i]? = some (some kd0))
    (h : okP (eAll [a] S) fun ds S1 => match S1[i]? with
      | some (some kd) => DI kd ∧ FnP F (kd :: ds.map fun d => (.fz, d)) fun r o => ∃ kd', o = [kd'] ∧ DI kd' ∧ Q r (S1.set i (some kd'))
      | _ => False) : okP (eCall F [.b i, .v a] S) Q := callB_wp (es := [a]) h0 h
theorem call2_wp {F : Fn} {i : Nat} {a b : E} {S : List Slot} {kd0 : KD} {Q : KD → List Slot → Prop} (h0 : S[i]? = some (some kd0))
    (h : okP (eAll [a, b] S) fun ds S1 => match S1[i]? with
      | some (some kd) => DI kd ∧ FnP F (kd :: ds.map fun d => (.fz, d)) fun r o => ∃ kd', o = [kd'] ∧ DI kd' ∧ Q r (S1.set i (some kd'))
      | _ => False) : okP (eCall F [.b i, .v a, .v b] S) Q := callB_wp (es := [a, b]) h0 h
theorem call3_wp {F : Fn} {i : Nat} {a b c : E} {S : List Slot} {kd0 : KD} {Q : KD → List Slot → Prop} (h0 : S[i]? = some (some kd0))
    (h : okP (eAll [a, b, c] S) fun ds S1 => match S1[i]? with
      | some (some kd) => DI kd ∧ FnP F (kd :: ds.map fun d => (.fz, d)) fun r o => ∃ kd', o = [kd'] ∧ DI kd' ∧ Q r (S1.set i (some kd'))
      | _ => False) : okP (eCall F [.b i, .v a, .v b, .v c] S) Q := callB_wp (es := [a, b, c]) h0 h
theorem FnP.mono {F : Fn} {as : List KD} {Q Q' : KD → List KD → Prop} (h : FnP F as Q) (i : ∀ r o, Q r o → Q' r o) : FnP F as Q' := by
  obtain ⟨r, o, e, q⟩ := h
  exact ⟨r, o, e, i r o q⟩
/-- a thing comes, the draws behind it -/
def ThingQ (b n : Nat) (r : KD) (o : List KD) : Prop := ∃ d kd', r = (.fz, d) ∧ o = [kd'] ∧ DI kd' ∧ good b n d
theorem outs_dr {kd kd' : KD} {S : List Slot} {as : List KD} (hd : DI kd) (hd' : DI kd') (ha : outsOf as S = some []) : outsOf (kd :: as) (some kd' :: S) = some [kd'] := by
  obtain ⟨a, b, rfl, _⟩ := hd
  obtain ⟨c, e, rfl, _⟩ := hd'
  unfold outsOf dr
  simp [Kd.isF, ha]
end TB

/-! k01: what is a name, a rule, a book: both sides say the same -/
namespace LW
open TB
def nameB (d : D) : Bool := match d with
  | .str s => nameS s
  | _ => false
def withinB (d : D) (lo hi : Int) : Bool := match d with
  | .int i => decide (lo ≤ i) && decide (i ≤ hi)
  | _ => false
def ltB : D → D → Bool
  | .int i, .int j => decide (i < j)
  | .str a, .str b => decide (a < b)
  | _, _ => false
def riseAt (xs : List D) (d : D) : Bool := match d with
  | .int k => ltB (xs.getD (k - 1).toNat .non) (xs.getD k.toNat .non)
  | _ => false
def riseB (xs : List D) : Bool := (rangeL 1 (xs.length - 1)).all (riseAt xs)
/-- all ints or all texts -/
def like (xs : List D) : Prop := (∀ x ∈ xs, ∃ i, x = .int i) ∨ (∀ x ∈ xs, ∃ s, x = .str s)
def namesB (d : D) (few many : Int) : Bool := match d with
  | .tup xs => decide (few ≤ xs.length) && decide ((xs.length : Int) ≤ many) && xs.all nameB && riseB xs
  | _ => false
section
variable {Γ : Nat → Fn} {b n : Nat} {d : D}
theorem within_0 {lo hi : Int} (h : good b n d) : runF 3 [] (mb_0 Γ) [(.fz, d), (.fz, .int lo), (.fz, .int hi)] = .ret (.fz, .bl (withinB d lo hi)) [] := by
  refine FnP.eq (runF_wp (by rfl) ?_)
  refine good_elim h ?_ ?_ ?_ ?_ ?_ ?_ <;> intros <;> simp [mb_0, fIsi, D.isTy, kz, fLe, chain2_ap, outsOf, Kd.isF, withinB]
  rename_i i
  by_cases h1 : lo ≤ i <;> simp [h1, outsOf, Kd.isF]
theorem inA (c : Nat) : fInA (.str [c]) (.str abc) = some (.fz, .bl (decide (c ∈ abc))) := rfl
theorem notInA (c : Nat) : fNotInA (.str [c]) (.str abc) = some (.fz, .bl (!decide (c ∈ abc))) := rfl
def signB (d : D) : Bool := match d with
  | .str [c] => decide (c ∈ abc)
  | _ => false
theorem signs (s : List Nat) : (s.map fun c => D.str [c]).all signB = s.all (abc.contains ·) := by
  rw [List.all_map]
  congr 1
  funext c
  show decide (c ∈ abc) = abc.contains c
  rw [Bool.eq_iff_iff]; simp
theorem name_1 (hb : b ≤ 1000) (h : good b n d) : runF 2 [] (mb_1 Γ) [(.fz, d)] = .ret (.fz, .bl (nameB d)) [] := by
  refine FnP.eq (runF_wp (by rfl) ?_)
  refine good_elim h ?_ ?_ ?_ ?_ ?_ ?_ <;> intros <;> simp [mb_1, ← abc_eq, fIsi, D.isTy, kz, fLe, outsOf, Kd.isF, nameB]
  rename_i s hl _
  have hs : s.length ≤ sizeMax := by simp [sizeMax]; omega
  obtain ⟨ys, e1, e2⟩ := all_ex (it := itStr (eVar 0)) (e := eOp fInA (eVar 1) (eCon (.str abc))) (v := 1) (S := [some (.fz, .str s), none]) (ds := s.map fun c => .str [c]) signB rfl rfl (by simp) (by simpa using hs) (fun d hd => by
    obtain ⟨c, _, rfl⟩ := List.mem_map.mp hd
    exact ⟨.fz, by simp [inA, signB]⟩)
  rw [signs] at e2
  by_cases h1 : 1 ≤ s.length
  · by_cases h2 : s.length ≤ 8
    · have h1' : (1 : Int) ≤ s.length := by omega
      have h2' : (s.length : Int) ≤ 8 := by omega
      simp [fLen, hs, kz, fLe, chain2_ap, h1', h2', e1, e2, outsOf, Kd.isF, nameS, h1, h2]
    · have h1' : (1 : Int) ≤ s.length := by omega
      have h2' : ¬ (s.length : Int) ≤ 8 := by omega
      simp [fLen, hs, kz, fLe, chain2_ap, h1', h2', outsOf, Kd.isF, nameS, h1, h2]
  · have h1' : ¬ (1 : Int) ≤ s.length := by omega
    simp [fLen, hs, kz, chain2_ap, h1', outsOf, Kd.isF, nameS, h1]
theorem fIx_tup {xs : List D} {k : Int} (h0 : 0 ≤ k) (h1 : k < xs.length) : fIx (.tup xs) (.int k) = some (.fz, xs.getD k.toNat .non) := by
  have hn : k.toNat < xs.length := by omega
  show ((normIx xs.length k).bind fun n => xs[n]?.bind kz) = _
  rw [normIx_nat h0 h1]
  simp [hn, kz, List.getD_eq_getElem?_getD]
theorem like_lt {xs : List D} (h : like xs) {i j : Nat} (hi : i < xs.length) (hj : j < xs.length) : fLt (xs.getD i .non) (xs.getD j .non) = some (.fz, .bl (ltB (xs.getD i .non) (xs.getD j .non))) ∧ fGe (xs.getD i .non) (xs.getD j .non) = some (.fz, .bl (!ltB (xs.getD i .non) (xs.getD j .non))) := by
  have gi : xs.getD i .non = xs[i] := by simp [List.getD_eq_getElem?_getD, hi]
  have gj : xs.getD j .non = xs[j] := by simp [List.getD_eq_getElem?_getD, hj]
  rw [gi, gj]
  rcases h with h | h
  · obtain ⟨a, ea⟩ := h _ (List.getElem_mem hi)
    obtain ⟨c, ec⟩ := h _ (List.getElem_mem hj)
    rw [ea, ec]
    refine ⟨rfl, ?_⟩
    show kz (.bl (decide (c ≤ a))) = some (.fz, .bl (!decide (a < c)))
    rw [← decide_not, decide_eq_decide.mpr Int.not_lt]; rfl
  · obtain ⟨a, ea⟩ := h _ (List.getElem_mem hi)
    obtain ⟨c, ec⟩ := h _ (List.getElem_mem hj)
    rw [ea, ec]
    exact ⟨rfl, rfl⟩
theorem lim1 : 1 < limN := by decide
theorem mem_rangeL {lo : Int} {n : Nat} {d : D} (h : d ∈ rangeL lo n) : ∃ i : Nat, i < n ∧ d = .int (lo + i) := by
  unfold rangeL at h
  obtain ⟨i, hi, rfl⟩ := List.mem_map.mp h
  exact ⟨i, List.mem_range.mp hi, rfl⟩
theorem rangeL_length (lo : Int) (n : Nat) : (rangeL lo n).length = n := by simp [rangeL]
theorem rise_2 {xs : List D} (h : like xs) (hl : xs.length ≤ 1000) : runF 2 [] (mb_2 Γ) [(.fz, .tup xs)] = .ret (.fz, .bl (riseB xs)) [] := by
  refine FnP.eq (runF_wp (by rfl) ?_)
  have hm : xs.length < limN := by unfold limN; omega
  have hn : ((xs.length : Int) - 1).toNat = xs.length - 1 := by omega
  obtain ⟨ys, e1, e2⟩ := all_ex (it := itRange2 (eCon (.int 1)) (eApp fLen [(eVar 0)])) (e := eOp fLt (eOp fIx (eVar 0) (eOp fSub (eVar 1) (eCon (.int 1)))) (eOp fIx (eVar 0) (eVar 1))) (v := 1) (S := [some (.fz, .tup xs), none]) (ds := rangeL 1 (xs.length - 1)) (riseAt xs)
    (by simp [fLen, kz, hm, hn, lim1]) rfl (by simp) (by rw [rangeL_length]; show _ ≤ 16777216; omega) (fun d hd => by
    obtain ⟨i, hi, rfl⟩ := mem_rangeL hd
    have a1 := fIx_tup (xs := xs) (k := 1 + (i : Int) - 1) (by omega) (by omega)
    have a2 := fIx_tup (xs := xs) (k := 1 + (i : Int)) (by omega) (by omega)
    have a3 := (like_lt h (i := (1 + (i : Int) - 1).toNat) (j := (1 + (i : Int)).toNat) (by omega) (by omega)).1
    refine ⟨.fz, ?_⟩
    rw [show riseAt xs (.int (1 + (i : Int))) = ltB (xs.getD (1 + (i : Int) - 1).toNat .non) (xs.getD (1 + (i : Int)).toNat .non) from rfl]
    generalize xs.getD (1 + (i : Int) - 1).toNat .non = x at a1 a3
    generalize xs.getD (1 + (i : Int)).toNat .non = y at a2 a3
    simp [fSub, kz, a1, a2, a3])
  simp [mb_2, e1, e2, outsOf, Kd.isF, riseB]
theorem like_names {xs : List D} (h : xs.all nameB = true) : like xs := .inr fun x hx => by
  have := List.all_eq_true.mp h x hx
  cases x <;> simp [nameB] at this
  exact ⟨_, rfl⟩
theorem names_3 {few many : Int} (h1 : ∀ d n, good b n d → Γ 1 [(.fz, d)] = .ret (.fz, .bl (nameB d)) []) (h2 : ∀ xs : List D, like xs → xs.length ≤ 1000 → Γ 2 [(.fz, .tup xs)] = .ret (.fz, .bl (riseB xs)) []) (hb : b ≤ 1000) (h : good b n d) :
    runF 4 [] (mb_3 Γ) [(.fz, d), (.fz, .int few), (.fz, .int many)] = .ret (.fz, .bl (namesB d few many)) [] := by
  refine FnP.eq (runF_wp (by rfl) ?_)
  refine good_elim h ?_ ?_ ?_ ?_ ?_ ?_ <;> intros <;> simp [mb_3, fIsi, D.isTy, kz, outsOf, Kd.isF, namesB]
  rename_i xs n' _ hl hx
  obtain ⟨ys, e1, e2⟩ := all_ex (it := itSeq (eVar 0)) (e := eCall (Γ 1) [.v (eVar 3)]) (v := 3) (S := [some (.fz, .tup xs), some (.fz, .int few), some (.fz, .int many), none]) (ds := xs) nameB rfl rfl (by simp) (by simp [sizeMax]; omega) (fun d hd => ⟨.fz, by simp [eCall_ap, arEv_v, arEv_nil, arIn, arOut, h1 d n' (hx d hd)]⟩)
  by_cases q1 : few ≤ xs.length
  · by_cases q2 : (xs.length : Int) ≤ many
    · cases q3 : xs.all nameB with
      | false => 
        rw [q3] at e2
        simp [fLen, kz, fLe, chain2_ap, q1, q2, e1, e2, outsOf, Kd.isF]
      | true =>
        rw [q3] at e2
        simp [fLen, kz, fLe, chain2_ap, q1, q2, e1, e2, outsOf, Kd.isF, eCall_ap, arEv_v, arEv_nil, arIn, arOut, h2 xs (like_names q3) (by omega)]
    · simp [fLen, kz, fLe, chain2_ap, q1, q2, outsOf, Kd.isF]
  · simp [fLen, kz, fLe, chain2_ap, q1, outsOf, Kd.isF]
end
end LW

/-! k01: what is a rule, a book: both sides say the same -/
namespace LW
open TB
def tLet : List Nat := [108, 101, 116]
def tBar : List Nat := [98, 97, 114]
def wordB (d : D) : Bool := match d with
  | .str w => decide (w = tLet) || decide (w = tBar)
  | _ => false
def daysB (d : D) : Bool := match d with
  | .tup ds => ds.all (fun d => withinB d 0 6) && riseB ds
  | _ => false
def hiB (g f : D) : Bool := match f with
  | .int l => withinB g l 1000000
  | _ => false
def rule6 (a c e f g h : D) : Bool := wordB a && (namesB c 0 2 && (namesB e 0 2 && (daysB f && (withinB g 1 1000000 && hiB h g))))
def ruleB (d : D) : Bool := match d with
  | .tup [a, c, e, f, g, h] => rule6 a c e f g h
  | _ => false
def bookB (d : D) : Bool := match d with
  | .tup xs => decide (xs.length ≤ 6) && xs.all ruleB
  | _ => false
theorem fNe_int (i j : Int) : fNe (.int i) (.int j) = some (.fz, .bl (!decide (i = j))) := by
  have : D.eqv (.int i) (.int j) = decide (i = j) := by show (i == j) = _; rw [Bool.eq_iff_iff]; simp
  unfold fNe
  rw [if_pos (by rfl), this]; rfl
theorem fEq_int (i j : Int) : fEq (.int i) (.int j) = some (.fz, .bl (decide (i = j))) := by
  have : D.eqv (.int i) (.int j) = decide (i = j) := by show (i == j) = _; rw [Bool.eq_iff_iff]; simp
  unfold fEq
  rw [if_pos (by rfl), this]; rfl
theorem fNe_bl (i j : Bool) : fNe (.bl i) (.bl j) = some (.fz, .bl (!(i == j))) := rfl
theorem str_or {b n : Nat} {d : D} (h : good b n d) : (∃ s, d = .str s) ∨ (fIsi .str d = some (.fz, .bl false) ∧ wordB d = false) := by
  refine good_elim h ?_ ?_ ?_ ?_ ?_ ?_ <;> intros <;> first | exact .inr ⟨rfl, rfl⟩ | exact .inl ⟨_, rfl⟩
theorem tup_or {b n : Nat} {d : D} (h : good b n d) : (∃ xs n', d = .tup xs ∧ n = n' + 1 ∧ xs.length ≤ b ∧ ∀ x ∈ xs, good b n' x) ∨ (fIsi .tuple d = some (.fz, .bl false) ∧ daysB d = false ∧ ruleB d = false ∧ bookB d = false ∧ ∀ few many, namesB d few many = false) := by
  refine good_elim h ?_ ?_ ?_ ?_ ?_ ?_ <;> intros <;> first | exact .inr ⟨rfl, rfl, rfl, rfl, fun _ _ => rfl⟩ | skip
  exact .inl ⟨_, _, rfl, by assumption, by assumption, by assumption⟩
theorem word_notin (w : List Nat) : fNotInA (.str w) (.tup [.str tLet, .str tBar]) = some (.fz, .bl (!wordB (.str w))) := by
  have h1 : D.eqv (.str tLet) (.str w) = decide (w = tLet) := by show (tLet == w) = _; rw [Bool.eq_iff_iff, beq_iff_eq, decide_eq_true_iff]; exact eq_comm
  have h2 : D.eqv (.str tBar) (.str w) = decide (w = tBar) := by show (tBar == w) = _; rw [Bool.eq_iff_iff, beq_iff_eq, decide_eq_true_iff]; exact eq_comm
  have : fNotIn (.str w) (.tup [.str tLet, .str tBar]) = some (.fz, .bl (!wordB (.str w))) := by
    show (if ((D.str w).flat && [D.str tLet, D.str tBar].all D.flat) = true then kz (.bl (![D.str tLet, D.str tBar].any fun y => D.eqv y (.str w))) else none) = _
    rw [if_pos (by rfl)]
    show kz (.bl (!(D.eqv (.str tLet) (.str w) || (D.eqv (.str tBar) (.str w) || false)))) = _
    rw [h1, h2, Bool.or_false]; rfl
  unfold fNotInA fOr
  rw [this]
theorem within_int {d : D} {lo hi : Int} (h : withinB d lo hi = true) : ∃ i, d = .int i := by
  cases d <;> simp [withinB] at h
  exact ⟨_, rfl⟩
theorem like_days {ds : List D} (h : ds.all (fun d => withinB d 0 6) = true) : like ds := .inl fun x hx => within_int (List.all_eq_true.mp h x hx)
section
variable {Γ : Nat → Fn} {b n : Nat} {d : D}
theorem six {xs : List D} (h : xs.length = 6) : ∃ a c e f g k, xs = [a, c, e, f, g, k] := by
  match xs, h with
  | [a, c, e, f, g, k], _ => exact ⟨a, c, e, f, g, k, rfl⟩
theorem not_six {xs : List D} (h : xs.length ≠ 6) : ruleB (.tup xs) = false := by
  unfold ruleB
  split
  · rename_i e; cases e; simp at h
  · rfl
theorem fLst1 (ds : List D) (h : ds.length ≤ sizeMax) : fTup ds = some (.fz, .tup ds) := by unfold fTup; rw [if_pos h]
end
end LW

/-! k01: the law's own look; books -/
namespace LW
open TB
theorem rise_len {ds : List D} (h1 : ds.all (fun d => withinB d 0 6) = true) (h2 : riseB ds = true) : ds.length ≤ 7 := by
  have key : ∀ i (hi : i < ds.length), ∃ z : Int, ds[i] = .int z ∧ (i : Int) ≤ z := by
    intro i
    induction i with
    | zero =>
      intro hi
      have w := List.all_eq_true.mp h1 _ (List.getElem_mem hi)
      obtain ⟨z, e⟩ := within_int w
      rw [e] at w
      simp [withinB] at w
      exact ⟨z, e, by omega⟩
    | succ i ih =>
      intro hi
      obtain ⟨z, e, hz⟩ := ih (by omega)
      have w := List.all_eq_true.mp h1 _ (List.getElem_mem hi)
      obtain ⟨y, e2⟩ := within_int w
      refine ⟨y, e2, ?_⟩
      have r := List.all_eq_true.mp h2 (.int (1 + (i : Int))) (by
        unfold rangeL
        exact List.mem_map.mpr ⟨i, List.mem_range.mpr (by omega), rfl⟩)
      have r : ltB (ds.getD (1 + (i : Int) - 1).toNat .non) (ds.getD (1 + (i : Int)).toNat .non) = true := r
      rw [show (1 + (i : Int) - 1).toNat = i by omega, show (1 + (i : Int)).toNat = i + 1 by omega] at r
      have g1 : ds.getD i .non = .int z := by simp [List.getD_eq_getElem?_getD, show i < ds.length by omega, e]
      have g2 : ds.getD (i + 1) .non = .int y := by simp [List.getD_eq_getElem?_getD, hi, e2]
      rw [g1, g2] at r
      have r : z < y := by simpa [ltB] using r
      omega
  by_cases h : ds.length ≤ 7
  · exact h
  · obtain ⟨z, e, hz⟩ := key 7 (by omega)
    have w := List.all_eq_true.mp h1 _ (List.getElem_mem (show 7 < ds.length by omega))
    rw [e] at w
    simp [withinB] at w
    omega
section
variable {Γ : Nat → Fn} {b n : Nat} {d : D}
end
end LW

namespace LW
open TB
theorem fLst_ok (ds : List D) (h : ds.length ≤ sizeMax) : fLst ds = some (.li .fz, .lst ds) := by unfold fLst; rw [if_pos h]
theorem neg_1 : fNeg (.int 1) = some (.fz, .int (-1)) := rfl
theorem pow_6 : fPow (.int 10) (.int 6) = some (.fz, .int 1000000) := rfl
theorem tup_0 : fTup [] = some (.fz, .tup []) := rfl
theorem isF_fz : Kd.isF .fz = true := rfl
end LW

/-! k01: rules and books that are drawn -/
namespace LW
open TB
theorem rise_of {xs : List D} (h : xs.Pairwise fun x y => ltB x y = true) : riseB xs = true := by
  unfold riseB
  rw [List.all_eq_true]
  intro d hd
  obtain ⟨i, hi, rfl⟩ := mem_rangeL hd
  show ltB (xs.getD (1 + (i : Int) - 1).toNat .non) (xs.getD (1 + (i : Int)).toNat .non) = true
  rw [show (1 + (i : Int) - 1).toNat = i by omega, show (1 + (i : Int)).toNat = i + 1 by omega]
  have g1 : xs.getD i .non = xs[i]'(by omega) := by simp [List.getD_eq_getElem?_getD, show i < xs.length by omega]
  have g2 : xs.getD (i + 1) .non = xs[i + 1]'(by omega) := by simp [List.getD_eq_getElem?_getD, show i + 1 < xs.length by omega]
  rw [g1, g2]
  exact List.pairwise_iff_getElem.mp h i (i + 1) _ _ (by omega)
theorem rise_str {as : List (List Nat)} (nd : as.Nodup) : riseB ((sortT as).map D.str) = true := by
  refine rise_of (List.pairwise_map.mpr ?_)
  have n2 : (sortT as).Nodup := (sortT_perm as).nodup_iff.mpr nd
  refine (List.Pairwise.and (sortT_pair as) n2).imp fun {a b} h => ?_
  show decide (a < b) = true
  rw [decide_eq_true_iff]
  rcases List.le_total b a with h2 | h2
  · exact absurd (List.le_antisymm h.1 h2) h.2
  · exact Decidable.byContradiction fun q => h.2 (List.le_antisymm h.1 (List.not_lt.mp q))
theorem sortI_perm (as : List Int) : (sortI as).Perm as := List.mergeSort_perm _ _
theorem sortI_pair (as : List Int) : (sortI as).Pairwise (· ≤ ·) := by
  unfold sortI
  have := List.pairwise_mergeSort (le := fun a b : Int => decide (a ≤ b)) (fun a b c h1 h2 => by simp at *; omega) (fun a b => by simp; omega) as
  exact this.imp fun h => by simpa using h
theorem rise_int {as : List Int} (nd : as.Nodup) : riseB ((sortI as).map D.int) = true := by
  refine rise_of (List.pairwise_map.mpr ?_)
  have n2 : (sortI as).Nodup := (sortI_perm as).nodup_iff.mpr nd
  refine (List.Pairwise.and (sortI_pair as) n2).imp fun {a b} h => ?_
  show decide (a < b) = true
  rw [decide_eq_true_iff]
  have h1 := h.1
  have h2 := h.2
  omega
theorem name_good {s : List Nat} (h : nameS s = true) (n : Nat) : good 9 n (.str s) := by
  unfold nameS at h
  have h1 : s.length ≤ 8 := by simp at h; exact h.1.2
  have h2 : ∀ c ∈ s, c ∈ abc := by simp at h; exact h.2
  have h3 : ∀ c ∈ abc, c < 1114112 := by decide
  have : s.length ≤ 9 ∧ ∀ c ∈ s, c < 1114112 := ⟨by omega, fun c hc => h3 c (h2 c hc)⟩
  cases n <;> exact this
theorem some_names {src as : List (List Nat)} (hs : ∀ s ∈ src, nameS s = true) (nd : as.Nodup) (hl : as.length ≤ 2) (sub : ∀ a ∈ as, a ∈ src) (n : Nat) : namesB (.tup ((sortT as).map D.str)) 0 2 = true ∧ good 9 (n + 1) (.tup ((sortT as).map D.str)) := by
  have len : ((sortT as).map D.str).length ≤ 2 := by rw [List.length_map, (sortT_perm as).length_eq]; exact hl
  have mem : ∀ x ∈ sortT as, nameS x = true := fun x hx => hs x (sub x ((sortT_perm as).mem_iff.mp hx))
  constructor
  · unfold namesB
    have l2 : (((sortT as).map D.str).length : Int) ≤ 2 := by omega
    have al : ((sortT as).map D.str).all nameB = true := by
      rw [List.all_map, List.all_eq_true]
      exact mem
    show (decide ((0 : Int) ≤ (((sortT as).map D.str).length : Int)) && decide ((((sortT as).map D.str).length : Int) ≤ 2) && ((sortT as).map D.str).all nameB && riseB ((sortT as).map D.str)) = true
    rw [rise_str nd, al, decide_eq_true l2, decide_eq_true (Int.natCast_nonneg _)]
    rfl
  · exact ⟨by omega, fun x hx => by
      obtain ⟨s, hs, rfl⟩ := List.mem_map.mp hx
      exact name_good (mem s hs) n⟩
theorem some_days {as : List Int} (nd : as.Nodup) (hl : as.length ≤ 7) (sub : ∀ a ∈ as, a ∈ ([0, 1, 2, 3, 4, 5, 6] : List Int)) (n : Nat) : daysB (.tup ((sortI as).map D.int)) = true ∧ good 9 (n + 1) (.tup ((sortI as).map D.int)) := by
  have mem : ∀ x ∈ sortI as, 0 ≤ x ∧ x ≤ 6 := fun x hx => by
    have := sub x ((sortI_perm as).mem_iff.mp hx)
    simp at this; omega
  constructor
  · unfold daysB
    show (((sortI as).map D.int).all (fun d => withinB d 0 6) && riseB ((sortI as).map D.int)) = true
    rw [rise_int nd, Bool.and_true, List.all_map, List.all_eq_true]
    intro x hx
    have := mem x hx
    show (decide (0 ≤ x) && decide (x ≤ 6)) = true
    simp; exact this
  · refine ⟨by rw [List.length_map, (sortI_perm as).length_eq]; omega, fun x hx => ?_⟩
    obtain ⟨s, hs, rfl⟩ := List.mem_map.mp hx
    cases n <;> exact trivial
/-- a rule that is one -/
def RuleQ (r : KD) (o : List KD) : Prop := ∃ d kd', r = (.fz, d) ∧ o = [kd'] ∧ DI kd' ∧ good 9 2 d ∧ ruleB d = true
def BookQ (r : KD) (o : List KD) : Prop := ∃ xs kd', r = (.fz, .tup xs) ∧ o = [kd'] ∧ DI kd' ∧ good 9 3 (.tup xs) ∧ bookB (.tup xs) = true
section
variable {Γ : Nat → Fn}
theorem days_src : rangeL 0 7 = ([0, 1, 2, 3, 4, 5, 6] : List Int).map D.int := rfl
theorem rule_9 {kd : KD} {s1 s2 : List (List Nat)} {far : Int} (hF : DrawOk (Γ 7)) (hS : ∀ kd (src : List (List Nat)) m, DI kd → 1 ≤ src.length → src.length ≤ 1000 → 0 ≤ m → m ≤ 60 → FnP (Γ 8) [kd, (.fz, .lst (src.map D.str)), (.fz, .int m)] (SomeQ D.str sortT src m))
    (hI : ∀ kd (src : List Int) m, DI kd → 1 ≤ src.length → src.length ≤ 1000 → 0 ≤ m → m ≤ 60 → FnP (Γ 8) [kd, (.fz, .lst (src.map D.int)), (.fz, .int m)] (SomeQ D.int sortI src m))
    (hd : DI kd) (l1 : 1 ≤ s1.length) (l1' : s1.length ≤ 1000) (l2 : 1 ≤ s2.length) (l2' : s2.length ≤ 1000) (n1 : ∀ s ∈ s1, nameS s = true) (n2 : ∀ s ∈ s2, nameS s = true) (f0 : 1 ≤ far) (f1 : far ≤ 1000000) :
    FnP (runF 8 [0] (mb_9 Γ)) [kd, (.fz, .lst (s1.map D.str)), (.fz, .lst (s2.map D.str)), (.fz, .int far)] RuleQ := by
  refine runF_wp (by obtain ⟨a, b, rfl, _⟩ := hd; rfl) ?_
  simp [mb_9, -Prod.exists, -Prod.forall]
  refine draw_wp hF rfl ?_
  simp [hd, -Prod.exists, -Prod.forall]
  intro x1 k1 h1 x1a x1b
  refine draw_wp hF rfl ?_
  simp [h1, -Prod.exists, -Prod.forall]
  refine ⟨f0, by omega, fun x2 k2 h2 x2a x2b => ?_⟩
  have e0 : fLst [.int 0, .int x1, .int x2] = some (.li .fz, .lst [.int 0, .int x1, .int x2]) := rfl
  simp [e0, -Prod.exists, -Prod.forall]
  refine draw_wp hF rfl ?_
  simp [h2, -Prod.exists, -Prod.forall]
  intro x3 k3 h3 x3a x3b
  obtain ⟨lo, e1, lo0, lo1⟩ := pick_int (xs := [.int 0, .int x1, .int x2]) (lo := 0) (hi := 999999) x3a (by simpa using x3b) (by simp; omega)
  simp [e1, fAdd, kz, pow_6, -Prod.exists, -Prod.forall]
  refine draw_wp hF rfl ?_
  simp [h3, -Prod.exists, -Prod.forall]
  intro x4 k4 h4 x4a x4b
  refine draw_wp hF rfl ?_
  simp [h4, -Prod.exists, -Prod.forall]
  refine ⟨f0, by omega, fun x5 k5 h5 x5a x5b => ?_⟩
  have e2 : fLst [.int 0, .int x4, .int x5, .int 1000000] = some (.li .fz, .lst [.int 0, .int x4, .int x5, .int 1000000]) := rfl
  simp [pow_6, e2, -Prod.exists, -Prod.forall]
  refine draw_wp hF rfl ?_
  simp [h5, -Prod.exists, -Prod.forall]
  intro x6 k6 h6 x6a x6b
  obtain ⟨ad, e3, ad0, ad1⟩ := pick_int (xs := [.int 0, .int x4, .int x5, .int 1000000]) (lo := 0) (hi := 1000000) x6a (by simpa using x6b) (by simp; omega)
  simp [e3, fAdd, kz, fMin2, -Prod.exists, -Prod.forall]
  generalize hh : (if 1 + lo + ad < 1000000 then 1 + lo + ad else 1000000) = hi
  have hi0 : 1 + lo ≤ hi := by rw [← hh]; split <;> omega
  have hi1 : hi ≤ 1000000 := by rw [← hh]; split <;> omega
  refine call2_wp rfl ?_
  simp [sizeMax, -Prod.exists, -Prod.forall]
  refine draw_wp hF rfl ?_
  simp [h6, -Prod.exists, -Prod.forall]
  intro x7 k7 h7 x7a x7b
  obtain ⟨most, e4, mo0, mo1⟩ := pick_int (xs := [.int 0, .int 3, .int 7]) (lo := 0) (hi := 7) x7a (by simpa using x7b) (by simp)
  have e5 : fLst [.int 0, .int 3, .int 7] = some (.li .fz, .lst [.int 0, .int 3, .int 7]) := rfl
  simp [e4, e5, h7, days_src, -Prod.exists, -Prod.forall]
  refine (hI k7 [0, 1, 2, 3, 4, 5, 6] most h7 (by simp) (by simp) mo0 (by omega)).mono ?_
  rintro _ _ ⟨as, k8, rfl, rfl, h8, nd, al, sub⟩
  refine ⟨k8, rfl, h8, ?_⟩
  obtain ⟨dy1, dy2⟩ := some_days nd (by omega) sub 0
  generalize hdy : D.tup ((sortI as).map D.int) = dy at dy1 dy2
  have e7 : fLst [.str [98, 97, 114], .str [108, 101, 116]] = some (.li .fz, .lst [.str tBar, .str tLet]) := rfl
  simp [e7, -Prod.exists, -Prod.forall]
  refine draw_wp hF rfl ?_
  simp [h8, -Prod.exists, -Prod.forall]
  intro x9 k9 h9 x9a x9b
  have q0 : 0 ≤ x9 / 3 := by omega
  have q1 : x9 / 3 < 2 := by omega
  obtain ⟨wd, hw, e6⟩ := fIx_lst (xs := [.str tBar, .str tLet]) q0 (by simpa using q1)
  have hw2 : wordB wd = true ∧ good 9 1 wd := by
    simp at hw
    rcases hw with rfl | rfl
    · exact ⟨rfl, by simp [good, tBar]⟩
    · exact ⟨rfl, by simp [good, tLet]⟩
  have e8 : fDiv (.int x9) (.int 3) = some (.fz, .int (x9 / 3)) := rfl
  simp [e6, e7, e8, -Prod.exists, -Prod.forall]
  refine call2_wp rfl ?_
  simp [h9, -Prod.exists, -Prod.forall]
  refine (hS k9 s1 2 h9 l1 l1' (by omega) (by omega)).mono ?_
  rintro _ _ ⟨as1, k10, rfl, rfl, h10, nd1, al1, sub1⟩
  refine ⟨k10, rfl, h10, ?_⟩
  obtain ⟨na1, na2⟩ := some_names n1 nd1 al1 sub1 0
  generalize hna : D.tup ((sortT as1).map D.str) = na at na1 na2
  simp [-Prod.exists, -Prod.forall]
  refine call2_wp rfl ?_
  simp [h10, -Prod.exists, -Prod.forall]
  refine (hS k10 s2 2 h10 l2 l2' (by omega) (by omega)).mono ?_
  rintro _ _ ⟨as2, k11, rfl, rfl, h11, nd2, al2, sub2⟩
  refine ⟨k11, rfl, h11, ?_⟩
  obtain ⟨nb1, nb2⟩ := some_names n2 nd2 al2 sub2 0
  generalize hnb : D.tup ((sortT as2).map D.str) = nb at nb1 nb2
  have e9 : fTup [wd, na, nb, dy, .int (1 + lo), .int hi] = some (.fz, .tup [wd, na, nb, dy, .int (1 + lo), .int hi]) := rfl
  simp [e9, outsOf, hd.own, h11.own, isF_fz, -Prod.exists, -Prod.forall]
  refine ⟨_, k11, rfl, rfl, h11, ?_, ?_⟩
  · refine ⟨by simp, ?_⟩
    simp only [List.mem_cons, List.not_mem_nil, or_false, forall_eq_or_imp, forall_eq]
    exact ⟨hw2.2, na2, nb2, dy2, trivial, trivial⟩
  · show rule6 wd na nb dy (.int (1 + lo)) (.int hi) = true
    have w1 : withinB (.int (1 + lo)) 1 1000000 = true := by simp [withinB]; omega
    have w2 : hiB (.int hi) (.int (1 + lo)) = true := by simp [hiB, withinB]; omega
    unfold rule6
    rw [hw2.1, na1, nb1, dy1, w1, w2]; rfl
theorem book_10 {kd : KD} {s1 s2 : List (List Nat)} (hF : DrawOk (Γ 7)) (hR : ∀ kd far, DI kd → 1 ≤ far → far ≤ 1000000 → FnP (Γ 9) [kd, (.fz, .lst (s1.map D.str)), (.fz, .lst (s2.map D.str)), (.fz, .int far)] RuleQ) (hd : DI kd) :
    FnP (runF 5 [0] (mb_10 Γ)) [kd, (.fz, .lst (s1.map D.str)), (.fz, .lst (s2.map D.str))] BookQ := by
  refine runF_wp (by obtain ⟨a, b, rfl, _⟩ := hd; rfl) ?_
  have e0 : fLst [.int 30, .int 1000000] = some (.li .fz, .lst [.int 30, .int 1000000]) := rfl
  simp [mb_10, pow_6, e0, -Prod.exists, -Prod.forall]
  refine draw_wp hF rfl ?_
  simp [hd, -Prod.exists, -Prod.forall]
  intro x1 k1 h1 x1a x1b
  have e8 : fDiv (.int x1) (.int 3) = some (.fz, .int (x1 / 3)) := rfl
  obtain ⟨far, e1, f0, f1⟩ := pick_int (xs := [.int 30, .int 1000000]) (r := x1 / 3) (lo := 1) (hi := 1000000) (by omega) (by show x1 / 3 < 2; omega) (by simp)
  simp [e8, e1, -Prod.exists, -Prod.forall]
  refine lc_wp (fun S => ∃ kd, DI kd ∧ S = [some kd, some (.fz, .lst (s1.map D.str)), some (.fz, .lst (s2.map D.str)), some (.fz, .int far), none]) (fun d => good 9 2 d ∧ ruleB d = true) ?_ ?_
  · rintro S ⟨_, _, rfl⟩; simp
  simp [-Prod.exists, -Prod.forall]
  refine draw_wp hF rfl ?_
  simp [h1, -Prod.exists, -Prod.forall]
  intro r k2 h2 r0 r1
  have hr : r.natAbs < limN := by unfold limN; omega
  simp [hr, -Prod.exists, -Prod.forall]
  refine ⟨by simp [fzAt], by rw [rangeL_length]; show _ ≤ 16777216; omega, h2, ?_, ?_⟩
  · rintro S d k3 h3 rfl hm
    refine call3_wp rfl ?_
    simp [h3, -Prod.exists, -Prod.forall]
    refine (hR k3 far h3 f0 f1).mono ?_
    rintro _ _ ⟨x, k4, rfl, rfl, h4, g4, b4⟩
    exact ⟨k4, rfl, h4, g4, b4⟩
  · rintro ys S' hl hy k3 h3 rfl
    rw [rangeL_length] at hl
    simp [fTuple, kz, outsOf, hd.own, h3.own, isF_fz, -Prod.exists, -Prod.forall]
    refine ⟨ys, k3, rfl, rfl, h3, ⟨by omega, fun x hx => (hy x hx).1⟩, ?_⟩
    show (decide (ys.length ≤ 6) && ys.all ruleB) = true
    rw [decide_eq_true (by omega), List.all_eq_true.mpr fun x hx => (hy x hx).2]; rfl
end
end LW

/-! k07: rows, what is a row -/
namespace LW
open TB
abbrev tWrong : List Nat := [119, 114, 111, 110, 103]
abbrev tPaid : List Nat := [112, 97, 105, 100]
abbrev tBack : List Nat := [98, 97, 99, 107]
abbrev tLent : List Nat := [108, 101, 110, 116]
abbrev tBought : List Nat := [98, 111, 117, 103, 104, 116]
inductive Row where
  | wrong (day no : Int) (p q : List Nat)
  | paid (day : Int) (p : List Nat) (pence : Int)
  | back (day : Int) (p q : List Nat) (pence : Int)
  | lent (day : Int) (p q : List Nat) (pence : Int)
  | bought (day no : Int) (ps : List (List Nat)) (kind : List Nat) (pence : Int)
  deriving DecidableEq
def Row.enc : Row → D
  | .wrong d n p q => .tup [.str tWrong, .int d, .int n, .str p, .str q]
  | .paid d p c => .tup [.str tPaid, .int d, .str p, .int c]
  | .back d p q c => .tup [.str tBack, .int d, .str p, .str q, .int c]
  | .lent d p q c => .tup [.str tLent, .int d, .str p, .str q, .int c]
  | .bought d n ps k c => .tup [.str tBought, .int d, .int n, .tup (ps.map D.str), .str k, .int c]
def inB (i lo hi : Int) : Prop := lo ≤ i ∧ i ≤ hi
def Row.ok : Row → Prop
  | .wrong d n p q => inB d 0 1000000 ∧ inB n 0 1000000 ∧ nameS p = true ∧ nameS q = true ∧ p ≠ q
  | .paid d p c => inB d 0 1000000 ∧ nameS p = true ∧ inB c 1 1000000
  | .back d p q c => inB d 0 1000000 ∧ nameS p = true ∧ nameS q = true ∧ p ≠ q ∧ inB c 1 1000000
  | .lent d p q c => inB d 0 1000000 ∧ nameS p = true ∧ nameS q = true ∧ p ≠ q ∧ inB c 1 1000000
  | .bought d n ps k c => inB d 0 1000000 ∧ inB n 0 1000000 ∧ (∀ p ∈ ps, nameS p = true) ∧ namesB (.tup (ps.map D.str)) 1 4 = true ∧ nameS k = true ∧ inB c ps.length 1000000
section
variable {Γ : Nat → Fn}
def W0 (F : Fn) : Prop := ∀ i lo hi : Int, F [(.fz, .int i), (.fz, .int lo), (.fz, .int hi)] = .ret (.fz, .bl (withinB (.int i) lo hi)) []
def N1 (F : Fn) : Prop := ∀ s : List Nat, nameS s = true → F [(.fz, .str s)] = .ret (.fz, .bl true) []
def N3 (F : Fn) : Prop := ∀ ps : List (List Nat), (∀ p ∈ ps, nameS p = true) → namesB (.tup (ps.map D.str)) 1 4 = true → F [(.fz, .tup (ps.map D.str)), (.fz, .int 1), (.fz, .int 4)] = .ret (.fz, .bl true) []
def T54 (F : Fn) : Prop := ∀ p q : List Nat, nameS p = true → nameS q = true → p ≠ q → F [(.fz, .str p), (.fz, .str q)] = .ret (.fz, .bl true) []
theorem fNe_str {p q : List Nat} (h : p ≠ q) : fNe (.str p) (.str q) = some (.fz, .bl true) := by
  have : D.eqv (.str p) (.str q) = false := by show (p == q) = false; simp [h]
  unfold fNe
  rw [if_pos (by rfl), this]; rfl
theorem two_54 (h1 : N1 (Γ 1)) : T54 (runF 2 [] (mb_54 Γ)) := fun p q hp hq hn => by
  refine FnP.eq (runF_wp (by rfl) ?_)
  simp [mb_54, eCall_ap, arEv_v, arEv_nil, arIn, arOut, h1 p hp, h1 q hq, fNe_str hn, outsOf, Kd.isF]
theorem within_t {i lo hi : Int} (h : inB i lo hi) : withinB (.int i) lo hi = true := by
  unfold inB at h
  simp [withinB, h.1, h.2]
theorem get_w : fGetC [([119, 114, 111, 110, 103], 5), ([112, 97, 105, 100], 4), ([98, 97, 99, 107], 5), ([108, 101, 110, 116], 5), ([98, 111, 117, 103, 104, 116], 6)] (.str tWrong) (.int 0) = some (.fz, .int 5) := rfl
theorem get_p : fGetC [([119, 114, 111, 110, 103], 5), ([112, 97, 105, 100], 4), ([98, 97, 99, 107], 5), ([108, 101, 110, 116], 5), ([98, 111, 117, 103, 104, 116], 6)] (.str tPaid) (.int 0) = some (.fz, .int 4) := rfl
theorem get_b : fGetC [([119, 114, 111, 110, 103], 5), ([112, 97, 105, 100], 4), ([98, 97, 99, 107], 5), ([108, 101, 110, 116], 5), ([98, 111, 117, 103, 104, 116], 6)] (.str tBack) (.int 0) = some (.fz, .int 5) := rfl
theorem get_l : fGetC [([119, 114, 111, 110, 103], 5), ([112, 97, 105, 100], 4), ([98, 97, 99, 107], 5), ([108, 101, 110, 116], 5), ([98, 111, 117, 103, 104, 116], 6)] (.str tLent) (.int 0) = some (.fz, .int 5) := rfl
theorem get_o : fGetC [([119, 114, 111, 110, 103], 5), ([112, 97, 105, 100], 4), ([98, 97, 99, 107], 5), ([108, 101, 110, 116], 5), ([98, 111, 117, 103, 104, 116], 6)] (.str tBought) (.int 0) = some (.fz, .int 6) := rfl
def R55 (F : Fn) : Prop := ∀ r : Row, r.ok → F [(.fz, r.enc)] = .ret (.fz, .bl true) []
/-- x[i] of a tuple, a number -/
theorem ix0 {a : D} {xs : List D} : fIx (.tup (a :: xs)) (.int 0) = some (.fz, a) := by rw [fIx_tup (by omega) (by simp)]; rfl
theorem ix1 {a b : D} {xs : List D} : fIx (.tup (a :: b :: xs)) (.int 1) = some (.fz, b) := by rw [fIx_tup (by omega) (by simp; omega)]; rfl
theorem ix2 {a b c : D} {xs : List D} : fIx (.tup (a :: b :: c :: xs)) (.int 2) = some (.fz, c) := by rw [fIx_tup (by omega) (by simp; omega)]; rfl
theorem ix3 {a b c d : D} {xs : List D} : fIx (.tup (a :: b :: c :: d :: xs)) (.int 3) = some (.fz, d) := by rw [fIx_tup (by omega) (by simp; omega)]; rfl
theorem ix4 {a b c d e : D} {xs : List D} : fIx (.tup (a :: b :: c :: d :: e :: xs)) (.int 4) = some (.fz, e) := by rw [fIx_tup (by omega) (by simp; omega)]; rfl
theorem ix5 {a b c d e f : D} {xs : List D} : fIx (.tup (a :: b :: c :: d :: e :: f :: xs)) (.int 5) = some (.fz, f) := by rw [fIx_tup (by omega) (by simp; omega)]; rfl
theorem fEq_str (p q : List Nat) : fEq (.str p) (.str q) = some (.fz, .bl (decide (p = q))) := by
  have : D.eqv (.str p) (.str q) = decide (p = q) := by show (p == q) = _; rw [Bool.eq_iff_iff]; simp
  unfold fEq
  rw [if_pos (by rfl), this]; rfl
theorem isi_tup (xs : List D) : fIsi .tuple (.tup xs) = some (.fz, .bl true) := rfl
theorem isi_str (s : List Nat) : fIsi .str (.str s) = some (.fz, .bl true) := rfl
theorem row_55 (h0 : W0 (Γ 0)) (h1 : N1 (Γ 1)) (h3 : N3 (Γ 3)) (h54 : T54 (Γ 54)) : R55 (runF 1 [] (mb_55 Γ)) := fun r hr => by
  refine FnP.eq (runF_wp (by rfl) ?_)
  cases r with
  | wrong d n p q =>
    obtain ⟨a1, a2, a3, a4, a5⟩ := hr
    simp [mb_55, Row.enc, isi_tup, isi_str, ix0, ix1, ix2, ix3, ix4, get_w, fLen, kz, fLt, fNe_int, fEq_str, eCall_ap, arEv_v, arEv_nil, arIn, arOut, h0 d 0 1000000, h0 n 0 1000000, within_t a1, within_t a2, h54 p q a3 a4 a5, outsOf, Kd.isF]
  | paid d p c =>
    obtain ⟨a1, a2, a3⟩ := hr
    simp [mb_55, Row.enc, isi_tup, isi_str, ix0, ix1, ix2, ix3, ix4, get_p, fLen, kz, fLt, fNe_int, fEq_str, eCall_ap, arEv_v, arEv_nil, arIn, arOut, h0 d 0 1000000, h0 c 1 1000000, within_t a1, within_t a3, h1 p a2, outsOf, Kd.isF]
  | back d p q c =>
    obtain ⟨a1, a3, a4, a5, a2⟩ := hr
    simp [mb_55, Row.enc, isi_tup, isi_str, ix0, ix1, ix2, ix3, ix4, get_b, fLen, kz, fLt, fNe_int, fEq_str, eCall_ap, arEv_v, arEv_nil, arIn, arOut, h0 d 0 1000000, h0 c 1 1000000, within_t a1, within_t a2, h54 p q a3 a4 a5, outsOf, Kd.isF]
  | lent d p q c =>
    obtain ⟨a1, a3, a4, a5, a2⟩ := hr
    simp [mb_55, Row.enc, isi_tup, isi_str, ix0, ix1, ix2, ix3, ix4, get_l, fLen, kz, fLt, fNe_int, fEq_str, eCall_ap, arEv_v, arEv_nil, arIn, arOut, h0 d 0 1000000, h0 c 1 1000000, within_t a1, within_t a2, h54 p q a3 a4 a5, outsOf, Kd.isF]
  | bought d n ps k c =>
    obtain ⟨a1, a2, a3, a4, a5, a6⟩ := hr
    simp [mb_55, Row.enc, isi_tup, isi_str, ix0, ix1, ix2, ix3, ix4, ix5, get_o, fLen, kz, fLt, fNe_int, fEq_str, eCall_ap, arEv_v, arEv_nil, arIn, arOut, h0 d 0 1000000, h0 n 0 1000000, h0 c ps.length 1000000, within_t a1, within_t a2, within_t a6, h3 ps a3 a4, h1 k a5, outsOf, Kd.isF]
end
end LW

/-! k07: rows: what are rows -/
namespace LW
open TB
theorem strs_eqv : ∀ ps qs : List (List Nat), D.eqvs (ps.map D.str) (qs.map D.str) = decide (ps = qs)
  | [], [] => rfl
  | [], _ :: _ => rfl
  | _ :: _, [] => rfl
  | p :: ps, q :: qs => by
    show ((p == q) && D.eqvs (ps.map D.str) (qs.map D.str)) = _
    rw [strs_eqv ps qs]
    by_cases h : p = q <;> by_cases h2 : ps = qs <;> simp [h, h2]
theorem enc_eqv (r s : Row) : D.eqv r.enc s.enc = decide (r = s) := by
  cases r <;> cases s <;> simp only [Row.enc, D.eqv, D.eqvs, strs_eqv, Row.wrong.injEq, Row.paid.injEq, Row.back.injEq, Row.lent.injEq, Row.bought.injEq, reduceCtorEq, Bool.and_true, decide_false] <;> first | (rw [Bool.eq_iff_iff]; simp [tWrong, tPaid, tBack, tLent, tBought]; done) | (rw [Bool.eq_iff_iff]; simp [and_assoc])
theorem enc_inj {r s : Row} (h : r.enc = s.enc) : r = s := by
  have : D.eqv s.enc s.enc = true := by rw [enc_eqv]; simp
  have e := enc_eqv r s
  rw [h, this] at e
  exact of_decide_eq_true e.symm
theorem nks_str : ∀ (n : Nat) (ps : List (List Nat)), D.nks n (ps.map D.str) = true
  | _, [] => by simp [D.nks]
  | n, p :: ps => by simp [D.nks, D.nk, nks_str n ps]
theorem enc_nk (r : Row) : isNK r.enc = true := by
  cases r <;> simp [isNK, Row.enc, D.isTup, D.nk, D.nks, nks_str]
theorem nub_all {α : Type} [DecidableEq α] (f : α → D) (hf : ∀ a b, D.eqv (f a) (f b) = decide (a = b)) : ∀ (xs acc : List α), (acc ++ xs).Nodup → nubD (acc.map f) (xs.map f) = (acc ++ xs).map f
  | [], acc, _ => by simp [nubD]
  | x :: xs, acc, h => by
    rw [List.map_cons]
    unfold nubD
    have : ((acc.map f).any fun y => D.eqv y (f x)) = false := by
      rw [List.any_map, List.any_eq_false]
      intro a ha
      show ¬ D.eqv (f a) (f x) = true
      rw [hf]
      have := (List.nodup_append.mp h).2.2 a ha x List.mem_cons_self
      simpa using this
    rw [this]
    have e := nub_all f hf xs (acc ++ [x]) (by simpa using h)
    rw [List.map_append] at e
    simp only [Bool.false_eq_true, if_false]
    rw [show acc.map f ++ [f x] = acc.map f ++ [x].map f from rfl, e]
    simp
theorem lenSet_rows {rows : List Row} (nd : rows.Nodup) (hl : rows.length < 60) : fLenSet (.lst (rows.map Row.enc)) = some (.fz, .int rows.length) := by
  have h : setOk (rows.map Row.enc) = true := by
    unfold setOk
    have a : (rows.map Row.enc).all isNK = true := by rw [List.all_map]; exact List.all_eq_true.mpr fun r _ => enc_nk r
    rw [a, List.length_map, decide_eq_true (by omega : rows.length < 76)]; simp
  have e := nub_all Row.enc enc_eqv rows [] (by simpa using nd)
  simp only [List.map_nil, List.nil_append] at e
  simp only [fLenSet, h, if_true, e, List.length_map, kz]
theorem lenSet_ints {is : List Int} (nd : is.Nodup) (hl : is.length < 60) : fLenSet (.lst (is.map D.int)) = some (.fz, .int is.length) := by
  have h : setOk (is.map D.int) = true := by
    unfold setOk
    have a : (is.map D.int).all D.isInt = true := by rw [List.all_map]; exact List.all_eq_true.mpr fun r _ => rfl
    rw [a, List.length_map, decide_eq_true hl]; rfl
  have e := nub_all D.int (fun a b => by show (a == b) = _; rw [Bool.eq_iff_iff]; simp) is [] (by simpa using nd)
  simp only [List.map_nil, List.nil_append] at e
  simp only [fLenSet, h, if_true, e, List.length_map, kz]
def Row.no? : Row → Option Int
  | .bought _ n _ _ _ => some n
  | _ => none
def nums (rows : List Row) : List Int := rows.filterMap Row.no?
def isB (d : D) : Bool := match d with
  | .tup (.str w :: _) => decide (w = tBought)
  | _ => false
def third (d : D) : D := match d with
  | .tup (_ :: _ :: x :: _) => x
  | _ => .non
theorem nums_eq (rows : List Row) : ((rows.map Row.enc).filter isB).map third = (nums rows).map D.int := by
  induction rows with
  | nil => rfl
  | cons r rows ih =>
    rw [List.map_cons]
    cases r <;> simp [List.filter_cons, Row.enc, isB, nums, Row.no?, third, tWrong, tPaid, tBack, tLent, tBought] at ih ⊢ <;> exact ih
section
variable {Γ : Nat → Fn}
def R56 (F : Fn) : Prop := ∀ rows : List Row, rows.length ≤ 1000 → F [(.fz, .lst (rows.map Row.enc))] = .ret (.fz, .lst ((nums rows).map D.int)) []
theorem numbers_56 : R56 (runF 2 [] (mb_56 Γ)) := fun rows hl => by
  refine FnP.eq (runF_wp (by rfl) ?_)
  simp [mb_56, -Prod.exists, -Prod.forall]
  refine lcp_wp isB third ?_
  simp [itemsOf, -Prod.exists, -Prod.forall]
  refine ⟨by simp [fzAt], by simp [sizeMax]; omega, fun r hr => ?_, fun r hr hb => ?_, ?_⟩
  · cases r <;> simp [Row.enc, ix0, fEq_str, isB]
  · cases r <;> simp [Row.enc, ix2, isB, third, tWrong, tPaid, tBack, tLent, tBought] at hb ⊢
  · rw [nums_eq]
    simp [outsOf, Kd.isF]
def R57 (F : Fn) : Prop := ∀ rows : List Row, (∀ r ∈ rows, r.ok) → rows.Nodup → (nums rows).Nodup → rows.length < 60 → F [(.fz, .lst (rows.map Row.enc))] = .ret (.fz, .bl true) []
theorem nums_len (rows : List Row) : (nums rows).length ≤ rows.length := List.length_filterMap_le _ _
theorem rows_57 (h55 : R55 (Γ 55)) (h56 : R56 (Γ 56)) : R57 (runF 3 [] (mb_57 Γ)) := fun rows hok nd nn hl => by
  refine FnP.eq (runF_wp (by rfl) ?_)
  obtain ⟨ys, e1, e2⟩ := all_ex (it := itSeq (eVar 0)) (e := eCall (Γ 55) [.v (eVar 2)]) (v := 2) (S := [some (.fz, .lst (rows.map Row.enc)), none, none]) (ds := rows.map Row.enc) (fun _ => true) rfl rfl (by simp) (by simp [sizeMax]; omega) (fun d hd => by
    obtain ⟨r, hr, rfl⟩ := List.mem_map.mp hd
    exact ⟨.fz, by simp [eCall_ap, arEv_v, arEv_nil, arIn, arOut, h55 r (hok r hr)]⟩)
  have hl2 : ¬ (200 : Int) < rows.length := by omega
  have nl := nums_len rows
  have q : ((rows.map Row.enc).all fun _ => true) = true := by simp
  rw [q] at e2
  have isl : fIsi .list (.lst (rows.map Row.enc)) = some (.fz, .bl true) := rfl
  simp [mb_57, isl, fLen, kz, fGt, hl2, e1, e2, eCall_ap (Γ 56), arEv_v, arEv_nil, arIn, arOut, h56 rows (by omega), lenSet_rows nd hl, lenSet_ints nn (by omega), fEq_int, outsOf, Kd.isF]
def R58 (F : Fn) : Prop := ∀ rows : List Row, (∀ r ∈ rows, r.ok) → rows.Nodup → (nums rows).Nodup → rows.length < 60 → F [(.fz, .lst (rows.map Row.enc))] = .ret (.fz, .non) []
theorem need_58 (h : R57 (Γ 57)) : R58 (runF 1 [] (mb_58 Γ)) := fun rows a b c d => by
  refine FnP.eq (runF_wp (by rfl) ?_)
  simp [mb_58, eCall_ap, arEv_v, arEv_nil, arIn, arOut, h rows a b c d, outsOf, Kd.isF]
end
end LW

/-! k07: the course -/
namespace LW
open TB
def Row.w : Row → List Nat
  | .wrong .. => tWrong
  | .paid .. => tPaid
  | .back .. => tBack
  | .lent .. => tLent
  | .bought .. => tBought
def Row.ix : Row → Int
  | .wrong .. => 0
  | .paid .. => 1
  | .back .. => 2
  | .lent .. => 3
  | .bought .. => 4
def Row.flag : Row → Int
  | .wrong .. => 0
  | _ => 1
def Row.day : Row → Int
  | .wrong d .. => d
  | .paid d .. => d
  | .back d .. => d
  | .lent d .. => d
  | .bought d .. => d
def Row.key (r : Row) : D := .tup [.int r.flag, .int r.day, .int r.ix, r.enc]
theorem strs_alk : ∀ ps qs : List (List Nat), D.alks (ps.map D.str) (qs.map D.str) = true
  | [], _ => by simp [D.alks]
  | _ :: _, [] => by simp [D.alks]
  | p :: ps, q :: qs => by simp [D.alks, D.alk, strs_alk ps qs]
theorem enc_alk {r s : Row} (h : r.ix = s.ix) : D.alk r.enc s.enc = true := by
  cases r <;> cases s <;> simp [Row.ix] at h <;> simp [Row.enc, D.alk, D.alks, strs_alk]
theorem eqv_int (i j : Int) : D.eqv (.int i) (.int j) = decide (i = j) := by show (i == j) = _; rw [Bool.eq_iff_iff]; simp
theorem key_wk (r s : Row) : wkD r.key s.key = true := by
  unfold Row.key wkD
  simp only [wkDs, eqv_int, enc_eqv, D.alk, Bool.true_and]
  by_cases h1 : r.flag = s.flag <;> simp only [h1, decide_true, decide_false, if_true, if_false, Bool.false_eq_true]
  by_cases h2 : r.day = s.day <;> simp only [h2, decide_true, decide_false, if_true, if_false, Bool.false_eq_true]
  by_cases h3 : r.ix = s.ix
  · simp only [h3, decide_true, if_true]
    by_cases h4 : r = s
    · simp [h4]
    · simp [h4, enc_alk h3]
  · simp [h3]
theorem abc_small : ∀ c ∈ abc, c < 1114112 := by decide
theorem name_lay {s : List Nat} (h : nameS s = true) (n : Nat) : (D.str s).lay n = true := by
  unfold nameS at h
  simp only [Bool.and_eq_true] at h
  have : s.all (fun c => decide (c < 1114112)) = true := List.all_eq_true.mpr fun c hc => by
    have := List.all_eq_true.mp h.2 c hc
    exact decide_eq_true (abc_small c (by simpa using this))
  unfold D.lay
  exact this
theorem names_lay : ∀ (n : Nat) (ps : List (List Nat)), (∀ p ∈ ps, nameS p = true) → D.lays n (ps.map D.str) = true
  | _, [], _ => by simp [D.lays]
  | n, p :: ps, h => by
    simp only [List.map_cons, D.lays, Bool.and_eq_true]
    exact ⟨name_lay (h p List.mem_cons_self) n, names_lay n ps fun q hq => h q (List.mem_cons_of_mem _ hq)⟩
theorem word_lay (r : Row) (n : Nat) : (D.str r.w).lay n = true := by
  cases r <;> rfl
theorem enc_lay {r : Row} (h : r.ok) : r.enc.lay 58 = true := by
  have w := word_lay r 57
  cases r with
  | wrong d n p q => obtain ⟨_, _, a, b, _⟩ := h; simp only [Row.enc, D.lay, D.lays, Bool.and_eq_true]; exact ⟨w, trivial, trivial, name_lay a 57, name_lay b 57, trivial⟩
  | paid d p c => obtain ⟨_, a, _⟩ := h; simp only [Row.enc, D.lay, D.lays, Bool.and_eq_true]; exact ⟨w, trivial, name_lay a 57, trivial, trivial⟩
  | back d p q c => obtain ⟨_, a, b, _, _⟩ := h; simp only [Row.enc, D.lay, D.lays, Bool.and_eq_true]; exact ⟨w, trivial, name_lay a 57, name_lay b 57, trivial, trivial⟩
  | lent d p q c => obtain ⟨_, a, b, _, _⟩ := h; simp only [Row.enc, D.lay, D.lays, Bool.and_eq_true]; exact ⟨w, trivial, name_lay a 57, name_lay b 57, trivial, trivial⟩
  | bought d n ps k c => obtain ⟨_, _, a, _, b, _⟩ := h; simp only [Row.enc, D.lay, D.lays, Bool.and_eq_true]; exact ⟨w, trivial, trivial, names_lay 56 ps a, name_lay b 57, trivial, trivial⟩
theorem lay_le : ∀ {n m : Nat} {d : D}, n ≤ m → d.lay n = true → d.lay m = true := fun h e => lay_mono h e
theorem lays_all {n : Nat} {ds : List D} (h : ∀ d ∈ ds, d.lay n = true) : D.lays n ds = true := by
  induction ds with
  | nil => simp [D.lays]
  | cons d ds ih => simp only [D.lays, Bool.and_eq_true]; exact ⟨h d List.mem_cons_self, ih fun e he => h e (List.mem_cons_of_mem _ he)⟩
theorem key_lay {r : Row} (h : r.ok) : r.key.lay 59 = true := by
  simp only [Row.key, D.lay, D.lays, Bool.and_eq_true]
  exact ⟨trivial, trivial, trivial, enc_lay h, trivial⟩
theorem sorted_wkB {ds : List D} (h : sortWk ds = true) (hl : ds.length ≤ sizeMax) : fSortedB [.lst ds] = some (.li .fz, .lst (sortD ds)) := by
  cases ds with
  | nil => simp [fSortedB, fOr1, fSortedA, fSorted, intsOf, sortI, sortD]
  | cons d ds =>
    have th : D.isTupH d = true := by
      unfold sortWk at h
      simp only [Bool.and_eq_true, List.all_cons] at h
      exact h.1.1.1
    obtain ⟨xs, rfl⟩ : ∃ xs, d = .tup xs := by cases d <;> first | exact ⟨_, rfl⟩ | exact absurd th Bool.false_ne_true
    have e1 : fSorted [.lst (.tup xs :: ds)] = none := rfl
    have e2 : fSortedT [.lst (.tup xs :: ds)] = none := rfl
    have e4 : fSortN1 [.lst (.tup xs :: ds)] = none := rfl
    have e5 : fSortW [.lst (.tup xs :: ds)] = some (.li .fz, .lst (sortD (.tup xs :: ds))) := if_pos ⟨h, hl⟩
    have eD : fSortD [.lst (.tup xs :: ds)] = if sortOk (D.tup xs :: ds) = true ∧ (D.tup xs :: ds).length ≤ sizeMax then some (.li .fz, .lst (sortD (D.tup xs :: ds))) else none := rfl
    simp only [fSortedB, fOr1, fSortedA, e1, e2, e4, e5, eD]
    by_cases c : sortOk (D.tup xs :: ds) = true ∧ (D.tup xs :: ds).length ≤ sizeMax
    · simp only [if_pos c]
    · simp only [if_neg c]
def course (rows : List Row) : List Row := rows.mergeSort fun a b => leD a.key b.key
def fourth (d : D) : D := match d with
  | .tup (_ :: _ :: _ :: x :: _) => x
  | _ => .non
theorem course_map (rows : List Row) : (sortD (rows.map Row.key)).map fourth = (course rows).map Row.enc := by
  unfold sortD course
  have := List.map_mergeSort (r := fun a b : Row => leD a.key b.key) (s := leD) (f := Row.key) (l := rows) fun a _ b _ => rfl
  rw [← this, List.map_map]
  rfl
theorem sortWk_keys {rows : List Row} (h : ∀ r ∈ rows, r.ok) : sortWk (rows.map Row.key) = true := by
  unfold sortWk
  have a : (rows.map Row.key).all D.isTupH = true := by rw [List.all_map]; exact List.all_eq_true.mpr fun r _ => rfl
  have b : (rows.map Row.key).all (fun d => (rows.map Row.key).all (wkD d)) = true := by
    rw [List.all_map]
    refine List.all_eq_true.mpr fun r _ => ?_
    show (rows.map Row.key).all (wkD r.key) = true
    rw [List.all_map]
    exact List.all_eq_true.mpr fun s _ => key_wk r s
  have c : D.lays 60 (rows.map Row.key) = true := lays_all fun d hd => by
    obtain ⟨r, hr, rfl⟩ := List.mem_map.mp hd
    exact lay_le (by omega) (key_lay (h r hr))
  rw [a, b, c]; rfl
section
variable {Γ : Nat → Fn}
def keyD' (d : D) : D := match d with
  | .tup (.str w :: x :: _) => .tup [.int (if w = tWrong then 0 else 1), x, .int (if w = tWrong then 0 else if w = tPaid then 1 else if w = tBack then 2 else if w = tLent then 3 else 4), d]
  | _ => .non
theorem keyD_enc (r : Row) : keyD' r.enc = r.key := by
  cases r <;> simp [keyD', Row.enc, Row.key, Row.flag, Row.day, Row.ix, tWrong, tPaid, tBack, tLent, tBought]
theorem ixC (r : Row) : fIndexC [[119, 114, 111, 110, 103], [112, 97, 105, 100], [98, 97, 99, 107], [108, 101, 110, 116], [98, 111, 117, 103, 104, 116]] (.str r.w) = some (.fz, .int r.ix) := by cases r <;> rfl
theorem neW (r : Row) : fNe (.str r.w) (.str tWrong) = some (.fz, .bl (decide (r.flag = 1))) := by cases r <;> rfl
theorem first_enc (r : Row) : fIx r.enc (.int 0) = some (.fz, .str r.w) := by cases r <;> exact ix0
theorem second_enc (r : Row) : fIx r.enc (.int 1) = some (.fz, .int r.day) := by cases r <;> exact ix1
theorem flag_int (r : Row) : fIntB [.bl (decide (r.flag = 1))] = some (.fz, .int r.flag) := by cases r <;> rfl
theorem fTup_ok (ds : List D) (h : ds.length ≤ sizeMax) : fTup ds = some (.fz, .tup ds) := by unfold fTup; rw [if_pos h]
def R59 (F : Fn) : Prop := ∀ rows : List Row, (∀ r ∈ rows, r.ok) → rows.length ≤ 1000 → F [(.fz, .lst (rows.map Row.enc))] = .ret (.li .fz, .lst ((course rows).map Row.enc)) []
theorem course_59 : R59 (runF 4 [] (mb_59 Γ)) := fun rows hok hl => by
  refine FnP.eq (runF_wp (by rfl) ?_)
  simp [mb_59, -Prod.exists, -Prod.forall]
  refine lcp_wp (fun _ => true) keyD' ?_
  simp [itemsOf, -Prod.exists, -Prod.forall]
  refine ⟨by simp [fzAt], by simp [sizeMax]; omega, fun r hr => ?_, ?_⟩
  · simp [first_enc, second_enc, neW, ixC, flag_int, keyD_enc, Row.key]
    exact ⟨.fz, by rw [fTup_ok _ (by simp [sizeMax])]; rfl⟩
  · have e : (rows.map Row.enc).map keyD' = rows.map Row.key := by rw [List.map_map]; exact List.map_congr_left fun r _ => keyD_enc r
    have e2 : rows.map (keyD' ∘ Row.enc) = rows.map Row.key := List.map_congr_left fun r _ => keyD_enc r
    rw [List.filter_eq_self.mpr (fun _ _ => rfl), e]
    have sb := sorted_wkB (sortWk_keys hok) (by simp [sizeMax]; omega)
    have ln : (sortD (rows.map Row.key)).length = rows.length := by unfold sortD; simp
    refine lcp_wp (fun _ => true) fourth ?_
    simp [itemsOf, sb, -Prod.exists, -Prod.forall]
    refine ⟨by simp [fzAt], by rw [ln]; simp [sizeMax]; omega, fun d hd => ?_, ?_⟩
    · have : d ∈ rows.map Row.key := (List.mergeSort_perm _ _).mem_iff.mp hd
      obtain ⟨r, _, rfl⟩ := List.mem_map.mp this
      exact ⟨.fz, by simp [Row.key, ix3, fourth]⟩
    · rw [List.filter_eq_self.mpr (fun _ _ => rfl), course_map]
      simp [outsOf, Kd.isF]
def R114 (F : Fn) : Prop := ∀ rows : List Row, (∀ r ∈ rows, r.ok) → rows.Nodup → (nums rows).Nodup → rows.length < 60 → F [(.fz, .lst (rows.map Row.enc))] = .ret (.li .fz, .lst ((course rows).map Row.enc)) []
theorem course_114 (h58 : R58 (Γ 58)) (h59 : R59 (Γ 59)) : R114 (runF 1 [] (mb_114 Γ)) := fun rows a b c d => by
  refine FnP.eq (runF_wp (by rfl) ?_)
  simp [mb_114, eCall_ap, arEv_v, arEv_nil, arIn, arOut, h58 rows a b c d, h59 rows a (by omega), outsOf, Kd.isF]
end
end LW

/-! k07: orders drawn -/
namespace LW
open TB
theorem rangeL_cons (lo : Int) (n : Nat) : rangeL lo (n + 1) = .int lo :: rangeL (lo + 1) n := by
  unfold rangeL
  rw [List.range_succ_eq_map, List.map_cons, List.map_map]
  congr 1
  · simp
  · refine List.map_congr_left fun i _ => ?_
    show D.int (lo + ((i + 1 : Nat) : Int)) = D.int (lo + 1 + (i : Int))
    congr 1
    omega
def upto (n : Nat) : List Int := (List.range n).map fun (i : Nat) => (i : Int)
theorem upto_succ (n : Nat) : upto (n + 1) = upto n ++ [(n : Int)] := by
  unfold upto
  rw [List.range_succ, List.map_append]; rfl
section
variable {Γ : Nat → Fn}
def OrderQ (m : Nat) (r : KD) (o : List KD) : Prop := ∃ (is : List Int) (kd : KD), r = (.fz, .lst (is.map D.int)) ∧ o = [kd] ∧ DI kd ∧ is.Perm (upto m)
def AO (F : Fn) : Prop := ∀ (kd : KD) (m : Nat), DI kd → m ≤ 1000 → FnP F [kd, (.fz, .int m)] (OrderQ m)
theorem order_130 (hF : DrawOk (Γ 7)) : AO (runF 4 [0] (mb_130 Γ)) := fun kd m hd hm => by
  refine runF_wp (by obtain ⟨a, b, rfl, _⟩ := hd; rfl) ?_
  have hlim : m < limN := by unfold limN; omega
  have e0 : fLst [] = some (.li .fz, .lst []) := rfl
  simp [mb_130, e0, hlim, -Prod.exists, -Prod.forall]
  refine loop_wp (fun ds S => ∃ (j : Nat) (is : List Int) (kd : KD) (x : Slot), DI kd ∧ j ≤ m ∧ ds = rangeL j (m - j) ∧ is.Perm (upto j) ∧ S = [some kd, some (.fz, .int m), some (.li .fz, .lst (is.map D.int)), x]) ?_ ?_ ?_ ?_
  · rintro ds S ⟨_, _, _, _, _, _, _, _, rfl⟩; simp
  · exact ⟨0, [], kd, none, hd, Nat.zero_le _, by simp, .refl _, rfl⟩
  · rintro d ds S ⟨j, is, k1, x, h1, hj, hds, hp, rfl⟩
    have hjm : j < m := by
      refine Nat.lt_of_le_of_ne hj fun e => ?_
      subst e
      rw [Nat.sub_self] at hds
      cases hds
    obtain ⟨n, hn⟩ : ∃ n, m - j = n + 1 := ⟨m - j - 1, by omega⟩
    rw [hn, rangeL_cons] at hds
    obtain ⟨rfl, rfl⟩ := List.cons.inj hds
    have hlen : is.length = j := by rw [hp.length_eq]; simp [upto]
    have ea : fAdd (.int j) (.int 1) = some (.fz, .int (j + 1)) := rfl
    simp [ownL, -Prod.exists, -Prod.forall]
    refine draw_wp hF rfl ?_
    simp [ea, h1, -Prod.exists, -Prod.forall]
    refine ⟨by omega, by omega, fun r k2 h2 r0 r1 => ?_⟩
    have r2 : r.toNat ≤ is.length := by omega
    have ei : fInsert (is.map D.int) [.int r, .int j] = some (.non, ((is.take r.toNat ++ [(j : Int)] ++ is.drop r.toNat).map D.int)) := by
      show (if 0 ≤ r ∧ r.natAbs < limN ∧ (is.map D.int).length < sizeMax then _ else none) = _
      rw [if_pos ⟨r0, by unfold limN; omega, by simp [sizeMax]; omega⟩]
      simp
    simp [ownL, ei, -Prod.exists, -Prod.forall]
    refine ⟨j + 1, is.take r.toNat ++ [(j : Int)] ++ is.drop r.toNat, k2, h2, hjm, by rw [show m - (j + 1) = n by omega]; simp, ?_, rfl, by simp⟩
    rw [upto_succ]
    have p1 : (is.take r.toNat ++ [(j : Int)] ++ is.drop r.toNat).Perm ((j : Int) :: (is.take r.toNat ++ is.drop r.toNat)) := by
      rw [List.append_assoc]; exact List.perm_middle
    rw [List.take_append_drop] at p1
    exact p1.trans ((List.Perm.cons _ hp).trans (List.perm_append_singleton _ _).symm)
  · rintro S ⟨j, is, k1, x, h1, hj, hds, hp, rfl⟩
    have hjm : j = m := by
      refine Nat.le_antisymm hj (Nat.le_of_not_lt fun c => ?_)
      obtain ⟨n, hn⟩ : ∃ n, m - j = n + 1 := ⟨m - j - 1, by omega⟩
      rw [hn, rangeL_cons] at hds
      cases hds
    subst hjm
    simp [outsOf, hd.own, h1.own, isF_fz, -Prod.exists, -Prod.forall]
    exact ⟨is, k1, rfl, rfl, h1, hp⟩
end
end LW

/-! k07: rows drawn -/
namespace LW
open TB
@[simp] theorem hasN_ap (i : Nat) (S : List Slot) : hasN i S = match ownN S i with | some _ => .ok () S | none => .bad := rfl
@[simp] theorem sNput_ap (i : Nat) (k e : E) (S : List Slot) : sNput i k e S = (eDat e S).bind fun y S1 => (hasN i S1).bind fun _ S2 => (eDat k S2).bind fun x S3 => match ownN S3 i with
  | some kvs => if isNK x = true ∧ kvs.length < sizeMax then .ok .nx (S3.set i (some (.dN, .dit (putD kvs x y)))) else .bad
  | none => .bad := rfl
@[simp] theorem eNnew_ap (S : List Slot) : eNnew S = .ok (.dN, .dit []) S := rfl
@[simp] theorem ePeekLI_ap (e : E) (S : List Slot) : ePeekLI e S = match e (S.map frz) with | .ok (.li .fz, .lst ds) _ => (if D.imms ds = true then .ok (.li .fz, .lst ds) S else .bad) | _ => .bad := rfl
@[simp] theorem eOrV_ap (a b : E) (S : List Slot) : eOrV a b S = (eDat a S).bind fun x S1 => (match truD x with | some true => (M.pure (.fz, x) : E) | some false => b | none => eBad) S1 := rfl
def tt (r : Row) : D × D := (r.enc, .bl true)
theorem put_rows (rows : List Row) (r : Row) : putD (rows.map tt) r.enc (.bl true) = (if r ∈ rows then rows else rows ++ [r]).map tt := by
  unfold putD
  have e : ((rows.map tt).any fun p => D.eqv p.1 r.enc) = decide (r ∈ rows) := by
    rw [List.any_map]
    induction rows with
    | nil => simp
    | cons s rows ih =>
      rw [List.any_cons, ih]
      show (D.eqv s.enc r.enc || _) = _
      rw [enc_eqv]
      by_cases h : s = r <;> simp [h, eq_comm]
      · intro q; exact absurd q.symm h
  rw [e]
  by_cases h : r ∈ rows
  · simp only [h, decide_true, if_true]
    rw [List.map_map]
    refine List.map_congr_left fun s _ => ?_
    show (if D.eqv s.enc r.enc = true then (s.enc, D.bl true) else tt s) = tt s
    split <;> rfl
  · simp only [h, decide_false, Bool.false_eq_true, if_false, List.map_append]
    rfl
/-- what is kept while rows are drawn -/
structure Good (j : Nat) (rows : List Row) : Prop where
  ok : ∀ r ∈ rows, r.ok
  nd : rows.Nodup
  nn : (nums rows).Nodup
  lt : ∀ n ∈ nums rows, n < j
  le : rows.length ≤ j
theorem nums_app (rows : List Row) (r : Row) : nums (rows ++ [r]) = nums rows ++ (match r.no? with | some n => [n] | none => []) := by
  unfold nums
  rw [List.filterMap_append]
  cases h : r.no? <;> simp [h]
theorem Good.put {j : Nat} {rows : List Row} (g : Good j rows) {r : Row} (h : r.ok) (hn : ∀ n, r.no? = some n → n = j) : Good (j + 1) (if r ∈ rows then rows else rows ++ [r]) := by
  split
  · exact ⟨g.ok, g.nd, g.nn, fun n m => by have := g.lt n m; omega, by have := g.le; omega⟩
  · rename_i m
    refine ⟨fun s hs => ?_, ?_, ?_, fun n hm => ?_, by have := g.le; simp; omega⟩
    · rcases List.mem_append.mp hs with hs | hs
      · exact g.ok s hs
      · simp at hs; rw [hs]; exact h
    · exact List.nodup_append.mpr ⟨g.nd, by simp, fun a ha b hb => by simp at hb; rw [hb]; rintro rfl; exact m ha⟩
    · rw [nums_app]
      cases e : r.no? with
      | none => simpa using g.nn
      | some n =>
        refine List.nodup_append.mpr ⟨g.nn, by simp, fun a ha b hb => ?_⟩
        simp at hb
        have := g.lt a ha
        rw [hb, hn n e]; omega
    · rw [nums_app] at hm
      rcases List.mem_append.mp hm with hm | hm
      · have := g.lt n hm; omega
      · cases e : r.no? with
        | none => rw [e] at hm; cases hm
        | some n' =>
          rw [e] at hm
          simp at hm
          rw [hm, hn n' e]; omega
theorem alks_wk : ∀ xs ys : List D, D.alks xs ys = true → wkDs xs ys = true
  | [], _, _ => by simp [wkDs]
  | _ :: _, [], _ => by simp [wkDs]
  | x :: xs, y :: ys, h => by
    simp only [D.alks, Bool.and_eq_true] at h
    unfold wkDs
    split
    · exact alks_wk xs ys h.2
    · exact h.1
theorem enc_wk (r s : Row) : wkD r.enc s.enc = true := by
  by_cases h : r.ix = s.ix
  · have := enc_alk h
    cases r <;> cases s <;> simp [Row.ix] at h <;> simp only [Row.enc, D.alk] at this <;> simp only [Row.enc, wkD, D.alk, Bool.true_and] <;> exact alks_wk _ _ this
  · cases r <;> cases s <;> first | exact absurd rfl h | (simp [Row.enc, wkD, D.alk, wkDs, D.eqv, tWrong, tPaid, tBack, tLent, tBought])
theorem sortWk_rows {rows : List Row} (h : ∀ r ∈ rows, r.ok) : sortWk (rows.map Row.enc) = true := by
  unfold sortWk
  have a : (rows.map Row.enc).all D.isTupH = true := by rw [List.all_map]; exact List.all_eq_true.mpr fun r _ => by cases r <;> rfl
  have b : (rows.map Row.enc).all (fun d => (rows.map Row.enc).all (wkD d)) = true := by
    rw [List.all_map]
    refine List.all_eq_true.mpr fun r _ => ?_
    show (rows.map Row.enc).all (wkD r.enc) = true
    rw [List.all_map]
    exact List.all_eq_true.mpr fun s _ => enc_wk r s
  have c : D.lays 60 (rows.map Row.enc) = true := lays_all fun d hd => by
    obtain ⟨r, hr, rfl⟩ := List.mem_map.mp hd
    exact lay_le (by omega) (enc_lay (h r hr))
  rw [a, b, c]; rfl
def srt (rows : List Row) : List Row := rows.mergeSort fun a b => leD a.enc b.enc
theorem srt_map (rows : List Row) : sortD (rows.map Row.enc) = (srt rows).map Row.enc := by
  unfold sortD srt
  exact (List.map_mergeSort (r := fun a b : Row => leD a.enc b.enc) (s := leD) (f := Row.enc) (l := rows) fun a _ b _ => rfl).symm
theorem srt_perm (rows : List Row) : (srt rows).Perm rows := List.mergeSort_perm _ _
theorem sorted_dN {rows : List Row} (h : ∀ r ∈ rows, r.ok) : fSortedB [.dit (rows.map tt)] = some (.li .fz, .lst ((srt rows).map Row.enc)) := by
  have e0 : (rows.map tt).map (·.1) = rows.map Row.enc := by rw [List.map_map]; rfl
  have e1 : fSorted [.dit (rows.map tt)] = none := rfl
  have e2 : fSortedT [.dit (rows.map tt)] = none := rfl
  have e3 : fSortD [.dit (rows.map tt)] = none := rfl
  have e4 : fSortW [.dit (rows.map tt)] = none := rfl
  have e5 : fSortN1 [.dit (rows.map tt)] = if sortOk (rows.map Row.enc) = true then some (.li .fz, .lst ((srt rows).map Row.enc)) else none := by
    show (if sortOk ((rows.map tt).map (·.1)) = true then some ((.li .fz, .lst (sortD ((rows.map tt).map (·.1)))) : KD) else none) = _
    rw [e0, srt_map]
  have e6 : fSortNW [.dit (rows.map tt)] = some (.li .fz, .lst ((srt rows).map Row.enc)) := by
    show (if sortWk ((rows.map tt).map (·.1)) = true then some ((.li .fz, .lst (sortD ((rows.map tt).map (·.1)))) : KD) else none) = _
    rw [e0, srt_map, if_pos (sortWk_rows h)]
  simp only [fSortedB, fOr1, fSortedA, e1, e2, e3, e4, e5, e6]
  by_cases c : sortOk (rows.map Row.enc) = true
  · simp only [if_pos c]
  · simp only [if_neg c]
theorem strs_imm : ∀ ps : List (List Nat), D.imms (ps.map D.str) = true
  | [] => by simp [D.imms]
  | p :: ps => by simp [D.imms, D.imm, strs_imm ps]
theorem rows_imm : ∀ rows : List Row, D.imms (rows.map Row.enc) = true
  | [] => by simp [D.imms]
  | r :: rows => by
    simp only [List.map_cons, D.imms, Bool.and_eq_true]
    refine ⟨?_, rows_imm rows⟩
    cases r <;> simp [Row.enc, D.imm, D.imms, strs_imm]
end LW

/-! k07: _law_rows -/
namespace LW
open TB
theorem pick_str {ns : List (List Nat)} {r : Int} (h0 : 0 ≤ r) (h1 : r < ns.length) : ∃ s ∈ ns, fIx (.lst (ns.map D.str)) (.int r) = some (.fz, .str s) := by
  obtain ⟨x, hx, e⟩ := fIx_lst (xs := ns.map D.str) h0 (by simpa using h1)
  obtain ⟨s, hs, rfl⟩ := List.mem_map.mp hx
  exact ⟨s, hs, e⟩
def rowAt (rows : List Row) (i : Int) : Row := rows.getD i.toNat (.paid 0 [] 0)
def pickD (rows : List Row) : D → D
  | .int i => (rowAt rows i).enc
  | _ => .non
theorem rowAt_ix {rows : List Row} {i : Int} (h0 : 0 ≤ i) (h1 : i < rows.length) : fIx (.lst (rows.map Row.enc)) (.int i) = some (.fz, (rowAt rows i).enc) := by
  have hn : i.toNat < (rows.map Row.enc).length := by rw [List.length_map]; omega
  have hm : i.toNat < rows.length := by omega
  show ((normIx (rows.map Row.enc).length i).bind fun n => (rows.map Row.enc)[n]?.bind kz) = _
  rw [normIx_nat h0 (by rw [List.length_map]; exact h1)]
  show (rows.map Row.enc)[i.toNat]?.bind kz = _
  rw [List.getElem?_eq_getElem hn]
  simp [kz, rowAt, List.getD_eq_getElem?_getD, hm]
theorem upto_rows (rows : List Row) : (upto rows.length).map (rowAt rows) = rows := by
  unfold upto rowAt
  rw [List.map_map]
  refine List.ext_getElem (by simp) fun n h1 h2 => ?_
  simp [List.getD_eq_getElem?_getD, h2]
theorem upto_mem {n : Nat} {i : Int} (h : i ∈ upto n) : 0 ≤ i ∧ i < n := by
  unfold upto at h
  obtain ⟨j, hj, rfl⟩ := List.mem_map.mp h
  have := List.mem_range.mp hj
  omega
theorem perm_rows {rows : List Row} {is : List Int} (h : is.Perm (upto rows.length)) : (is.map (rowAt rows)).Perm rows := by
  have := h.map (rowAt rows)
  rwa [upto_rows] at this
def RowsQ (m : Nat) (r : KD) (o : List KD) : Prop := ∃ (rows : List Row) (kd : KD), r = (.li .fz, .lst (rows.map Row.enc)) ∧ o = [kd] ∧ DI kd ∧ (∀ x ∈ rows, x.ok) ∧ rows.Nodup ∧ (nums rows).Nodup ∧ rows.length ≤ m
section
variable {Γ : Nat → Fn}
def S8T (F : Fn) : Prop := ∀ kd (src : List (List Nat)) m, DI kd → 1 ≤ src.length → src.length ≤ 1000 → 0 ≤ m → m ≤ 60 → FnP F [kd, (.fz, .lst (src.map D.str)), (.fz, .int m)] (SomeQ D.str sortT src m)
theorem lst2 (a b : D) : fLst [a, b] = some (.li .fz, .lst [a, b]) := rfl
theorem eq_i (i j : Int) : fEq (.int i) (.int j) = some (.fz, .bl (decide (i = j))) := fEq_int i j
theorem ne_s (p q : List Nat) : fNe (.str p) (.str q) = some (.fz, .bl (decide (p ≠ q))) := by
  have : D.eqv (.str p) (.str q) = decide (p = q) := by show (p == q) = _; rw [Bool.eq_iff_iff]; simp
  unfold fNe
  rw [if_pos (by rfl), this]
  simp [kz]
theorem tup_f (ds : List D) (h : ds.length ≤ 100) : fTup ds = some (.fz, .tup ds) := fTup_ok ds (by simp [sizeMax]; omega)
/-- the loop's invariant -/
def RI (kinds pupils : List (List Nat)) (m : Nat) (ds : List D) (S : List Slot) : Prop := ∃ (j : Nat) (rows : List Row) (kd : KD) (x5 x6 x7 x8 x9 x10 x11 x12 x13 : Slot), DI kd ∧ j ≤ m ∧ ds = rangeL j (m - j) ∧ Good j rows ∧ fzAt [x5] 0 = true ∧
  S = [some kd, some (.fz, .lst (kinds.map D.str)), some (.fz, .lst (pupils.map D.str)), some (.fz, .int m), some (.dN, .dit (rows.map tt)), x5, x6, x7, x8, x9, x10, x11, x12, x13]
theorem put_ok {rows : List Row} {j : Nat} (g : Good j rows) (hj : j ≤ 100) (r : Row) : isNK r.enc = true ∧ (rows.map tt).length < sizeMax := ⟨enc_nk r, by have := g.le; simp [sizeMax]; omega⟩

theorem or_ps {pu : List Nat} {as src : List (List Nat)} (hs : ∀ s ∈ src, nameS s = true) (hp : pu ∈ src) (nd : as.Nodup) (la : as.length ≤ 4) (sub : ∀ a ∈ as, a ∈ src) (S : List Slot) (h7 : eApp fTup [eVar 7] S = .ok (.fz, .tup [.str pu]) S) : ∃ ps : List (List Nat), (∀ p ∈ ps, nameS p = true) ∧ namesB (.tup (ps.map D.str)) 1 4 = true ∧ (ps.length ≤ 4) ∧ (match truD (.tup ((sortT as).map D.str)) with | some true => (M.pure (.fz, .tup ((sortT as).map D.str)) : E) | some false => eApp fTup [eVar 7] | none => eBad) S = .ok (.fz, .tup (ps.map D.str)) S := by
  have mem : ∀ x ∈ sortT as, nameS x = true := fun x hx => hs x (sub x ((sortT_perm as).mem_iff.mp hx))
  have len : (sortT as).length ≤ 4 := by rw [(sortT_perm as).length_eq]; exact la
  have nb : ∀ ps : List (List Nat), ps.length ≤ 4 → ps ≠ [] → (∀ p ∈ ps, nameS p = true) → riseB (ps.map D.str) = true → namesB (.tup (ps.map D.str)) 1 4 = true := by
    intro ps l e a r
    unfold namesB
    have l1 : 1 ≤ ps.length := by cases ps with | nil => exact absurd rfl e | cons => simp
    have l2 : (((ps).map D.str).length : Int) ≤ 4 := by rw [List.length_map]; omega
    have l3 : (1 : Int) ≤ (((ps).map D.str).length : Int) := by rw [List.length_map]; omega
    have al : (ps.map D.str).all nameB = true := by
      rw [List.all_map, List.all_eq_true]
      exact a
    show (decide ((1 : Int) ≤ ((ps.map D.str).length : Int)) && decide (((ps.map D.str).length : Int) ≤ 4) && (ps.map D.str).all nameB && riseB (ps.map D.str)) = true
    rw [r, al, decide_eq_true l2, decide_eq_true l3]
    rfl
  rcases h : sortT as with _ | ⟨a, as'⟩
  · refine ⟨[pu], by simpa using hs pu hp, nb [pu] (by simp) (by simp) (by simpa using hs pu hp) (by rfl), by simp, ?_⟩
    exact h7
  · refine ⟨sortT as, mem, nb _ len (by rw [h]; simp) mem (rise_str nd), len, ?_⟩
    rw [h]; rfl
theorem rows_131 (hF : DrawOk (Γ 7)) (hS : S8T (Γ 8)) (hO : AO (Γ 130)) {kd : KD} {kinds pupils : List (List Nat)} {m : Nat} (hd : DI kd) (k1 : 1 ≤ kinds.length) (k2 : kinds.length ≤ 26) (p1 : 1 ≤ pupils.length) (p2 : pupils.length ≤ 26) (nk : ∀ s ∈ kinds, nameS s = true) (np : ∀ s ∈ pupils, nameS s = true) (hm1 : 1 ≤ m) (hm : m ≤ 58) :
    FnP (runF 14 [0] (mb_131 Γ)) [kd, (.fz, .lst (kinds.map D.str)), (.fz, .lst (pupils.map D.str)), (.fz, .int m)] (RowsQ m) := by
  refine runF_wp (by obtain ⟨a, b, rfl, _⟩ := hd; rfl) ?_
  have hlim : m < limN := by unfold limN; omega
  simp [mb_131, hlim, -Prod.exists, -Prod.forall]
  refine loop_wp (RI kinds pupils m) ?_ ?_ ?_ ?_
  · rintro ds S ⟨_, _, _, _, _, _, _, _, _, _, _, _, _, _, _, _, _, rfl⟩; simp
  · exact ⟨0, [], kd, none, none, none, none, none, none, none, none, none, hd, Nat.zero_le _, by simp, ⟨by simp, by simp, by simp [nums], by simp [nums], by simp⟩, rfl, rfl⟩
  · rintro d ds S ⟨j, rows, kd1, x5, x6, x7, x8, x9, x10, x11, x12, x13, h1, hj, hds, g, hz, rfl⟩
    have hjm : j < m := by
      refine Nat.lt_of_le_of_ne hj fun e => ?_
      subst e
      rw [Nat.sub_self] at hds
      cases hds
    obtain ⟨n, hn⟩ : ∃ n, m - j = n + 1 := ⟨m - j - 1, by omega⟩
    rw [hn, rangeL_cons] at hds
    obtain ⟨rfl, rfl⟩ := List.cons.inj hds
    have hn2 : m - (j + 1) = n := by omega
    have rl : rows.length < sizeMax := by have := g.le; simp [sizeMax]; omega
    have fin : ∀ (r : Row) (kd' : KD) (x5 x6 x7 x8 x9 x10 x11 x12 x13 : Slot), DI kd' → r.ok → (∀ n, r.no? = some n → n = j) → fzAt [x5] 0 = true → RI kinds pupils m (rangeL (j + 1) n) [some kd', some (.fz, .lst (kinds.map D.str)), some (.fz, .lst (pupils.map D.str)), some (.fz, .int m), some (.dN, .dit (putD (rows.map tt) r.enc (.bl true))), x5, x6, x7, x8, x9, x10, x11, x12, x13] :=
      fun r kd' x5 x6 x7 x8 x9 x10 x11 x12 x13 h ok no z => ⟨j + 1, _, kd', x5, x6, x7, x8, x9, x10, x11, x12, x13, h, hjm, by rw [hn2]; simp, g.put ok no, z, by rw [put_rows]⟩
    simp [-Prod.exists, -Prod.forall]
    refine draw_wp hF rfl ?_
    simp [fLen, kz, h1, -Prod.exists, -Prod.forall]
    refine ⟨by omega, by omega, fun r1 kd2 h2 ra rb => ?_⟩
    obtain ⟨pu, hpu, e1⟩ := pick_str (ns := pupils) ra (by simpa using rb)
    simp [e1, -Prod.exists, -Prod.forall]
    refine draw_wp hF rfl ?_
    simp [fLen, kz, h2, -Prod.exists, -Prod.forall]
    refine ⟨by omega, by omega, fun r2 kd3 h3 ra2 rb2 => ?_⟩
    obtain ⟨ot, hot, e2⟩ := pick_str (ns := pupils) ra2 (by simpa using rb2)
    simp [e2, lst2, -Prod.exists, -Prod.forall]
    refine draw_wp hF rfl ?_
    simp [lst2, -Prod.exists, -Prod.forall]
    refine draw_wp hF rfl ?_
    simp [h3, -Prod.exists, -Prod.forall]
    intro r3 kd4 h4 ra3 rb3
    obtain ⟨dd, e3, d0, d1⟩ := pick_int (xs := [.int 5, .int 24]) (r := r3) (lo := 1) (hi := 24) ra3 (by simpa using rb3) (by simp)
    simp [e3, h4, -Prod.exists, -Prod.forall]
    refine ⟨by omega, by omega, fun day kd5 h5 da db => ?_⟩
    refine draw_wp hF rfl ?_
    simp [lst2, -Prod.exists, -Prod.forall]
    refine draw_wp hF rfl ?_
    simp [h5, -Prod.exists, -Prod.forall]
    intro r4 kd6 h6 ra4 rb4
    obtain ⟨pm, e4, q0, q1⟩ := pick_int (xs := [.int 6, .int 40]) (r := r4) (lo := 1) (hi := 40) ra4 (by simpa using rb4) (by simp)
    simp [e4, h6, -Prod.exists, -Prod.forall]
    refine ⟨by omega, by omega, fun pe kd7 h7 pa pb => ?_⟩
    have e5 : fAdd (.int 1) (.int pe) = some (.fz, .int (1 + pe)) := rfl
    simp [e5, -Prod.exists, -Prod.forall]
    refine draw_wp hF rfl ?_
    simp [h7, -Prod.exists, -Prod.forall]
    intro way kd8 h8 wa wb
    have b0 : inB day 0 1000000 := ⟨da, by omega⟩
    have b1 : inB (1 + pe) 1 1000000 := ⟨by omega, by omega⟩
    by_cases w1 : way < 4
    · simp [fLt, kz, w1, ownN, lst2, -Prod.exists, -Prod.forall]
      refine draw_wp hF rfl ?_
      simp [h8, -Prod.exists, -Prod.forall]
      intro r5 kd9 h9 ra5 rb5
      obtain ⟨d2, e6, d20, d21⟩ := pick_int (xs := [.int day, .int 0]) (r := r5) (lo := 0) (hi := 24) ra5 (by simpa using rb5) (by simp; omega)
      have e7 : fTup [.str [112, 97, 105, 100], .int d2, .str pu, .int (1 + pe)] = some (.fz, (Row.paid d2 pu (1 + pe)).enc) := rfl
      simp [e6, e7, rl, enc_nk, -Prod.exists, -Prod.forall]
      exact fin (.paid d2 pu (1 + pe)) kd9 _ _ _ _ _ _ _ _ _ h9 ⟨⟨d20, by omega⟩, np pu hpu, b1⟩ (by simp [Row.no?]) rfl
    · by_cases w4 : way = 4 ∧ pu ≠ ot
      · obtain ⟨rfl, hne⟩ := w4
        simp [fLt, kz, ownN, eq_i, ne_s, hne, -Prod.exists, -Prod.forall]
        refine draw_wp hF rfl ?_
        simp [h8, -Prod.exists, -Prod.forall]
        refine ⟨by omega, by omega, fun no kd9 h9 ra5 rb5 => ?_⟩
        have e7 : fTup [.str [119, 114, 111, 110, 103], .int day, .int no, .str pu, .str ot] = some (.fz, (Row.wrong day no pu ot).enc) := rfl
        simp [e7, rl, enc_nk, -Prod.exists, -Prod.forall]
        exact fin (.wrong day no pu ot) kd9 _ _ _ _ _ _ _ _ _ h9 ⟨b0, ⟨ra5, by omega⟩, np pu hpu, np ot hot, hne⟩ (by simp [Row.no?]) rfl
      · by_cases w5 : way = 5 ∧ pu ≠ ot
        · obtain ⟨rfl, hne⟩ := w5
          have e7 : fTup [.str [108, 101, 110, 116], .int day, .str pu, .str ot, .int (1 + pe)] = some (.fz, (Row.lent day pu ot (1 + pe)).enc) := rfl
          simp [fLt, kz, ownN, eq_i, ne_s, hne, e7, rl, enc_nk, -Prod.exists, -Prod.forall]
          exact fin (.lent day pu ot (1 + pe)) kd8 _ _ _ _ _ _ _ _ _ h8 ⟨b0, np pu hpu, np ot hot, hne, b1⟩ (by simp [Row.no?]) rfl
        · by_cases w6 : way = 6 ∧ pu ≠ ot
          · obtain ⟨rfl, hne⟩ := w6
            have e7 : fTup [.str [98, 97, 99, 107], .int day, .str pu, .str ot, .int (1 + pe)] = some (.fz, (Row.back day pu ot (1 + pe)).enc) := rfl
            simp [fLt, kz, ownN, eq_i, ne_s, hne, e7, rl, enc_nk, -Prod.exists, -Prod.forall]
            exact fin (.back day pu ot (1 + pe)) kd8 _ _ _ _ _ _ _ _ _ h8 ⟨b0, np pu hpu, np ot hot, hne, b1⟩ (by simp [Row.no?]) rfl
          · have z4 : (decide (way = 4) && decide (pu ≠ ot)) = false := by rw [Bool.and_eq_false_iff]; by_cases c : way = 4 <;> by_cases c2 : pu = ot <;> simp [c, c2] <;> exact absurd ⟨c, c2⟩ w4
            have z5 : (decide (way = 5) && decide (pu ≠ ot)) = false := by rw [Bool.and_eq_false_iff]; by_cases c : way = 5 <;> by_cases c2 : pu = ot <;> simp [c, c2] <;> exact absurd ⟨c, c2⟩ w5
            have z6 : (decide (way = 6) && decide (pu ≠ ot)) = false := by rw [Bool.and_eq_false_iff]; by_cases c : way = 6 <;> by_cases c2 : pu = ot <;> simp [c, c2] <;> exact absurd ⟨c, c2⟩ w6
            have c4 : ¬ pu = ot → ¬ way = 4 := fun d c => w4 ⟨c, d⟩
            have c5 : ¬ pu = ot → ¬ way = 5 := fun d c => w5 ⟨c, d⟩
            have c6 : ¬ pu = ot → ¬ way = 6 := fun d c => w6 ⟨c, d⟩
            have e0 : ∀ k : Int, (k = 4 ∨ k = 5 ∨ k = 6) → ¬ pu = ot → ¬ way = k := by
              rintro k (rfl | rfl | rfl) d
              · exact c4 d
              · exact c5 d
              · exact c6 d
            by_cases hpo : pu = ot
            subst hpo
            rotate_left
            simp [fLt, kz, w1, ownN, eq_i, ne_s, c4 hpo, c5 hpo, c6 hpo, lst2, -Prod.exists, -Prod.forall]
            rotate_left
            simp [fLt, kz, w1, ownN, eq_i, ne_s, lst2, -Prod.exists, -Prod.forall]
            all_goals
              refine call2_wp rfl ?_
              simp [lst2, -Prod.exists, -Prod.forall]
              refine draw_wp hF rfl ?_
              simp [h8, -Prod.exists, -Prod.forall]
              intro r5 kd9 h9 ra5 rb5
              obtain ⟨mm, e6, m0, m1⟩ := pick_int (xs := [.int 0, .int 4]) (r := r5) (lo := 0) (hi := 4) ra5 (by simpa using rb5) (by simp)
              simp [e6, h9, -Prod.exists, -Prod.forall]
              refine (hS kd9 pupils mm h9 p1 (by omega) m0 (by omega)).mono ?_
              rintro _ _ ⟨as, kd10, rfl, rfl, h10, nda, la, sub⟩
              refine ⟨kd10, rfl, ?_⟩
              obtain ⟨ps, psn, psb, psl, ep⟩ := or_ps np hpu nda (by omega) sub [some kd10, some (Kd.fz, D.lst (List.map D.str kinds)), some (Kd.fz, D.lst (List.map D.str pupils)), some (Kd.fz, D.int ↑m), some (Kd.dN, D.dit (List.map tt rows)), some (Kd.fz, D.int ↑j), x6, some (Kd.fz, D.str pu), some (Kd.fz, D.str _), some (Kd.fz, D.int day), some (Kd.fz, D.int (1 + pe)), some (Kd.fz, D.int way), x12, x13] rfl
              refine ⟨h10, okP.of ep ?_⟩
              simp [ownN, -Prod.exists, -Prod.forall]
              refine draw_wp hF rfl ?_
              simp [fLen, kz, h10, -Prod.exists, -Prod.forall]
              refine ⟨by omega, by omega, fun r6 kd11 h11 ra6 rb6 => ?_⟩
              obtain ⟨ki, hki, e8⟩ := pick_str (ns := kinds) ra6 (by simpa using rb6)
              have eM : fMax2 [.int (1 + pe), .int ps.length] = some (.fz, .int (if (ps.length : Int) > 1 + pe then (ps.length : Int) else 1 + pe)) := rfl
              have eT : ∀ c : Int, fTup [.str [98, 111, 117, 103, 104, 116], .int day, .int j, .tup (ps.map D.str), .str ki, .int c] = some (.fz, (Row.bought day j ps ki c).enc) := fun c => rfl
              simp [e8, fLen, kz, eM, eT, ownN, rl, enc_nk, -Prod.exists, -Prod.forall]
              refine fin (.bought day j ps ki _) kd11 _ _ _ _ _ _ _ _ _ h11 ⟨b0, ⟨by omega, by omega⟩, psn, psb, nk ki hki, ?_⟩ (by simp [Row.no?]) rfl
              unfold inB
              split <;> constructor <;> omega
  · rintro S ⟨j, rows, kd1, x5, x6, x7, x8, x9, x10, x11, x12, x13, h1, hj, hds, g, hz, rfl⟩
    have hjm : m - j = 0 := by
      cases e : m - j with
      | zero => rfl
      | succ n => rw [e, rangeL_cons] at hds; cases hds
    simp [ownN, sorted_dN g.ok, frz, rows_imm, -Prod.exists, -Prod.forall]
    have sl : (srt rows).length = rows.length := (srt_perm rows).length_eq
    have gl := g.le
    refine lcp_wp (fun _ => true) (pickD (srt rows)) ?_
    simp [-Prod.exists, -Prod.forall]
    refine call1_wp rfl ?_
    simp [fLen, kz, h1, -Prod.exists, -Prod.forall]
    have q := hO kd1 (srt rows).length h1 (by rw [sl]; omega)
    refine q.mono ?_
    rintro _ _ ⟨is, kd2, rfl, rfl, h2, pm⟩
    have ln : is.length = rows.length := by rw [pm.length_eq]; simp [upto, sl]
    have P := perm_rows pm
    refine ⟨kd2, rfl, h2, ?_⟩
    refine okP.of (e := rfl) ?_
    refine ⟨hz, by simp, by rw [List.length_map]; simp [sizeMax]; omega, fun d hd => ?_, ?_⟩
    · obtain ⟨i, hi, rfl⟩ := List.mem_map.mp hd
      have hb := upto_mem (pm.mem_iff.mp hi)
      refine ⟨.fz, ?_⟩
      simp [rowAt_ix hb.1 hb.2, pickD]
    · rw [outs_dr hd h2 rfl]
      refine ⟨is.map (rowAt (srt rows)), kd2, ?_, rfl, h2, ?_, ?_, ?_, ?_⟩
      · rw [List.filter_eq_self.mpr (fun _ _ => rfl), List.map_map, List.map_map]; rfl
      · exact fun x hx => g.ok x ((srt_perm rows).mem_iff.mp (P.mem_iff.mp hx))
      · exact (P.trans (srt_perm rows)).nodup_iff.mpr g.nd
      · exact ((P.trans (srt_perm rows)).filterMap _).nodup_iff.mpr g.nn
      · rw [List.length_map]; omega
end
end LW

/-! k07: the shop that is drawn -/
namespace LW
open TB
def DcOk (K V : D → Prop) (kvs : List (D × D)) : Prop := ∀ p ∈ kvs, K p.1 ∧ V p.2
theorem DcOk.put {K V : D → Prop} {kvs : List (D × D)} {k v : D} (h : DcOk K V kvs) (hk : K k) (hv : V v) : DcOk K V (putD kvs k v) := by
  unfold putD
  intro p hp
  split at hp
  · obtain ⟨q, hq, rfl⟩ := List.mem_map.mp hp
    have := h q hq
    split
    · exact ⟨this.1, hv⟩
    · exact this
  · rcases List.mem_append.mp hp with hp | hp
    · exact h p hp
    · rw [List.mem_singleton] at hp; subst hp; exact ⟨hk, hv⟩
theorem putD_len (kvs : List (D × D)) (k v : D) : (putD kvs k v).length ≤ kvs.length + 1 := by
  unfold putD
  split <;> simp
def KeyK (K : D → Prop) : Prop := (∀ a b, K a → K b → D.alk a b = true) ∧ (∀ a, K a → a.lay 50 = true) ∧ ∀ a, K a → D.imm a = true
theorem imms_all {ds : List D} (h : ∀ d ∈ ds, D.imm d = true) : D.imms ds = true := by
  induction ds with
  | nil => simp [D.imms]
  | cons d ds ih => simp only [D.imms, Bool.and_eq_true]; exact ⟨h d (by simp), ih fun x hx => h x (by simp [hx])⟩
theorem items_ok {K V : D → Prop} (hK : KeyK K) (hV : KeyK V) {kvs : List (D × D)} (h : DcOk K V kvs) : ∃ ds, fSortItems (.dic kvs) = some (.li .fz, .lst ds) ∧ D.imms ds = true ∧ ds.length = kvs.length := by
  refine ⟨sortD (kvs.map pairD), ?_, ?_, ?_⟩
  · have a : alkAll (kvs.map pairD) = true := by
      unfold alkAll
      rw [List.all_eq_true]
      intro x hx
      rw [List.all_eq_true]
      intro y hy
      obtain ⟨p, hp, rfl⟩ := List.mem_map.mp hx
      obtain ⟨q, hq, rfl⟩ := List.mem_map.mp hy
      simp [pairD, D.alk, D.alks, hK.1 _ _ (h p hp).1 (h q hq).1, hV.1 _ _ (h p hp).2 (h q hq).2]
    have b : D.lays 60 (kvs.map pairD) = true := by
      refine lays_all fun x hx => ?_
      obtain ⟨p, hp, rfl⟩ := List.mem_map.mp hx
      have a1 : p.1.lay 59 = true := lay_le (n := 50) (by omega) (hK.2.1 _ (h p hp).1)
      have a2 : p.2.lay 59 = true := lay_le (n := 50) (by omega) (hV.2.1 _ (h p hp).2)
      simp [pairD, D.lay, D.lays, a1, a2]
    show (if (alkAll (kvs.map pairD) && D.lays 60 (kvs.map pairD)) = true then _ else none) = _
    rw [a, b]; rfl
  · refine imms_all fun x hx => ?_
    have hx : x ∈ kvs.map pairD := (List.mergeSort_perm _ _).mem_iff.mp hx
    obtain ⟨p, hp, rfl⟩ := List.mem_map.mp hx
    simp [pairD, D.imm, D.imms, hK.2.2 _ (h p hp).1, hV.2.2 _ (h p hp).2]
  · exact (List.mergeSort_perm _ _).length_eq.trans (List.length_map _)
def isI (d : D) : Prop := ∃ i : Int, d = .int i
def isS (d : D) : Prop := ∃ s : List Nat, d = .str s ∧ s.length ≤ 8 ∧ ∀ c ∈ s, c < 1114112
theorem kI : KeyK isI := ⟨by rintro _ _ ⟨i, rfl⟩ ⟨j, rfl⟩; simp [D.alk], by rintro _ ⟨i, rfl⟩; simp [D.lay], by rintro _ ⟨i, rfl⟩; simp [D.imm]⟩
theorem kS : KeyK isS := ⟨by rintro _ _ ⟨i, rfl, _⟩ ⟨j, rfl, _⟩; simp [D.alk], by
    rintro _ ⟨s, rfl, h1, h2⟩
    unfold D.lay
    exact List.all_eq_true.mpr fun c hc => decide_eq_true (h2 c hc), by rintro _ ⟨i, rfl, _⟩; simp [D.imm]⟩
theorem isS_name {s : List Nat} (h : nameS s = true) : isS (.str s) := by
  unfold nameS at h
  have h1 : s.length ≤ 8 := by simp at h; exact h.1.2
  have h2 : ∀ c ∈ s, c ∈ abc := by simp at h; exact h.2
  exact ⟨s, rfl, h1, fun c hc => abc_small c (h2 c hc)⟩
def ShopQ (r : KD) (o : List KD) : Prop := ∃ d kd', r = (.fz, d) ∧ o = [kd'] ∧ DI kd'
section
variable {Γ : Nat → Fn}
def B10 (F : Fn) (s1 s2 : List (List Nat)) : Prop := ∀ kd, DI kd → FnP F [kd, (.fz, .lst (s1.map D.str)), (.fz, .lst (s2.map D.str))] BookQ
theorem shop_107 (hF : DrawOk (Γ 7)) {s1 s2 : List (List Nat)} (n1 : ∀ s ∈ s1, nameS s = true) (l1 : s1.length ≤ 100) (hB : B10 (Γ 10) s1 s2) {kd : KD} (hd : DI kd) :
    FnP (runF 8 [0] (mb_107 Γ)) [kd, (.fz, .lst (s1.map D.str)), (.fz, .lst (s2.map D.str))] ShopQ := by
  refine runF_wp (by obtain ⟨a, b, rfl, _⟩ := hd; rfl) ?_
  simp [mb_107, -Prod.exists, -Prod.forall]
  refine draw_wp hF rfl ?_
  simp [hd, -Prod.exists, -Prod.forall]
  intro r0 k0 h0 r0a r0b
  have hr0 : r0.natAbs < limN := by unfold limN; omega
  simp [hr0, -Prod.exists, -Prod.forall]
  refine loop_wp (fun ds S => ∃ (kvs : List (D × D)) (kd : KD) (x4 x7 : Slot), DI kd ∧ DcOk isS isI kvs ∧ kvs.length + ds.length ≤ 100 ∧ S = [some kd, some (.fz, .lst (s1.map D.str)), some (.fz, .lst (s2.map D.str)), some (.dK .fz, .dic kvs), x4, none, none, x7]) ?_ ?_ ?_ ?_
  · rintro ds S ⟨_, _, _, _, _, _, _, rfl⟩; simp
  · exact ⟨[], k0, none, none, h0, fun p hp => by simp at hp, by rw [rangeL_length]; simp; omega, rfl⟩
  · rintro d ds S ⟨kvs, k1, x4, x7, h1, hk, hl, rfl⟩
    have eA : fAdd (.lst [.str []]) (.lst (s1.map D.str)) = some (.li .fz, .lst (([] :: s1).map D.str)) := by
      show (if 1 + (s1.map D.str).length ≤ sizeMax then _ else none) = _
      rw [if_pos (by rw [List.length_map]; simp [sizeMax]; omega)]; rfl
    have eL : fLst [.str []] = some (.li .fz, .lst [.str []]) := rfl
    have eS : fAdd (.int s1.length) (.int 1) = some (.fz, .int (s1.length + 1)) := rfl
    simp [eL, eA, -Prod.exists, -Prod.forall]
    refine draw_wp hF rfl ?_
    simp [fLen, kz, eS, h1, -Prod.exists, -Prod.forall]
    refine ⟨by omega, by omega, fun r1 k2 h2 r1a r1b => ?_⟩
    obtain ⟨w, hw, e1⟩ := pick_str (ns := [] :: s1) r1a (by simpa using r1b)
    have hw2 : isS (.str w) := by
      rcases List.mem_cons.mp hw with rfl | hw
      · exact ⟨[], rfl, by simp, by simp⟩
      · exact isS_name (n1 w hw)
    rw [List.map_cons] at e1
    have kl : kvs.length < sizeMax := by simp [sizeMax]; simp at hl; omega
    have eL4 : fLst [.int 0, .int 9, .int 20, .int 60] = some (.li .fz, .lst [.int 0, .int 9, .int 20, .int 60]) := rfl
    simp [e1, eL4, -Prod.exists, -Prod.forall]
    refine draw_wp hF rfl ?_
    simp [h2, -Prod.exists, -Prod.forall]
    intro r2 k3 h3 r2a r2b
    obtain ⟨a, e2, a0, a1⟩ := pick_int (xs := [.int 0, .int 9, .int 20, .int 60]) (r := r2) (lo := 0) (hi := 60) r2a (by simpa using r2b) (by simp)
    simp [e2, -Prod.exists, -Prod.forall]
    refine draw_wp hF rfl ?_
    simp [h3, -Prod.exists, -Prod.forall]
    intro r3 k4 h4 r3a r3b
    have e3 : fAdd (.int a) (.int r3) = some (.fz, .int (a + r3)) := rfl
    simp [e3, ownK, isKey, kl, -Prod.exists, -Prod.forall]
    have pl := putD_len kvs (.str w) (.int (a + r3))
    simp at hl
    exact ⟨putD kvs (.str w) (.int (a + r3)), k4, h4, hk.put hw2 ⟨_, rfl⟩, by omega, by simp⟩
  · rintro S ⟨kvs, k1, x4, x7, h1, hk, hl, rfl⟩
    obtain ⟨ds1, i1, i2, i3⟩ := items_ok kS kI hk
    simp [-Prod.exists, -Prod.forall]
    refine draw_wp hF rfl ?_
    simp [h1, -Prod.exists, -Prod.forall]
    intro r5 k5 h5 r5a r5b
    have hr5 : r5.natAbs < limN := by unfold limN; omega
    simp [hr5, -Prod.exists, -Prod.forall]
    refine loop_wp (fun ds S => ∃ (kv2 : List (D × D)) (kd : KD) (x4 : Slot), DI kd ∧ DcOk isI isS kv2 ∧ kv2.length + ds.length ≤ 100 ∧ S = [some kd, some (.fz, .lst (s1.map D.str)), some (.fz, .lst (s2.map D.str)), some (.dK .fz, .dic kvs), x4, some (.dK .fz, .dic kv2), none, x7]) ?_ ?_ ?_ ?_
    · rintro ds S ⟨_, _, _, _, _, _, rfl⟩; simp
    · exact ⟨[], k5, x4, h5, fun p hp => by simp at hp, by rw [rangeL_length]; simp; omega, rfl⟩
    · rintro d ds S ⟨kv2, k6, x4, h6, hk2, hl2, rfl⟩
      have eL : fLst [.str [99, 97, 114, 114, 105, 101, 100], .str [103, 105, 118, 101, 110]] = some (.li .fz, .lst [.str [99, 97, 114, 114, 105, 101, 100], .str [103, 105, 118, 101, 110]]) := rfl
      simp [eL, -Prod.exists, -Prod.forall]
      refine draw_wp hF rfl ?_
      simp [h6, -Prod.exists, -Prod.forall]
      intro r7 k7 h7 r7a r7b
      obtain ⟨wd, hw, e6⟩ := fIx_lst (xs := [.str [99, 97, 114, 114, 105, 101, 100], .str [103, 105, 118, 101, 110]]) r7a (by simpa using r7b)
      have hw2 : isS wd := by
        simp at hw
        rcases hw with rfl | rfl
        · exact ⟨_, rfl, by simp, by simp⟩
        · exact ⟨_, rfl, by simp, by simp⟩
      simp [e6, -Prod.exists, -Prod.forall]
      refine draw_wp hF rfl ?_
      simp [h7, -Prod.exists, -Prod.forall]
      intro r8 k8 h8 r8a r8b
      have e3 : fAdd (.int 1) (.int r8) = some (.fz, .int (1 + r8)) := rfl
      have kl : kv2.length < sizeMax := by simp [sizeMax]; simp at hl2; omega
      simp [e3, ownK, isKey, kl, -Prod.exists, -Prod.forall]
      have pl := putD_len kv2 (.int (1 + r8)) wd
      simp at hl2
      exact ⟨putD kv2 (.int (1 + r8)) wd, k8, h8, hk2.put ⟨_, rfl⟩ hw2, by omega, by simp⟩
    · rintro S ⟨kv2, k6, x4, h6, hk2, hl2, rfl⟩
      obtain ⟨ds2, j1, j2, j3⟩ := items_ok kI kS hk2
      simp [-Prod.exists, -Prod.forall]
      refine call2_wp rfl ?_
      simp [h6, -Prod.exists, -Prod.forall]
      refine (hB k6 h6).mono ?_
      rintro _ _ ⟨xs, k9, rfl, rfl, h9, -, -⟩
      refine ⟨k9, rfl, h9, ?_⟩
      simp [frz, i1, i2, j1, j2, fTuple, kz, tup_f, hd.own, h9.own, isF_fz, outsOf, -Prod.exists, -Prod.forall]
      exact ⟨_, k9, rfl, rfl, h9⟩
end
end LW

/-! k07: the case that is drawn -/
namespace LW
open TB
def CaseQ (r : KD) (o : List KD) : Prop := ∃ (shop : D) (rows : List Row) (ks ps : List (List Nat)) (kd : KD), r = (.fz, .tup [shop, .lst (rows.map Row.enc), .lst (ks.map D.str), .lst (ps.map D.str)]) ∧ o = [kd] ∧ DI kd ∧ (∀ x ∈ rows, x.ok) ∧ rows.Nodup ∧ (nums rows).Nodup ∧ rows.length ≤ 58
section
variable {Γ : Nat → Fn}
def RowsOk (F : Fn) : Prop := ∀ (kd : KD) (kinds pupils : List (List Nat)) (m : Nat), DI kd → 1 ≤ kinds.length → kinds.length ≤ 26 → 1 ≤ pupils.length → pupils.length ≤ 26 → (∀ s ∈ kinds, nameS s = true) → (∀ s ∈ pupils, nameS s = true) → 1 ≤ m → m ≤ 58 →
    FnP F [kd, (.fz, .lst (kinds.map D.str)), (.fz, .lst (pupils.map D.str)), (.fz, .int m)] (RowsQ m)
def ShopOk (F : Fn) : Prop := ∀ (kd : KD) (s1 s2 : List (List Nat)), DI kd → 1 ≤ s1.length → 1 ≤ s2.length → s1.length ≤ 100 → s2.length ≤ 100 → (∀ s ∈ s1, nameS s = true) → (∀ s ∈ s2, nameS s = true) → FnP F [kd, (.fz, .lst (s1.map D.str)), (.fz, .lst (s2.map D.str))] ShopQ
theorem case_132 (hF : DrawOk (Γ 7)) (hN : NamesOk (Γ 11)) (hS : ShopOk (Γ 107)) (hR : RowsOk (Γ 131)) {kd : KD} (hd : DI kd) : FnP (runF 4 [0] (mb_132 Γ)) [kd] CaseQ := by
  refine runF_wp (by obtain ⟨a, b, rfl, _⟩ := hd; rfl) ?_
  simp [mb_132, -Prod.exists, -Prod.forall]
  refine call1_wp rfl ?_
  simp [hd, -Prod.exists, -Prod.forall]
  refine (hN kd 3 hd (by omega) (by omega)).mono ?_
  rintro _ _ ⟨s1, k1, rfl, rfl, h1, l1, n1, _, _⟩
  refine ⟨k1, rfl, h1, ?_⟩
  have eS : ∀ i : Int, fAdd (.int 2) (.int i) = some (.fz, .int (2 + i)) := fun i => rfl
  refine call1_wp rfl ?_
  simp [-Prod.exists, -Prod.forall]
  refine draw_wp hF rfl ?_
  simp [h1, eS, -Prod.exists, -Prod.forall]
  intro r2 k2 h2 r2a r2b
  simp [h2, -Prod.exists, -Prod.forall]
  refine (hN k2 (2 + r2) h2 (by omega) (by omega)).mono ?_
  rintro _ _ ⟨s2, k3, rfl, rfl, h3, l2, n2, _, _⟩
  refine ⟨k3, rfl, h3, ?_⟩
  simp at l1
  refine call2_wp rfl ?_
  simp [h3, -Prod.exists, -Prod.forall]
  refine (hS k3 s1 s2 h3 (by omega) (by omega) (by omega) (by omega) n1 n2).mono ?_
  rintro _ _ ⟨shop, k4, rfl, rfl, h4⟩
  refine ⟨k4, rfl, h4, ?_⟩
  have eL : fLst [.int 8, .int 25, .int 45] = some (.li .fz, .lst [.int 8, .int 25, .int 45]) := rfl
  simp [-Prod.exists, -Prod.forall]
  refine call3_wp rfl ?_
  simp [eL, -Prod.exists, -Prod.forall]
  refine draw_wp hF rfl ?_
  simp [h4, -Prod.exists, -Prod.forall]
  intro r5 k5 h5 r5a r5b
  obtain ⟨m, e6, m0, m1⟩ := pick_int (xs := [.int 8, .int 25, .int 45]) (r := r5) (lo := 1) (hi := 45) r5a (by simpa using r5b) (by simp)
  obtain ⟨m, rfl⟩ : ∃ n : Nat, m = n := ⟨m.toNat, by omega⟩
  simp [e6, h5, -Prod.exists, -Prod.forall]
  refine (hR k5 s1 s2 m h5 (by omega) (by omega) (by omega) (by omega) n1 n2 (by omega) (by omega)).mono ?_
  rintro _ _ ⟨rows, k6, rfl, rfl, h6, q1, q2, q3, q4⟩
  refine ⟨k6, rfl, h6, ?_⟩
  simp [tup_f, hd.own, h6.own, isF_fz, outsOf, -Prod.exists, -Prod.forall]
  exact ⟨shop, rows, s1, s2, k6, rfl, rfl, h6, q1, q2, q3, by omega⟩
end
end LW

/-! k07: the order of rows -/
namespace LW
open TB
inductive Pl : D → Prop
  | int (i : Int) : Pl (.int i)
  | str (s : List Nat) : Pl (.str s)
  | tup (xs : List D) : (∀ x ∈ xs, Pl x) → Pl (.tup xs)
theorem eqvs_of {xs : List D} (h : ∀ x ∈ xs, ∀ y, Pl y → (D.eqv x y = true ↔ x = y)) : ∀ ys : List D, (∀ y ∈ ys, Pl y) → (D.eqvs xs ys = true ↔ xs = ys) := by
  induction xs with
  | nil => intro ys hy; cases ys <;> simp [D.eqvs]
  | cons x xs ih =>
    intro ys hy
    cases ys with
    | nil => simp [D.eqvs]
    | cons y ys =>
      have a := h x (by simp) y (hy y (by simp))
      have b := ih (fun x hx => h x (by simp [hx])) ys fun y h => hy y (by simp [h])
      simp only [D.eqvs, Bool.and_eq_true, a, b, List.cons.injEq]
theorem eqv_pl {x : D} (hx : Pl x) : ∀ y, Pl y → (D.eqv x y = true ↔ x = y) := by
  induction hx with
  | int i => intro y hy; cases hy <;> simp [D.eqv]
  | str s => intro y hy; cases hy <;> simp [D.eqv]
  | tup xs h ih =>
    intro y hy
    cases hy with
    | int j => simp [D.eqv]
    | str j => simp [D.eqv]
    | tup ys hy => simp only [D.eqv, D.tup.injEq]; exact eqvs_of ih ys hy
theorem lts_cons {x y : D} {xs ys : List D} (hx : Pl x) (hy : Pl y) : (D.lts (x :: xs) (y :: ys) = true ↔ (x = y ∧ D.lts xs ys = true) ∨ (x ≠ y ∧ D.lt x y = true)) := by
  have := eqv_pl hx y hy
  by_cases c : x = y
  · subst c; simp [D.lts, this.mpr rfl]
  · have : ¬ D.eqv x y = true := fun e => c (this.mp e)
    simp [D.lts, this, c]
theorem str_lt_tri (a b : List Nat) : a < b ∨ a = b ∨ b < a := by
  rcases List.le_total a b with h | h
  · by_cases c : a < b
    · exact .inl c
    · exact .inr (.inl (List.le_antisymm h (List.not_lt.mp c)))
  · by_cases c : b < a
    · exact .inr (.inr c)
    · exact .inr (.inl (List.le_antisymm (List.not_lt.mp c) h))
theorem lt_irr {x : D} (hx : Pl x) : D.lt x x = false := by
  induction hx with
  | int i => simp [D.lt]
  | str s => simp [D.lt, List.lt_irrefl]
  | tup xs h ih =>
    simp only [D.lt]
    induction xs with
    | nil => simp [D.lts]
    | cons x xs i2 =>
      have e := (eqv_pl (h x (by simp)) x (h x (by simp))).mpr rfl
      simp only [D.lts, e, if_true]
      exact i2 (fun x hx => h x (by simp [hx])) fun x hx => ih x (by simp [hx])
theorem lts_trans {xs : List D} (hx : ∀ x ∈ xs, Pl x) (h : ∀ x ∈ xs, ∀ y z, Pl y → Pl z → D.lt x y = true → D.lt y z = true → D.lt x z = true) : ∀ ys zs : List D, (∀ y ∈ ys, Pl y) → (∀ z ∈ zs, Pl z) → D.lts xs ys = true → D.lts ys zs = true → D.lts xs zs = true := by
  induction xs with
  | nil => intro ys zs _ _ a b; cases ys <;> cases zs <;> simp [D.lts] at a b ⊢
  | cons x xs ih =>
    intro ys zs hy hz a b
    cases ys with
    | nil => simp [D.lts] at a
    | cons y ys =>
      cases zs with
      | nil => simp [D.lts] at b
      | cons z zs =>
        have px := hx x (by simp)
        have py := hy y (by simp)
        have pz := hz z (by simp)
        rw [lts_cons px py] at a
        rw [lts_cons py pz] at b
        rw [lts_cons px pz]
        have T := h x (by simp) y z py pz
        have I := ih (fun x hx' => hx x (by simp [hx'])) (fun x hx => h x (by simp [hx])) ys zs (fun y h => hy y (by simp [h])) (fun y h => hz y (by simp [h]))
        rcases a with ⟨rfl, a⟩ | ⟨n1, a⟩ <;> rcases b with ⟨rfl, b⟩ | ⟨n2, b⟩
        · exact .inl ⟨rfl, I a b⟩
        · exact .inr ⟨n2, b⟩
        · exact .inr ⟨n1, a⟩
        · have t := T a b
          refine .inr ⟨fun e => ?_, t⟩
          subst e
          rw [lt_irr px] at t
          cases t
theorem lt_trans' {x : D} (hx : Pl x) : ∀ y z, Pl y → Pl z → D.lt x y = true → D.lt y z = true → D.lt x z = true := by
  induction hx with
  | int i =>
    intro y z hy hz a b
    cases hy <;> cases hz <;> simp [D.lt] at a b ⊢
    omega
  | str s =>
    intro y z hy hz a b
    cases hy <;> cases hz <;> simp [D.lt] at a b ⊢
    exact List.lt_trans a b
  | tup xs h ih =>
    intro y z hy hz a b
    cases hy <;> cases hz <;> simp only [D.lt, Bool.false_eq_true] at a b ⊢
    exact lts_trans h ih _ _ ‹_› ‹_› a b
theorem tri_of {xs : List D} (hx : ∀ x ∈ xs, Pl x) (h : ∀ x ∈ xs, ∀ y, Pl y → D.alk x y = true → D.lt x y = true ∨ x = y ∨ D.lt y x = true) : ∀ ys : List D, (∀ y ∈ ys, Pl y) → wkDs xs ys = true → D.lts xs ys = true ∨ xs = ys ∨ D.lts ys xs = true := by
  induction xs with
  | nil => intro ys _ _; cases ys <;> simp [D.lts]
  | cons x xs ih =>
    intro ys hy w
    cases ys with
    | nil => simp [D.lts]
    | cons y ys =>
      have px := hx x (by simp)
      have py := hy y (by simp)
      rw [lts_cons px py, lts_cons py px]
      by_cases c : x = y
      · subst c
        rw [wkDs, if_pos ((eqv_pl px x px).mpr rfl)] at w
        rcases ih (fun x hx' => hx x (by simp [hx'])) (fun x hx => h x (by simp [hx])) ys (fun y h => hy y (by simp [h])) w with i | i | i
        · exact .inl (.inl ⟨rfl, i⟩)
        · exact .inr (.inl (by rw [i]))
        · exact .inr (.inr (.inl ⟨rfl, i⟩))
      · rw [wkDs, if_neg (fun e => c ((eqv_pl px y py).mp e))] at w
        rcases h x (by simp) y py w with i | i | i
        · exact .inl (.inr ⟨c, i⟩)
        · exact absurd i c
        · exact .inr (.inr (.inr ⟨fun e => c e.symm, i⟩))
theorem alks_wks : ∀ xs ys : List D, D.alks xs ys = true → wkDs xs ys = true
  | [], _, _ => by simp [wkDs]
  | _ :: _, [], _ => by simp [wkDs]
  | x :: xs, y :: ys, h => by
    simp only [D.alks, Bool.and_eq_true] at h
    rw [wkDs]
    split
    · exact alks_wks xs ys h.2
    · exact h.1
theorem tri {x : D} (hx : Pl x) : ∀ y, Pl y → D.alk x y = true → D.lt x y = true ∨ x = y ∨ D.lt y x = true := by
  induction hx with
  | int i => intro y hy a; cases hy <;> simp [D.alk, D.lt] at a ⊢; omega
  | str s => intro y hy a; cases hy <;> simp [D.alk, D.lt] at a ⊢; exact str_lt_tri _ _
  | tup xs h ih =>
    intro y hy a
    cases hy <;> simp only [D.alk, Bool.false_eq_true, D.lt, D.tup.injEq] at a ⊢
    exact tri_of h ih _ ‹_› (alks_wks _ _ a)
theorem tri_wk {x y : D} (hx : Pl x) (hy : Pl y) (w : wkD x y = true) : D.lt x y = true ∨ x = y ∨ D.lt y x = true := by
  cases hx with
  | int i => simp [wkD] at w
  | str i => simp [wkD] at w
  | tup xs h =>
    cases hy with
    | int i => cases xs <;> simp [wkD] at w
    | str i => cases xs <;> simp [wkD] at w
    | tup ys h2 =>
      cases xs with
      | nil => simp [wkD] at w
      | cons x xs =>
        cases ys with
        | nil => simp [wkD] at w
        | cons y ys =>
          simp only [wkD, Bool.and_eq_true] at w
          simp only [D.lt, D.tup.injEq]
          exact tri_of h (fun x hx => tri (h x hx)) _ h2 w.2
section
variable {α : Type} {f : α → D} (hp : ∀ a, Pl (f a)) (hw : ∀ a b, wkD (f a) (f b) = true) (hi : ∀ a b, f a = f b → a = b)
include hp in
theorem le_not {a b : α} (h : D.lt (f a) (f b) = true) : D.lt (f b) (f a) = false := by
  rw [Bool.eq_false_iff]
  intro c
  have := lt_trans' (hp a) _ _ (hp b) (hp a) h c
  rw [lt_irr (hp a)] at this
  cases this
include hp hw hi in
theorem le_iff (a b : α) : leD (f a) (f b) = true ↔ D.lt (f a) (f b) = true ∨ a = b := by
  unfold leD
  rw [Bool.not_eq_true']
  constructor
  · intro h
    rcases tri_wk (hp a) (hp b) (hw a b) with i | i | i
    · exact .inl i
    · exact .inr (hi a b i)
    · rw [h] at i; cases i
  · rintro (h | rfl)
    · exact le_not hp h
    · exact lt_irr (hp a)
include hp hw hi in
theorem le_tot (a b : α) : (leD (f a) (f b) || leD (f b) (f a)) = true := by
  rw [Bool.or_eq_true, le_iff hp hw hi, le_iff hp hw hi]
  rcases tri_wk (hp a) (hp b) (hw a b) with i | i | i
  · exact .inl (.inl i)
  · exact .inl (.inr (hi a b i))
  · exact .inr (.inl i)
include hp hw hi in
theorem le_trans' (a b c : α) (h1 : leD (f a) (f b) = true) (h2 : leD (f b) (f c) = true) : leD (f a) (f c) = true := by
  rw [le_iff hp hw hi] at *
  rcases h1 with h1 | rfl
  · rcases h2 with h2 | rfl
    · exact .inl (lt_trans' (hp a) _ _ (hp b) (hp c) h1 h2)
    · exact .inl h1
  · exact h2
include hp hw hi in
theorem sort_pair (as : List α) : (as.mergeSort fun a b => leD (f a) (f b)).Pairwise fun a b => leD (f a) (f b) = true :=
  List.pairwise_mergeSort (le_trans' hp hw hi) (le_tot hp hw hi) as
include hp hw hi in
theorem sort_uniq {as bs : List α} (h : as.Perm bs) : (as.mergeSort fun a b => leD (f a) (f b)) = bs.mergeSort fun a b => leD (f a) (f b) := by
  refine List.Perm.eq_of_pairwise (le := fun a b => leD (f a) (f b) = true) (fun a b _ _ x y => ?_) (sort_pair hp hw hi as) (sort_pair hp hw hi bs) ((List.mergeSort_perm _ _).trans (h.trans (List.mergeSort_perm _ _).symm))
  rw [le_iff hp hw hi] at x y
  rcases x with x | x
  · rcases y with y | y
    · have := le_not hp x
      rw [y] at this; cases this
    · exact y.symm
  · exact x
end
end LW

/-! k07: the order of rows, of the course -/
namespace LW
open TB
theorem strs_pl (ps : List (List Nat)) : ∀ x ∈ ps.map D.str, Pl x := fun x hx => by
  obtain ⟨s, _, rfl⟩ := List.mem_map.mp hx
  exact .str s
theorem enc_pl (r : Row) : Pl r.enc := by
  cases r <;> refine .tup _ fun x hx => ?_ <;> simp only [List.mem_cons, List.not_mem_nil, or_false] at hx
  · rcases hx with rfl | rfl | rfl | rfl | rfl <;> constructor
  · rcases hx with rfl | rfl | rfl | rfl <;> constructor
  · rcases hx with rfl | rfl | rfl | rfl | rfl <;> constructor
  · rcases hx with rfl | rfl | rfl | rfl | rfl <;> constructor
  · rcases hx with rfl | rfl | rfl | rfl | rfl | rfl
    · constructor
    · constructor
    · constructor
    · exact .tup _ (strs_pl _)
    · constructor
    · constructor
theorem key_pl (r : Row) : Pl r.key := by
  refine .tup _ fun x hx => ?_
  simp only [List.mem_cons, List.not_mem_nil, or_false] at hx
  rcases hx with rfl | rfl | rfl | rfl
  · constructor
  · constructor
  · constructor
  · exact enc_pl r
theorem key_inj (r s : Row) (h : r.key = s.key) : r = s := by
  unfold Row.key at h
  simp only [D.tup.injEq, List.cons.injEq] at h
  exact enc_inj h.2.2.2.1
theorem course_perm (rows : List Row) : (course rows).Perm rows := List.mergeSort_perm _ _
theorem course_eq {as bs : List Row} (h : as.Perm bs) : course as = course bs := sort_uniq key_pl key_wk key_inj h
theorem srt_eq {as bs : List Row} (h : as.Perm bs) : srt as = srt bs := sort_uniq enc_pl enc_wk (fun r s h => enc_inj h) h
/-- one after the other, each strictly below the next -/
theorem course_lt {rows : List Row} (nd : rows.Nodup) : (course rows).Pairwise fun a b => leD b.key a.key = false := by
  have n2 : (course rows).Nodup := (course_perm rows).nodup_iff.mpr nd
  refine (List.Pairwise.and (sort_pair key_pl key_wk key_inj rows) n2).imp fun {a b} h => ?_
  have h1 := (le_iff key_pl key_wk key_inj a b).mp h.1
  rcases h1 with h1 | h1
  · unfold leD; rw [h1]; rfl
  · exact absurd h1 h.2
def Row.few : Row → Row
  | .wrong d n p q => .wrong (d % 5) n p q
  | .paid d p c => .paid (d % 5) p c
  | .back d p q c => .back (d % 5) p q c
  | .lent d p q c => .lent (d % 5) p q c
  | .bought d n ps k c => .bought (d % 5) n ps k c
theorem few_ok {r : Row} (h : r.ok) : r.few.ok := by
  cases r <;> simp only [Row.few, Row.ok, inB] at h ⊢ <;> refine ⟨⟨by omega, by omega⟩, h.2⟩
theorem few_no (r : Row) : r.few.no? = r.no? := by cases r <;> rfl
theorem few_nums (rows : List Row) : nums (rows.map Row.few) = nums rows := by
  unfold nums
  rw [List.filterMap_map]
  refine congrFun (congrArg _ (funext fun r => ?_)) _
  exact few_no r
end LW

/-! k07: the law -/
namespace LW
open TB
@[simp] theorem eSl_ap (a : E) (lo hi : Option E) (S : List Slot) : eSl a lo hi S = (eDat a S).bind fun x S1 => (eOpt lo S1).bind fun l S2 => (eOpt hi S2).bind fun h S3 => ofO (fSl x l h) S3 := rfl
@[simp] theorem eOpt_n (S : List Slot) : eOpt none S = .ok none S := rfl
def fewD : D → D
  | .tup (w :: .int d :: xs) => .tup (w :: .int (d % 5) :: xs)
  | _ => .non
theorem fewD_enc (r : Row) : fewD r.enc = r.few.enc := by cases r <;> rfl
def restD (r : Row) : List D := match r.enc with
  | .tup xs => xs.drop 2
  | _ => []
theorem sl1 (r : Row) : fSl r.enc none (some 1) = some (.fz, .tup [.str r.w]) := by cases r <;> rfl
theorem sl2 (r : Row) : fSl r.enc (some 2) none = some (.fz, .tup (restD r)) := by cases r <;> rfl
theorem ad1 (r : Row) : fAdd (.tup [.str r.w]) (.tup [.int (r.day % 5)]) = some (.fz, .tup [.str r.w, .int (r.day % 5)]) := rfl
theorem ad2 (r : Row) : fAdd (.tup [.str r.w, .int (r.day % 5)]) (.tup (restD r)) = some (.fz, r.few.enc) := by cases r <;> rfl
theorem tup_1 (d : D) : fTup [d] = some (.fz, .tup [d]) := rfl
theorem mod_5 (i : Int) : fMod (.int i) (.int 5) = some (.fz, .int (i % 5)) := rfl
def dedup (rows : List Row) : List Row := ((List.range rows.length).filter fun i => decide (rowAt rows i ∉ rows.take i)).map fun (i : Nat) => rowAt rows i
def dedP (rows : List Row) : D → Bool
  | .int i => decide (rowAt rows i ∉ rows.take i.toNat)
  | _ => false
theorem row_lay {r : Row} (h : r.ok) : r.enc.lay 60 = true := lay_le (by omega) (enc_lay h)
theorem rows_lays {rows : List Row} {n : Nat} (hn : 58 ≤ n) (h : ∀ r ∈ rows, r.ok) : D.lays n (rows.map Row.enc) = true := lays_all fun d hd => by
  obtain ⟨r, hr, rfl⟩ := List.mem_map.mp hd
  exact lay_le hn (enc_lay (h r hr))
theorem any_eqv (r : Row) (rows : List Row) : ((rows.map Row.enc).any fun y => D.eqv y r.enc) = decide (r ∈ rows) := by
  rw [List.any_map, Bool.eq_iff_iff, List.any_eq_true, decide_eq_true_iff]
  constructor
  · rintro ⟨s, hs, e⟩
    have : s = r := by
      have e : D.eqv s.enc r.enc = true := e
      rw [enc_eqv] at e; exact of_decide_eq_true e
    exact this ▸ hs
  · intro h
    exact ⟨r, h, by show D.eqv r.enc r.enc = true; rw [enc_eqv]; simp⟩
theorem notIn_row {r : Row} {rows : List Row} (h : r.ok) (hs : ∀ r ∈ rows, r.ok) : fNotInB r.enc (.lst (rows.map Row.enc)) = some (.fz, .bl (decide (r ∉ rows))) := by
  have e1 : fNotIn r.enc (.lst (rows.map Row.enc)) = none ∨ fNotIn r.enc (.lst (rows.map Row.enc)) = some (.fz, .bl (decide (r ∉ rows))) := by
    show (if _ then kz (.bl (!(rows.map Row.enc).any fun y => D.eqv y r.enc)) else none) = none ∨ (if _ then kz (.bl (!(rows.map Row.enc).any fun y => D.eqv y r.enc)) else none) = _
    rw [any_eqv]
    split
    · right; simp [kz]
    · left; rfl
  have e2 : fNotInS r.enc (.lst (rows.map Row.enc)) = none := by cases r <;> rfl
  have e3 : fNotInN r.enc (.lst (rows.map Row.enc)) = some (.fz, .bl (decide (r ∉ rows))) := by
    show (if (r.enc.lay 60 && D.lays 60 (rows.map Row.enc)) = true then kz (.bl (!(rows.map Row.enc).any fun y => D.eqv y r.enc)) else none) = _
    rw [any_eqv, row_lay h, rows_lays (by omega) hs]
    simp [kz]
  unfold fNotInB fOr fNotInA fOr
  rcases e1 with e1 | e1 <;> simp only [e1, e2, e3]
theorem cutL_0 {α : Type} (xs : List α) {i : Nat} (h : i ≤ xs.length) : cutL xs none (some (i : Int)) = xs.take i := by
  have a : ixS xs.length 0 none = 0 := rfl
  have b : ixS xs.length xs.length (some (i : Int)) = i := by unfold ixS; simp only []; rw [if_neg (by omega)]; omega
  unfold cutL
  rw [a, b]; rfl
theorem cutL_2 {α : Type} (xs : List α) {i j : Nat} (h : j ≤ xs.length) (hij : i ≤ j) : cutL xs (some (i : Int)) (some (j : Int)) = (xs.drop i).take (j - i) := by
  have a : ixS xs.length 0 (some (i : Int)) = i := by unfold ixS; simp only []; rw [if_neg (by omega)]; omega
  have b : ixS xs.length xs.length (some (j : Int)) = j := by unfold ixS; simp only []; rw [if_neg (by omega)]; omega
  unfold cutL
  rw [a, b]
theorem cutL_m {α : Type} (xs : List α) (x : α) : cutL (xs ++ [x]) none (some (-1)) = xs := by
  have a : ixS (xs ++ [x]).length 0 none = 0 := rfl
  have b : ixS (xs ++ [x]).length (xs ++ [x]).length (some (-1)) = xs.length := by unfold ixS; simp; omega
  unfold cutL
  rw [a, b]; simp
theorem cut_take (rows : List Row) {i : Nat} (h : i ≤ rows.length) : fSl (.lst (rows.map Row.enc)) none (some i) = some (.li .fz, .lst ((rows.take i).map Row.enc)) := by
  show some ((.li .fz, .lst (cutL (rows.map Row.enc) none (some (i : Int)))) : KD) = _
  rw [List.map_take, cutL_0 _ (by rw [List.length_map]; exact h)]
theorem dedup_eq (rows : List Row) : List.map (pickD rows) (List.filter (dedP rows) (rangeL 0 rows.length)) = (dedup rows).map Row.enc := by
  unfold dedup rangeL
  rw [List.filter_map, List.map_map, List.map_map]
  simp only [Function.comp_def, Int.zero_add]
  rfl
theorem dedup_sub (rows : List Row) : (dedup rows).Sublist rows := by
  have h : ((List.range rows.length).map fun (i : Nat) => rowAt rows i) = rows := by
    have := upto_rows rows
    unfold upto at this
    rwa [List.map_map] at this
  unfold dedup
  refine List.Sublist.trans (List.Sublist.map _ List.filter_sublist) ?_
  rw [h]; exact .refl _
theorem dedup_nd (rows : List Row) : (dedup rows).Nodup := by
  unfold dedup
  rw [List.Nodup, List.pairwise_map, List.pairwise_filter]
  refine (List.pairwise_lt_range).imp_of_mem fun {i j} hi hj hij p q e => ?_
  have q := of_decide_eq_true q
  have hj := List.mem_range.mp hj
  have hi := List.mem_range.mp hi
  refine q (e ▸ ?_)
  have : rowAt rows i = rows[i] := by simp [rowAt, List.getD_eq_getElem?_getD, hi]
  rw [this]
  exact List.mem_take_iff_getElem.mpr ⟨i, by omega, rfl⟩
/-- what both sources are -/
structure PR (rows : List Row) : Prop where
  ok : ∀ r ∈ rows, r.ok
  nd : rows.Nodup
  nn : (nums rows).Nodup
  le : rows.length ≤ 58
abbrev wordsD : List D := [.str [119, 114, 111, 110, 103], .str [112, 97, 105, 100], .str [98, 97, 99, 107], .str [108, 101, 110, 116], .str [98, 111, 117, 103, 104, 116]]
theorem eqv_rows : ∀ rs : List Row, D.eqvs (rs.map Row.enc) (rs.map Row.enc) = true
  | [] => rfl
  | r :: rs => by
    show (D.eqv r.enc r.enc && D.eqvs (rs.map Row.enc) (rs.map Row.enc)) = true
    rw [eqv_rows rs, enc_eqv]; simp
theorem ne_same {rs : List Row} (h : ∀ r ∈ rs, r.ok) : fNe (.lst (rs.map Row.enc)) (.lst (rs.map Row.enc)) = some (.fz, .bl false) := by
  have l : (D.lst (rs.map Row.enc)).lay 60 = true := by
    show D.lays 59 _ = true
    exact rows_lays (by omega) h
  have e : D.eqv (.lst (rs.map Row.enc)) (.lst (rs.map Row.enc)) = true := eqv_rows rs
  unfold fNe eqOk
  rw [l, e]
  simp [kz]
theorem sorted_rows {rs : List Row} (h : ∀ r ∈ rs, r.ok) (hl : rs.length ≤ 1000) : fSortedB [.lst (rs.map Row.enc)] = some (.li .fz, .lst ((srt rs).map Row.enc)) := by
  rw [sorted_wkB (sortWk_rows h) (by rw [List.length_map]; simp [sizeMax]; omega), srt_map]
theorem l1N : 1 < limN := by unfold limN; omega
theorem ge_keys {a b : Row} (ha : a.ok) (hb : b.ok) (h : leD b.key a.key = false) : fGeB a.key b.key = some (.fz, .bl false) := by
  have hl : D.lt a.key b.key = true := by unfold leD at h; simpa using h
  have e1 : fGe a.key b.key = none := rfl
  have e2 : fGeD a.key b.key = none ∨ fGeD a.key b.key = some (.fz, .bl false) := by
    unfold fGeD
    split
    · right; rw [hl]; rfl
    · left; rfl
  have e3 : fGeW a.key b.key = some (.fz, .bl false) := by
    unfold fGeW
    rw [lay_le (by omega) (key_lay ha), lay_le (by omega) (key_lay hb), key_wk, hl]; rfl
  unfold fGeB fOr fGeA fOr
  rcases e2 with e2 | e2 <;> simp only [e1, e2, e3]
section
variable {Γ : Nat → Fn}
theorem law_139 (hD : DrawsOk (Γ 6)) (hC : ∀ kd, DI kd → FnP (Γ 132) [kd] CaseQ) (hR : R114 (Γ 114)) (hO : AO (Γ 130)) (ns : List Int) (hl : ns.length ≤ 63) : FnP (runF 15 [] (mb_139 Γ)) [(.fz, .scr ns)] fun r o => r = (.fz, .bl true) ∧ o = [] := by
  refine runF_wp (by rfl) ?_
  obtain ⟨m, hm, m0⟩ : ∃ m : Int, fMax2 [.int 1, .int (if (ns.length : Int) < 30 then (ns.length : Int) else 30)] = some (.fz, .int m) ∧ 0 ≤ m ∧ m ≤ 40 := by
    refine ⟨_, rfl, ?_⟩
    split <;> split <;> omega
  have hlim : m.natAbs < limN := by unfold limN; omega
  have e0 : fLst [.str [119, 114, 111, 110, 103], .str [112, 97, 105, 100], .str [98, 97, 99, 107], .str [108, 101, 110, 116], .str [98, 111, 117, 103, 104, 116]] = some (.li .fz, .lst [.str [119, 114, 111, 110, 103], .str [112, 97, 105, 100], .str [98, 97, 99, 107], .str [108, 101, 110, 116], .str [98, 111, 117, 103, 104, 116]]) := rfl
  simp [mb_139, e0, fLen, kz, fMin2, hm, hlim, -Prod.exists, -Prod.forall]
  refine loop_wp (fun ds S => (∀ d ∈ ds, ∃ k : Int, d = .int k ∧ 0 ≤ k ∧ k ≤ 1000) ∧ ∃ x2 x3 x4 x5 x6 x7 x8 x9 x10 x11 x12 x13 x14 : Slot, fzAt [x12] 0 = true ∧ fzAt [x14] 0 = true ∧ S = [some (.fz, .scr ns), some (.fz, .lst [.str [119, 114, 111, 110, 103], .str [112, 97, 105, 100], .str [98, 97, 99, 107], .str [108, 101, 110, 116], .str [98, 111, 117, 103, 104, 116]]), x2, x3, x4, x5, x6, x7, x8, x9, x10, x11, x12, x13, x14]) ?_ ?_ ?_ ?_
  · rintro ds S ⟨_, x2, x3, x4, x5, x6, x7, x8, x9, x10, x11, x12, x13, x14, _, _, rfl⟩; simp
  · refine ⟨fun d hd => ?_, none, none, none, none, none, none, none, none, none, none, none, none, none, rfl, rfl, rfl⟩
    obtain ⟨i, hi, rfl⟩ := mem_rangeL hd
    exact ⟨_, rfl, by omega, by omega⟩
  · rintro d ds S ⟨hds, x2, x3, x4, x5, x6, x7, x8, x9, x10, x11, x12, x13, x14, z12, z14, rfl⟩
    obtain ⟨k, rfl, k0, k1⟩ := hds d List.mem_cons_self
    have hds' : ∀ d ∈ ds, ∃ k : Int, d = .int k ∧ 0 ≤ k ∧ k ≤ 1000 := fun d hd => hds d (List.mem_cons_of_mem _ hd)
    obtain ⟨d1, e1, h1⟩ := hD ns k k0 k1
    simp [eCall_ap (Γ 6), arEv_v, arEv_nil, arIn, arOut, e1, -Prod.exists, -Prod.forall]
    refine callB_wp (es := []) rfl ?_
    simp [h1, -Prod.exists, -Prod.forall]
    refine (hC d1 h1).mono ?_
    rintro _ _ ⟨shop, rows, ks, ps, d2, rfl, rfl, h2, q1, q2, q3, q4⟩
    refine ⟨d2, rfl, h2, ?_⟩
    simp [Tg.put, Tg.puts, -Prod.exists, -Prod.forall]
    refine lcp_wp (fun _ => true) fewD ?_
    simp [itemsOf, eOpt, sl1, sl2, ad1, ad2, tup_1, mod_5, second_enc, fewD_enc, -Prod.exists, -Prod.forall]
    have e7 : List.map fewD (List.filter (fun x => true) (List.map Row.enc rows)) = (rows.map Row.few).map Row.enc := by
      rw [List.filter_eq_self.mpr (fun _ _ => rfl), List.map_map, List.map_map]; exact List.map_congr_left fun r _ => fewD_enc r
    refine ⟨z14, by simp [sizeMax]; omega, ?_⟩
    rw [e7]
    generalize hf : rows.map Row.few = fs
    have fl : fs.length = rows.length := by rw [← hf, List.length_map]
    have fok : ∀ r ∈ fs, r.ok := fun r hr => by
      rw [← hf] at hr
      obtain ⟨t, ht, rfl⟩ := List.mem_map.mp hr
      exact few_ok (q1 t ht)
    refine lcp_wp (dedP fs) (pickD fs) ?_
    have fli : fs.length < limN := by unfold limN; omega
    simp [fLen, kz, fli, -Prod.exists, -Prod.forall]
    refine ⟨z12, by simp [rangeL, sizeMax]; omega, fun d hd => ?_, fun d hd _ => ?_, ?_⟩
    · obtain ⟨i, hi, rfl⟩ := mem_rangeL hd
      have hb : fIx (.lst (fs.map Row.enc)) (.int (0 + (i : Int))) = some (.fz, (rowAt fs (0 + (i : Int))).enc) := rowAt_ix (by omega) (by omega)
      have hm : rowAt fs (0 + (i : Int)) ∈ fs := by
        have : rowAt fs (0 + (i : Int)) = fs[i] := by simp [rowAt, List.getD_eq_getElem?_getD, hi]
        rw [this]; exact List.getElem_mem _
      rw [Int.zero_add] at hb hm ⊢
      have hn := notIn_row (fok _ hm) (rows := fs.take i) fun r hr => fok r (List.mem_of_mem_take hr)
      rw [List.map_take] at hn
      simp [hb, hn, eOpt, cut_take fs (i := i) (by omega), dedP]
    · obtain ⟨i, hi, rfl⟩ := mem_rangeL hd
      have hb : fIx (.lst (fs.map Row.enc)) (.int (0 + (i : Int))) = some (.fz, (rowAt fs (0 + (i : Int))).enc) := rowAt_ix (by omega) (by omega)
      rw [Int.zero_add] at hb ⊢
      exact ⟨.fz, by simp [hb, pickD]⟩
    rw [dedup_eq]
    have dsub := dedup_sub fs
    have P1 : PR rows := ⟨q1, q2, q3, q4⟩
    have P2 : PR (dedup fs) := ⟨fun r hr => fok r (dsub.subset hr), dedup_nd fs, (dsub.filterMap Row.no?).nodup (by
      show (nums fs).Nodup
      rw [← hf, few_nums]; exact q3), Nat.le_trans dsub.length_le (by omega)⟩
    have t2 : ∀ a b : D, fTup [a, b] = some (.fz, .tup [a, b]) := fun a b => rfl
    simp [t2, itemsOf, -Prod.exists, -Prod.forall]
    refine loop_wp (fun ds S => (∀ d ∈ ds, ∃ rs : List Row, PR rs ∧ d = .lst (rs.map Row.enc)) ∧ ∃ (kd : KD) (x2 x4 x5 x6 x7 x8 x9 x10 x11 x12 x13 x14 : Slot), DI kd ∧ fzAt [x12] 0 = true ∧ fzAt [x14] 0 = true ∧ S = [some (.fz, .scr ns), some (.fz, .lst wordsD), x2, some kd, x4, x5, x6, x7, x8, x9, x10, x11, x12, x13, x14]) ?_ ?_ ?_ ?_
    · rintro ds S ⟨_, _, x2, x4, x5, x6, x7, x8, x9, x10, x11, x12, x13, x14, _, _, _, rfl⟩; simp
    · refine ⟨fun d hd => ?_, d2, _, _, _, _, _, _, x9, x10, x11, x12, x13, x14, h2, z12, z14, rfl⟩
      simp at hd
      rcases hd with rfl | rfl
      · exact ⟨rows, P1, rfl⟩
      · exact ⟨dedup fs, P2, rfl⟩
    · rintro d ds2 S ⟨hds, d3, x2, x4, x5, x6, x7, x8, x9, x10, x11, x12, x13, x14, h3, z12, z14, rfl⟩
      obtain ⟨rs, p, rfl⟩ := hds d List.mem_cons_self
      have hds2 : ∀ d ∈ ds2, ∃ rs : List Row, PR rs ∧ d = .lst (rs.map Row.enc) := fun d hd => hds d (List.mem_cons_of_mem _ hd)
      have eLi : ∀ xs : List D, fList [.lst xs] = some (.li .fz, .lst xs) := fun xs => rfl
      have er := hR rs p.ok p.nd p.nn (by have := p.le; omega)
      have cok : ∀ r ∈ course rs, r.ok := fun r hr => p.ok r ((course_perm rs).mem_iff.mp hr)
      have cl : (course rs).length = rs.length := (course_perm rs).length_eq
      have pl := p.le
      have so1 := sorted_rows cok (by omega)
      rw [srt_eq (course_perm rs)] at so1
      have so2 := sorted_rows p.ok (by omega)
      have ne1 := ne_same (rs := srt rs) fun r hr => p.ok r ((srt_perm rs).mem_iff.mp hr)
      have ne2 := ne_same p.ok
      have isl : ∀ xs : List D, fIsi .list (.lst xs) = some (.fz, .bl true) := fun xs => rfl
      have fb : ∀ b : Bool, (D.bl b).flat = true := fun b => rfl
      have fi : ∀ i : Int, (D.int i).flat = true := fun b => rfl
      have cli : (course rs).length < limN := by unfold limN; omega
      simp [eLi, eCall_ap (Γ 114), arEv_v, arEv_nil, arIn, arOut, er, frz, isl, fb, fi, so1, so2, ne1, ne2, rows_imm, fLen, kz, cli, l1N, -Prod.exists, -Prod.forall]
      refine loop_wp (fun ds S => (∀ d ∈ ds, ∃ i : Nat, d = .int (1 + i) ∧ 1 + i < (course rs).length) ∧ ∃ (x12 x13 x14 : Slot), fzAt [x12] 0 = true ∧ fzAt [x14] 0 = true ∧ S = [some (.fz, .scr ns), some (.fz, .lst wordsD), x2, some d3, x4, x5, x6, x7, x8, some (.fz, .lst (rs.map Row.enc)), some (.fz, .lst (rs.map Row.enc)), some (.li .fz, .lst ((course rs).map Row.enc)), x12, x13, x14]) ?_ ?_ ?_ ?_
      · rintro ds S ⟨_, x12, x13, x14, _, _, rfl⟩; simp
      · refine ⟨fun d hd => ?_, x12, x13, x14, z12, z14, rfl⟩
        obtain ⟨i, hi, rfl⟩ := mem_rangeL hd
        exact ⟨i, rfl, by omega⟩
      · rintro d ds3 S ⟨hd3, x12, x13, x14, z12, z14, rfl⟩
        obtain ⟨i, rfl, hi⟩ := hd3 d List.mem_cons_self
        have e1 : fLst [] = some (.li .fz, .lst []) := rfl
        have e2 : fSub (.int (1 + i)) (.int 1) = some (.fz, .int i) := by show kz (.int (1 + (i : Int) - 1)) = _; rw [show 1 + (i : Int) - 1 = i by omega]; rfl
        have e3 : fAdd (.int (1 + i)) (.int 1) = some (.fz, .int ((i : Int) + 2)) := by show kz (.int (1 + (i : Int) + 1)) = _; rw [show 1 + (i : Int) + 1 = (i : Int) + 2 by omega]; rfl
        have e4 : cutL ((course rs).map Row.enc) (some (i : Int)) (some ((i : Int) + 2)) = [((course rs)[i]).enc, ((course rs)[i + 1]).enc] := by
          rw [show (i : Int) + 2 = ((i + 2 : Nat) : Int) by omega, cutL_2 _ (by rw [List.length_map]; omega) (by omega)]
          rw [show i + 2 - i = 2 by omega, List.drop_eq_getElem_cons (by rw [List.length_map]; omega), List.drop_eq_getElem_cons (by rw [List.length_map]; omega)]
          simp
        have hlt := List.pairwise_iff_getElem.mp (course_lt p.nd) i (i + 1) (by omega) (by omega) (by omega)
        have oka := cok _ (List.getElem_mem (l := course rs) (n := i) (by omega))
        have okb := cok _ (List.getElem_mem (l := course rs) (n := i + 1) (by omega))
        generalize (course rs)[i] = a at e4 hlt oka
        generalize (course rs)[i + 1] = b at e4 hlt okb
        simp [e1, e2, e3, e4, itemsOf, ownL, -Prod.exists, -Prod.forall]
        refine loop_wp (fun ds S => ∃ (dn td : List Row) (x14 : Slot), dn ++ td = [a, b] ∧ ds = td.map Row.enc ∧ fzAt [x14] 0 = true ∧ S = [some (.fz, .scr ns), some (.fz, .lst wordsD), x2, some d3, x4, x5, x6, x7, x8, some (.fz, .lst (rs.map Row.enc)), some (.fz, .lst (rs.map Row.enc)), some (.li .fz, .lst ((course rs).map Row.enc)), some (.fz, .int (1 + i)), some (.li .fz, .lst (dn.map Row.key)), x14]) ?_ ?_ ?_ ?_
        · rintro ds S ⟨_, _, _, _, _, _, rfl⟩; simp
        · exact ⟨[], [a, b], x14, rfl, rfl, z14, rfl⟩
        · rintro d ds S ⟨dn, td, x14, hdt, hds4, z14, rfl⟩
          cases td with
          | nil => cases hds4
          | cons t td =>
            obtain ⟨rfl, rfl⟩ := List.cons.inj hds4
            have eK : ∀ r : Row, fTup [.int r.flag, .int r.day, .int r.ix, r.enc] = some (.fz, r.key) := fun r => rfl
            have eI : ∀ r : Row, fIndexL (.lst wordsD) (.str r.w) = some (.fz, .int r.ix) := fun r => by cases r <;> rfl
            have lk : dn.length < sizeMax := by
              have := congrArg List.length hdt
              simp at this
              simp [sizeMax]; omega
            have eP : fAppend (dn.map Row.key) [t.key] = some (.non, (dn ++ [t]).map Row.key) := by
              rw [List.map_append]
              show (if (dn.map Row.key).length < sizeMax then _ else none) = _
              rw [if_pos (by rw [List.length_map]; exact lk)]; rfl
            simp [first_enc, second_enc, neW, flag_int, eK, eI, eIndexL, ownL, eP, -List.map_append, -Prod.exists, -Prod.forall]
            exact ⟨dn ++ [t], td, by rw [List.append_assoc]; exact hdt, rfl, rfl, by simp⟩
        · rintro S ⟨dn, td, x14, hdt, hds4, z14, rfl⟩
          obtain rfl : td = [] := by cases td with | nil => rfl | cons t td => cases hds4
          rw [List.append_nil] at hdt
          subst hdt
          have eG := ge_keys oka okb hlt
          simp [ownL, eG, normIx, -Prod.exists, -Prod.forall]
          exact ⟨fun d hd => hd3 d (List.mem_cons_of_mem _ hd), some (.fz, .int (1 + i)), rfl, some (.li .fz, .lst [a.key, b.key]), x14, z14, rfl, rfl, rfl⟩
      · rintro S ⟨_, x12, x13, x14, z12, z14, rfl⟩
        simp [ePk2, -Prod.exists, -Prod.forall]
        refine call_wp ?_
        simp [arEv_v, arEv_nil, -Prod.exists, -Prod.forall]
        refine lcp_wp (fun _ => true) (pickD rs) ?_
        simp [-Prod.exists, -Prod.forall]
        refine call1_wp rfl ?_
        simp [fLen, kz, h3, -Prod.exists, -Prod.forall]
        refine (hO d3 rs.length h3 (by omega)).mono ?_
        rintro _ _ ⟨is, d4, rfl, rfl, h4, pm⟩
        have ln : is.length = rs.length := by rw [pm.length_eq]; simp [upto]
        have P := perm_rows pm
        refine ⟨d4, rfl, h4, ?_⟩
        refine okP.of (e := rfl) ?_
        refine ⟨z12, by simp, by rw [List.length_map]; simp [sizeMax]; omega, fun d hd => ?_, ?_⟩
        · obtain ⟨i, hi, rfl⟩ := List.mem_map.mp hd
          have hb := upto_mem (pm.mem_iff.mp hi)
          refine ⟨.fz, ?_⟩
          simp [rowAt_ix hb.1 hb.2, pickD]
        · have er2 := hR (is.map (rowAt rs)) (fun r hr => p.ok r (P.mem_iff.mp hr)) (P.nodup_iff.mpr p.nd) ((P.filterMap _).nodup_iff.mpr p.nn) (by rw [List.length_map]; omega)
          rw [course_eq P] at er2
          have e8 : List.map (pickD rs) (List.filter (fun x => true) (List.map D.int is)) = (is.map (rowAt rs)).map Row.enc := by
            rw [List.filter_eq_self.mpr (fun _ _ => rfl), List.map_map, List.map_map]; rfl
          have ne3 := ne_same cok
          rw [e8]
          simp [arIn, -List.map_map, -Prod.exists, -Prod.forall]
          refine ⟨_, _, er2, ?_⟩
          have eP : fAppend ((course rs).map Row.enc) [.str [122, 122]] = some (.non, (course rs).map Row.enc ++ [.str [122, 122]]) := by
            show (if ((course rs).map Row.enc).length < sizeMax then _ else none) = _
            rw [if_pos (by rw [List.length_map]; simp [sizeMax]; omega)]
          have eN : fNeg (.int 1) = some (.fz, .int (-1)) := rfl
          simp [arEv_v, arEv_nil, arIn, eCall_ap (Γ 114), er, arOut, ne3, fb, eP, eN, ownL, eOpt, cutL_m, -List.map_map, -Prod.exists, -Prod.forall]
          refine ⟨hds2, d4, h4, x2, x4, x5, x6, x7, x8, some (.fz, .lst (rs.map Row.enc)), some (.fz, .lst (rs.map Row.enc)), some (.li .fz, .lst ((course rs).map Row.enc ++ [.str [122, 122]])), x12, z12, x13, x14, z14, ?_⟩
          simp
    · rintro S ⟨_, d3, x2, x4, x5, x6, x7, x8, x9, x10, x11, x12, x13, x14, h3, z12, z14, rfl⟩
      exact ⟨rfl, hds', x2, some d3, x4, x5, x6, x7, x8, x9, x10, x11, x12, z12, x13, x14, z14, rfl⟩
  · rintro S ⟨_, x2, x3, x4, x5, x6, x7, x8, x9, x10, x11, x12, x13, x14, _, _, rfl⟩
    simp [outsOf, isF_fz]
end
end LW

/-! k07: the law, joined -/
namespace LW
open TB
theorem D7 (k : Nat) : DrawOk (callF (k + 1) 7) := draw_ok
theorem D6 (k : Nat) : DrawsOk (callF (k + 1) 6) := draws_ok
theorem S8 (k : Nat) : S8T (callF (k + 2) 8) := fun kd src m hd a b c e => some_str (D7 k) hd a b c e
theorem I8 (k : Nat) : ∀ kd (src : List Int) m, DI kd → 1 ≤ src.length → src.length ≤ 1000 → 0 ≤ m → m ≤ 60 → FnP (callF (k + 2) 8) [kd, (.fz, .lst (src.map D.int)), (.fz, .int m)] (SomeQ D.int sortI src m) := fun kd src m hd a b c e => some_int (D7 k) hd a b c e
theorem N11 (k : Nat) : NamesOk (callF (k + 2) 11) := names_ok (D7 k)
theorem R9 (k : Nat) {s1 s2 : List (List Nat)} (l1 : 1 ≤ s1.length) (l1' : s1.length ≤ 1000) (l2 : 1 ≤ s2.length) (l2' : s2.length ≤ 1000) (n1 : ∀ s ∈ s1, nameS s = true) (n2 : ∀ s ∈ s2, nameS s = true) :
    ∀ kd far, DI kd → 1 ≤ far → far ≤ 1000000 → FnP (callF (k + 3) 9) [kd, (.fz, .lst (s1.map D.str)), (.fz, .lst (s2.map D.str)), (.fz, .int far)] RuleQ := fun kd far hd f0 f1 => rule_9 (D7 (k + 1)) (S8 k) (I8 k) hd l1 l1' l2 l2' n1 n2 f0 f1
theorem Sh (k : Nat) : ShopOk (callF (k + 5) 107) := fun kd s1 s2 hd a b c e n1 n2 => shop_107 (D7 (k + 3)) n1 c (fun kd hd => book_10 (D7 (k + 2)) (R9 k a (by omega) b (by omega) n1 n2) hd) hd
theorem Ro (k : Nat) : RowsOk (callF (k + 3) 131) := fun kd ks ps m hd a b c e nk np m1 m2 => rows_131 (D7 (k + 1)) (S8 k) (order_130 (D7 k)) hd a b c e nk np m1 m2
theorem Ca (k : Nat) (kd : KD) (hd : DI kd) : FnP (callF (k + 6) 132) [kd] CaseQ := case_132 (D7 (k + 4)) (N11 (k + 3)) (Sh k) (Ro (k + 2)) hd
theorem W0' (k : Nat) : W0 (callF (k + 1) 0) := fun i lo hi => within_0 (b := 9) (n := 0) (d := .int i) (by simp [good])
theorem N1' (k : Nat) : N1 (callF (k + 1) 1) := fun s h => by
  have := name_1 (Γ := callF k) (b := 9) (by omega) (name_good h 0)
  have e : nameB (.str s) = true := h
  rw [e] at this
  exact this
theorem N3' (k : Nat) : N3 (callF (k + 2) 3) := fun ps h hb => by
  have l : ps.length ≤ 9 := by
    have hb := hb
    unfold namesB at hb
    simp only [Bool.and_eq_true, decide_eq_true_eq, List.length_map] at hb
    omega
  have g : good 9 1 (.tup (ps.map D.str)) := ⟨by rw [List.length_map]; exact l, fun x hx => by
    obtain ⟨s, hs, rfl⟩ := List.mem_map.mp hx
    exact name_good (h s hs) 0⟩
  have := names_3 (Γ := callF (k + 1)) (few := 1) (many := 4) (fun d n h => name_1 (Γ := callF k) (by omega) h) (fun xs h hl => rise_2 (Γ := callF k) h hl) (by omega) g
  rw [hb] at this
  exact this
theorem R55' (k : Nat) : R55 (callF (k + 3) 55) := row_55 (W0' (k + 1)) (N1' (k + 1)) (N3' k) (two_54 (N1' k))
theorem R114' (k : Nat) : R114 (callF (k + 6) 114) := course_114 (need_58 (rows_57 (R55' k) (numbers_56 (Γ := callF (k + 2))))) (course_59 (Γ := callF (k + 4)))
theorem law_true (ns : List Int) (hl : ns.length ≤ 63) : callF 40 139 [(.fz, .scr ns)] = .ret (.fz, .bl true) [] := by
  have r114 : R114 (callF 39 114) := R114' 33
  exact FnP.eq ((law_139 (Γ := callF 39) (D6 38) (Ca 33) r114 (order_130 (D7 37)) ns hl).mono fun r o h => h)
end LW

namespace LW
open PySem PySem.Spec PyProof.Rows L2 TB
def top (i : Nat) : Stmt := PySem.Challenge.pw_tuckbook_k07_the_course_of_rows.main.body.getD i (.Pass ⟨0, 0, 0, 0⟩)
abbrev a_0 (K : PySem.W.Frag) : Addr := He.ga K "is_within"
abbrev a_1 (K : PySem.W.Frag) : Addr := He.ga K "is_name"
abbrev a_2 (K : PySem.W.Frag) : Addr := He.ga K "are_rising"
abbrev a_3 (K : PySem.W.Frag) : Addr := He.ga K "are_names"
abbrev a_54 (K : PySem.W.Frag) : Addr := He.ga K "are_two"
abbrev a_55 (K : PySem.W.Frag) : Addr := He.ga K "is_row"
abbrev a_56 (K : PySem.W.Frag) : Addr := He.ga K "numbers_in"
abbrev a_57 (K : PySem.W.Frag) : Addr := He.ga K "are_rows"
abbrev a_58 (K : PySem.W.Frag) : Addr := He.ga K "need_rows"
abbrev a_59 (K : PySem.W.Frag) : Addr := He.ga K "in_course"
abbrev a_114 (K : PySem.W.Frag) : Addr := He.ga K "course_of"
abbrev a_6 (K : PySem.W.Frag) : Addr := He.ga K "_law_draws"
abbrev a_7 (K : PySem.W.Frag) : Addr := He.ga K "_law_draw"
abbrev a_11 (K : PySem.W.Frag) : Addr := He.ga K "_law_names"
abbrev a_8 (K : PySem.W.Frag) : Addr := He.ga K "_law_some"
abbrev a_9 (K : PySem.W.Frag) : Addr := He.ga K "_law_rule"
abbrev a_10 (K : PySem.W.Frag) : Addr := He.ga K "_law_book"
abbrev a_107 (K : PySem.W.Frag) : Addr := He.ga K "_law_shop"
abbrev a_130 (K : PySem.W.Frag) : Addr := He.ga K "_law_any_order"
abbrev a_131 (K : PySem.W.Frag) : Addr := He.ga K "_law_rows"
abbrev a_132 (K : PySem.W.Frag) : Addr := He.ga K "_law_case"
abbrev a_139 (K : PySem.W.Frag) : Addr := He.ga K "law"
structure EV (K : PySem.W.Frag) (mg : Str → Option Value) (fd : Nat → FuncData) (w : World) : Prop where
  d_0 : FunD K "is_within" "is_within" (defArgs (top 7)) (defBody (top 7)) (defScope (top 7)) [] [] (a_0 K) (fd 0)
  g_0 : mg "is_within" = some (.ref (a_0 K))
  d_1 : FunD K "is_name" "is_name" (defArgs (top 8)) (defBody (top 8)) (defScope (top 8)) [] [] (a_1 K) (fd 1)
  g_1 : mg "is_name" = some (.ref (a_1 K))
  d_2 : FunD K "are_rising" "are_rising" (defArgs (top 9)) (defBody (top 9)) (defScope (top 9)) [] [] (a_2 K) (fd 2)
  g_2 : mg "are_rising" = some (.ref (a_2 K))
  d_3 : FunD K "are_names" "are_names" (defArgs (top 10)) (defBody (top 10)) (defScope (top 10)) [] [] (a_3 K) (fd 3)
  g_3 : mg "are_names" = some (.ref (a_3 K))
  d_54 : FunD K "are_two" "are_two" (defArgs (top 17)) (defBody (top 17)) (defScope (top 17)) [] [] (a_54 K) (fd 54)
  g_54 : mg "are_two" = some (.ref (a_54 K))
  d_55 : FunD K "is_row" "is_row" (defArgs (top 18)) (defBody (top 18)) (defScope (top 18)) [] [] (a_55 K) (fd 55)
  g_55 : mg "is_row" = some (.ref (a_55 K))
  d_56 : FunD K "numbers_in" "numbers_in" (defArgs (top 19)) (defBody (top 19)) (defScope (top 19)) [] [] (a_56 K) (fd 56)
  g_56 : mg "numbers_in" = some (.ref (a_56 K))
  d_57 : FunD K "are_rows" "are_rows" (defArgs (top 20)) (defBody (top 20)) (defScope (top 20)) [] [] (a_57 K) (fd 57)
  g_57 : mg "are_rows" = some (.ref (a_57 K))
  d_58 : FunD K "need_rows" "need_rows" (defArgs (top 21)) (defBody (top 21)) (defScope (top 21)) [] [] (a_58 K) (fd 58)
  g_58 : mg "need_rows" = some (.ref (a_58 K))
  d_59 : FunD K "in_course" "in_course" (defArgs (top 22)) (defBody (top 22)) (defScope (top 22)) [] [] (a_59 K) (fd 59)
  g_59 : mg "in_course" = some (.ref (a_59 K))
  d_114 : FunD K "course_of" "course_of" (defArgs (top 23)) (defBody (top 23)) (defScope (top 23)) [] [] (a_114 K) (fd 114)
  g_114 : mg "course_of" = some (.ref (a_114 K))
  d_6 : FunD K "_law_draws" "_law_draws" (defArgs (top 25)) (defBody (top 25)) (defScope (top 25)) [] [] (a_6 K) (fd 6)
  g_6 : mg "_law_draws" = some (.ref (a_6 K))
  d_7 : FunD K "_law_draw" "_law_draw" (defArgs (top 26)) (defBody (top 26)) (defScope (top 26)) [] [] (a_7 K) (fd 7)
  g_7 : mg "_law_draw" = some (.ref (a_7 K))
  d_11 : FunD K "_law_names" "_law_names" (defArgs (top 27)) (defBody (top 27)) (defScope (top 27)) [] [] (a_11 K) (fd 11)
  g_11 : mg "_law_names" = some (.ref (a_11 K))
  d_8 : FunD K "_law_some" "_law_some" (defArgs (top 28)) (defBody (top 28)) (defScope (top 28)) [] [] (a_8 K) (fd 8)
  g_8 : mg "_law_some" = some (.ref (a_8 K))
  d_9 : FunD K "_law_rule" "_law_rule" (defArgs (top 29)) (defBody (top 29)) (defScope (top 29)) [] [] (a_9 K) (fd 9)
  g_9 : mg "_law_rule" = some (.ref (a_9 K))
  d_10 : FunD K "_law_book" "_law_book" (defArgs (top 30)) (defBody (top 30)) (defScope (top 30)) [] [] (a_10 K) (fd 10)
  g_10 : mg "_law_book" = some (.ref (a_10 K))
  d_107 : FunD K "_law_shop" "_law_shop" (defArgs (top 31)) (defBody (top 31)) (defScope (top 31)) [] [] (a_107 K) (fd 107)
  g_107 : mg "_law_shop" = some (.ref (a_107 K))
  d_130 : FunD K "_law_any_order" "_law_any_order" (defArgs (top 32)) (defBody (top 32)) (defScope (top 32)) [] [] (a_130 K) (fd 130)
  g_130 : mg "_law_any_order" = some (.ref (a_130 K))
  d_131 : FunD K "_law_rows" "_law_rows" (defArgs (top 33)) (defBody (top 33)) (defScope (top 33)) [] [] (a_131 K) (fd 131)
  g_131 : mg "_law_rows" = some (.ref (a_131 K))
  d_132 : FunD K "_law_case" "_law_case" (defArgs (top 34)) (defBody (top 34)) (defScope (top 34)) [] [] (a_132 K) (fd 132)
  g_132 : mg "_law_case" = some (.ref (a_132 K))
  d_139 : FunD K "law" "law" (defArgs (top 35)) (defBody (top 35)) (defScope (top 35)) [] [] (a_139 K) (fd 139)
  g_139 : mg "law" = some (.ref (a_139 K))
  n_all : mg "all" = none
  n_bool : mg "bool" = none
  n_int : mg "int" = none
  n_isinstance : mg "isinstance" = none
  n_len : mg "len" = none
  n_list : mg "list" = none
  n_max : mg "max" = none
  n_min : mg "min" = none
  n_range : mg "range" = none
  n_set : mg "set" = none
  n_sorted : mg "sorted" = none
  n_str : mg "str" = none
  n_tuple : mg "tuple" = none
  m_LENGTHS : mg "LENGTHS" = some (.ref (He.ga K "LENGTHS"))
  t_LENGTHS : KTabI K w (He.ga K "LENGTHS") [([119, 114, 111, 110, 103], 5), ([112, 97, 105, 100], 4), ([98, 97, 99, 107], 5), ([108, 101, 110, 116], 5), ([98, 111, 117, 103, 104, 116], 6)]
  c_LETTERS : ∃ t, mg "LETTERS" = some (.str "abcdefghijklmnopqrstuvwxyz" t)
  c_MOST_DAY : ∃ t, mg "MOST_DAY" = some (.int 1000000 t)
  c_MOST_NUMBER : ∃ t, mg "MOST_NUMBER" = some (.int 1000000 t)
  c_MOST_PENCE : ∃ t, mg "MOST_PENCE" = some (.int 1000000 t)
  c_MOST_ROWS : ∃ t, mg "MOST_ROWS" = some (.int 200 t)
  m_WORDS : mg "WORDS" = some (.ref (He.ga K "WORDS"))
  t_WORDS : KTupS K (He.ga K "WORDS") [[119, 114, 111, 110, 103], [112, 97, 105, 100], [98, 97, 99, 107], [108, 101, 110, 116], [98, 111, 117, 103, 104, 116]]
abbrev Gc (K : PySem.W.Frag) (w : World) : Cfg := { K := K, ca := fun _ => 0, cn := fun _ => [], fa := fun _ => 0, w := w }
structure OKS (P : Program) (w : World) (K : PySem.W.Frag) (mg : Str → Option Value) (base : Heap) (fd : Nat → FuncData) (k : Nat) : Prop where
  o_0 : FnOk P w K mg base (L2.CX P w) k (a_0 K) (fd 0) ["thing", "low", "high"] (spF (Gc K w) 3 (callF k 0))
  o_1 : FnOk P w K mg base (L2.CX P w) k (a_1 K) (fd 1) ["thing"] (spF (Gc K w) 1 (callF k 1))
  o_2 : FnOk P w K mg base (L2.CX P w) k (a_2 K) (fd 2) ["some"] (spF (Gc K w) 1 (callF k 2))
  o_3 : FnOk P w K mg base (L2.CX P w) k (a_3 K) (fd 3) ["thing", "few", "many"] (spF (Gc K w) 3 (callF k 3))
  o_54 : FnOk P w K mg base (L2.CX P w) k (a_54 K) (fd 54) ["one", "other"] (spF (Gc K w) 2 (callF k 54))
  o_55 : FnOk P w K mg base (L2.CX P w) k (a_55 K) (fd 55) ["thing"] (spF (Gc K w) 1 (callF k 55))
  o_56 : FnOk P w K mg base (L2.CX P w) k (a_56 K) (fd 56) ["rows"] (spF (Gc K w) 1 (callF k 56))
  o_57 : FnOk P w K mg base (L2.CX P w) k (a_57 K) (fd 57) ["thing"] (spF (Gc K w) 1 (callF k 57))
  o_58 : FnOk P w K mg base (L2.CX P w) k (a_58 K) (fd 58) ["rows"] (spF (Gc K w) 1 (callF k 58))
  o_59 : FnOk P w K mg base (L2.CX P w) k (a_59 K) (fd 59) ["rows"] (spF (Gc K w) 1 (callF k 59))
  o_114 : FnOk P w K mg base (L2.CX P w) k (a_114 K) (fd 114) ["rows"] (spF (Gc K w) 1 (callF k 114))
  o_6 : FnOk P w K mg base (L2.CX P w) k (a_6 K) (fd 6) ["_law_script", "_law_k"] (spF (Gc K w) 2 (callF k 6))
  o_7 : FnOk P w K mg base (L2.CX P w) k (a_7 K) (fd 7) ["_law_draws_here", "_law_many"] (spF (Gc K w) 2 (callF k 7))
  o_11 : FnOk P w K mg base (L2.CX P w) k (a_11 K) (fd 11) ["_law_draws_here", "_law_many"] (spF (Gc K w) 2 (callF k 11))
  o_8 : FnOk P w K mg base (L2.CX P w) k (a_8 K) (fd 8) ["_law_draws_here", "_law_names_here", "_law_most"] (spF (Gc K w) 3 (callF k 8))
  o_9 : FnOk P w K mg base (L2.CX P w) k (a_9 K) (fd 9) ["_law_draws_here", "_law_kinds", "_law_pupils", "_law_far"] (spF (Gc K w) 4 (callF k 9))
  o_10 : FnOk P w K mg base (L2.CX P w) k (a_10 K) (fd 10) ["_law_draws_here", "_law_kinds", "_law_pupils"] (spF (Gc K w) 3 (callF k 10))
  o_107 : FnOk P w K mg base (L2.CX P w) k (a_107 K) (fd 107) ["_law_draws_here", "_law_kinds", "_law_pupils"] (spF (Gc K w) 3 (callF k 107))
  o_130 : FnOk P w K mg base (L2.CX P w) k (a_130 K) (fd 130) ["_law_draws_here", "_law_many"] (spF (Gc K w) 2 (callF k 130))
  o_131 : FnOk P w K mg base (L2.CX P w) k (a_131 K) (fd 131) ["_law_draws_here", "_law_kinds", "_law_pupils", "_law_many"] (spF (Gc K w) 4 (callF k 131))
  o_132 : FnOk P w K mg base (L2.CX P w) k (a_132 K) (fd 132) ["_law_draws_here"] (spF (Gc K w) 1 (callF k 132))
  o_139 : FnOk P w K mg base (L2.CX P w) k (a_139 K) (fd 139) ["_law_script"] (spF (Gc K w) 1 (callF k 139))
section
variable {P : Program} {w : World} {K : PySem.W.Frag} {mg : Str → Option Value} {base : Heap} {fd : Nat → FuncData} {k : Nat}
theorem C_LETTERS {X : Cx} {G : Cfgx} {W : WX} {pos : Pos} (V : EV X.K X.mg fd w) (hg : Gl X "LETTERS" := by rfl) : TrE X G W (.Name "LETTERS" pos) (eCon (.str [97, 98, 99, 100, 101, 102, 103, 104, 105, 106, 107, 108, 109, 110, 111, 112, 113, 114, 115, 116, 117, 118, 119, 120, 121, 122])) := by
  obtain ⟨t, e⟩ := V.c_LETTERS
  exact tr_glob (v := .str "abcdefghijklmnopqrstuvwxyz") e ⟨t, rfl⟩ (fun F => .str _) hg
theorem C_MOST_DAY {X : Cx} {G : Cfgx} {W : WX} {pos : Pos} (V : EV X.K X.mg fd w) (hg : Gl X "MOST_DAY" := by rfl) : TrE X G W (.Name "MOST_DAY" pos) (eCon (.int 1000000)) := by
  obtain ⟨t, e⟩ := V.c_MOST_DAY
  exact tr_glob (v := .int 1000000) e ⟨t, rfl⟩ (fun F => .int _) hg
theorem C_MOST_NUMBER {X : Cx} {G : Cfgx} {W : WX} {pos : Pos} (V : EV X.K X.mg fd w) (hg : Gl X "MOST_NUMBER" := by rfl) : TrE X G W (.Name "MOST_NUMBER" pos) (eCon (.int 1000000)) := by
  obtain ⟨t, e⟩ := V.c_MOST_NUMBER
  exact tr_glob (v := .int 1000000) e ⟨t, rfl⟩ (fun F => .int _) hg
theorem C_MOST_PENCE {X : Cx} {G : Cfgx} {W : WX} {pos : Pos} (V : EV X.K X.mg fd w) (hg : Gl X "MOST_PENCE" := by rfl) : TrE X G W (.Name "MOST_PENCE" pos) (eCon (.int 1000000)) := by
  obtain ⟨t, e⟩ := V.c_MOST_PENCE
  exact tr_glob (v := .int 1000000) e ⟨t, rfl⟩ (fun F => .int _) hg
theorem C_MOST_ROWS {X : Cx} {G : Cfgx} {W : WX} {pos : Pos} (V : EV X.K X.mg fd w) (hg : Gl X "MOST_ROWS" := by rfl) : TrE X G W (.Name "MOST_ROWS" pos) (eCon (.int 200)) := by
  obtain ⟨t, e⟩ := V.c_MOST_ROWS
  exact tr_glob (v := .int 200) e ⟨t, rfl⟩ (fun F => .int _) hg
theorem b_0 (V : EV K mg fd w) : Binds K (fd 0) ["thing", "low", "high"] [] := V.d_0.bindsN fun _ _ _ _ _ _ us hl => match us, hl with | [_, _, _], _ => rfl
theorem b_1 (V : EV K mg fd w) : Binds K (fd 1) ["thing"] [] := V.d_1.bindsN fun _ _ _ _ _ _ us hl => match us, hl with | [_], _ => rfl
theorem b_2 (V : EV K mg fd w) : Binds K (fd 2) ["some"] [] := V.d_2.bindsN fun _ _ _ _ _ _ us hl => match us, hl with | [_], _ => rfl
theorem b_3 (V : EV K mg fd w) : Binds K (fd 3) ["thing", "few", "many"] [] := V.d_3.bindsN fun _ _ _ _ _ _ us hl => match us, hl with | [_, _, _], _ => rfl
theorem b_54 (V : EV K mg fd w) : Binds K (fd 54) ["one", "other"] [] := V.d_54.bindsN fun _ _ _ _ _ _ us hl => match us, hl with | [_, _], _ => rfl
theorem b_55 (V : EV K mg fd w) : Binds K (fd 55) ["thing"] [] := V.d_55.bindsN fun _ _ _ _ _ _ us hl => match us, hl with | [_], _ => rfl
theorem b_56 (V : EV K mg fd w) : Binds K (fd 56) ["rows"] [] := V.d_56.bindsN fun _ _ _ _ _ _ us hl => match us, hl with | [_], _ => rfl
theorem b_57 (V : EV K mg fd w) : Binds K (fd 57) ["thing"] [] := V.d_57.bindsN fun _ _ _ _ _ _ us hl => match us, hl with | [_], _ => rfl
theorem b_58 (V : EV K mg fd w) : Binds K (fd 58) ["rows"] [] := V.d_58.bindsN fun _ _ _ _ _ _ us hl => match us, hl with | [_], _ => rfl
theorem b_59 (V : EV K mg fd w) : Binds K (fd 59) ["rows"] [] := V.d_59.bindsN fun _ _ _ _ _ _ us hl => match us, hl with | [_], _ => rfl
theorem b_114 (V : EV K mg fd w) : Binds K (fd 114) ["rows"] [] := V.d_114.bindsN fun _ _ _ _ _ _ us hl => match us, hl with | [_], _ => rfl
theorem b_6 (V : EV K mg fd w) : Binds K (fd 6) ["_law_script", "_law_k"] [] := V.d_6.bindsN fun _ _ _ _ _ _ us hl => match us, hl with | [_, _], _ => rfl
theorem b_7 (V : EV K mg fd w) : Binds K (fd 7) ["_law_draws_here", "_law_many"] [] := V.d_7.bindsN fun _ _ _ _ _ _ us hl => match us, hl with | [_, _], _ => rfl
theorem b_11 (V : EV K mg fd w) : Binds K (fd 11) ["_law_draws_here", "_law_many"] [] := V.d_11.bindsN fun _ _ _ _ _ _ us hl => match us, hl with | [_, _], _ => rfl
theorem b_8 (V : EV K mg fd w) : Binds K (fd 8) ["_law_draws_here", "_law_names_here", "_law_most"] [] := V.d_8.bindsN fun _ _ _ _ _ _ us hl => match us, hl with | [_, _, _], _ => rfl
theorem b_9 (V : EV K mg fd w) : Binds K (fd 9) ["_law_draws_here", "_law_kinds", "_law_pupils", "_law_far"] [] := V.d_9.bindsN fun _ _ _ _ _ _ us hl => match us, hl with | [_, _, _, _], _ => rfl
theorem b_10 (V : EV K mg fd w) : Binds K (fd 10) ["_law_draws_here", "_law_kinds", "_law_pupils"] [] := V.d_10.bindsN fun _ _ _ _ _ _ us hl => match us, hl with | [_, _, _], _ => rfl
theorem b_107 (V : EV K mg fd w) : Binds K (fd 107) ["_law_draws_here", "_law_kinds", "_law_pupils"] [] := V.d_107.bindsN fun _ _ _ _ _ _ us hl => match us, hl with | [_, _, _], _ => rfl
theorem b_130 (V : EV K mg fd w) : Binds K (fd 130) ["_law_draws_here", "_law_many"] [] := V.d_130.bindsN fun _ _ _ _ _ _ us hl => match us, hl with | [_, _], _ => rfl
theorem b_131 (V : EV K mg fd w) : Binds K (fd 131) ["_law_draws_here", "_law_kinds", "_law_pupils", "_law_many"] [] := V.d_131.bindsN fun _ _ _ _ _ _ us hl => match us, hl with | [_, _, _, _], _ => rfl
theorem b_132 (V : EV K mg fd w) : Binds K (fd 132) ["_law_draws_here"] [] := V.d_132.bindsN fun _ _ _ _ _ _ us hl => match us, hl with | [_], _ => rfl
theorem b_139 (V : EV K mg fd w) : Binds K (fd 139) ["_law_script"] [] := V.d_139.bindsN fun _ _ _ _ _ _ us hl => match us, hl with | [_], _ => rfl
theorem sc_0 : FnScope ["thing", "low", "high"] ["thing", "low", "high"] (defScope (top 7)) := ⟨rfl, rfl, rfl, by decide +kernel, rfl, by decide +kernel, by decide +kernel⟩
theorem ok_0 (V : EV K mg fd w) (IH : OKS P w K mg base fd k) : FnOk P w K mg base (L2.CX P w) (k + 1) (a_0 K) (fd 0) ["thing", "low", "high"] (spF (Gc K w) 3 (runF 3 [] (mb_0 (callF k)))) :=
  fn_ok (P := P) (w := w) (G := Gc K w) (mg := mg) (base := base) (k := k) (N := ["thing", "low", "high"]) (ps := ["thing", "low", "high"]) (m := mb_0 (callF k)) [] V.d_0 sc_0 (by rfl) fun cdv A outer s H E σ (C : Cok (cxF P w K mg base ["thing", "low", "high"] "is_within" (defScope (top 7)) (a_0 K) cdv A outer s H E) (pinG (Gc K w) [] σ) _ k) =>
    (ts_one (tr_ret (tr_and (tr_isi .int C (tr_var 0) V.n_isinstance V.n_int (by rfl)) (tr_and (tr_not (tr_isi .bool C (tr_var 0) V.n_isinstance V.n_bool (by rfl))) (tr_one (tr_LtE_LtE C (tr_var 1) (tr_var 0) (tr_var 2)))))))
theorem sc_1 : FnScope ["thing", "sign"] ["thing"] (defScope (top 8)) := ⟨rfl, rfl, rfl, by decide +kernel, rfl, by decide +kernel, by decide +kernel⟩
theorem ok_1 (V : EV K mg fd w) (IH : OKS P w K mg base fd k) : FnOk P w K mg base (L2.CX P w) (k + 1) (a_1 K) (fd 1) ["thing"] (spF (Gc K w) 1 (runF 2 [] (mb_1 (callF k)))) :=
  fn_ok (P := P) (w := w) (G := Gc K w) (mg := mg) (base := base) (k := k) (N := ["thing", "sign"]) (ps := ["thing"]) (m := mb_1 (callF k)) [] V.d_1 sc_1 (by rfl) fun cdv A outer s H E σ (C : Cok (cxF P w K mg base ["thing", "sign"] "is_name" (defScope (top 8)) (a_1 K) cdv A outer s H E) (pinG (Gc K w) [] σ) _ k) =>
    (ts_one (tr_ret (tr_and (tr_isi .str C (tr_var 0) V.n_isinstance V.n_str (by rfl)) (tr_and (tr_LtE_LtE C tr_int (tr_b_len C V.n_len rfl (tra_cons (tr_var 0) tra_nil)) tr_int) (tr_one (tr_b_all C V.n_all rfl (tra_cons (tr_lc (own := [("sign", 1)]) C (ti_str (tr_var 0)) (blkOk_by (by rfl)) (fun _ _ _ _ _ => have ND := C.nd; have CG := C; (tg_nm 1 ND)) (fun _ _ _ _ _ C => tts_nil) (fun _ _ _ _ _ C => (tr_In C (tr_var 1) (C_LETTERS V)))) tra_nil)))))))
theorem sc_2 : FnScope ["some", "k"] ["some"] (defScope (top 9)) := ⟨rfl, rfl, rfl, by decide +kernel, rfl, by decide +kernel, by decide +kernel⟩
theorem ok_2 (V : EV K mg fd w) (IH : OKS P w K mg base fd k) : FnOk P w K mg base (L2.CX P w) (k + 1) (a_2 K) (fd 2) ["some"] (spF (Gc K w) 1 (runF 2 [] (mb_2 (callF k)))) :=
  fn_ok (P := P) (w := w) (G := Gc K w) (mg := mg) (base := base) (k := k) (N := ["some", "k"]) (ps := ["some"]) (m := mb_2 (callF k)) [] V.d_2 sc_2 (by rfl) fun cdv A outer s H E σ (C : Cok (cxF P w K mg base ["some", "k"] "are_rising" (defScope (top 9)) (a_2 K) cdv A outer s H E) (pinG (Gc K w) [] σ) _ k) =>
    (ts_one (tr_ret (tr_b_all C V.n_all rfl (tra_cons (tr_lc (own := [("k", 1)]) C (ti_range2 tr_int (tr_b_len C V.n_len rfl (tra_cons (tr_var 0) tra_nil)) V.n_range) (blkOk_by (by rfl)) (fun _ _ _ _ _ => have ND := C.nd; have CG := C; (tg_nm 1 ND)) (fun _ _ _ _ _ C => tts_nil) (fun _ _ _ _ _ C => (tr_Lt C (tr_Ix C (tr_var 0) (tr_Sub C (tr_var 1) tr_int)) (tr_Ix C (tr_var 0) (tr_var 1))))) tra_nil))))
theorem sc_3 : FnScope ["thing", "few", "many", "name"] ["thing", "few", "many"] (defScope (top 10)) := ⟨rfl, rfl, rfl, by decide +kernel, rfl, by decide +kernel, by decide +kernel⟩
theorem ok_3 (V : EV K mg fd w) (IH : OKS P w K mg base fd k) : FnOk P w K mg base (L2.CX P w) (k + 1) (a_3 K) (fd 3) ["thing", "few", "many"] (spF (Gc K w) 3 (runF 4 [] (mb_3 (callF k)))) :=
  fn_ok (P := P) (w := w) (G := Gc K w) (mg := mg) (base := base) (k := k) (N := ["thing", "few", "many", "name"]) (ps := ["thing", "few", "many"]) (m := mb_3 (callF k)) [] V.d_3 sc_3 (by rfl) fun cdv A outer s H E σ (C : Cok (cxF P w K mg base ["thing", "few", "many", "name"] "are_names" (defScope (top 10)) (a_3 K) cdv A outer s H E) (pinG (Gc K w) [] σ) _ k) =>
    (ts_cons (tr_ifS (tt_w (tw_or (tt_not (tt_val (tr_isi .tuple C (tr_var 0) V.n_isinstance V.n_tuple (by rfl)))) (tw_or1 (tt_not (tt_LtE_LtE C (tr_var 1) (tr_b_len C V.n_len rfl (tra_cons (tr_var 0) tra_nil)) (tr_var 2)))))) (ts_one (tr_ret tr_bl)) ts_nil) (ts_one (tr_ret (tr_and (tr_b_all C V.n_all rfl (tra_cons (tr_lc (own := [("name", 3)]) C (ti_seq C (tr_var 0)) (blkOk_by (by rfl)) (fun _ _ _ _ _ => have ND := C.nd; have CG := C; (tg_nm 3 ND)) (fun _ _ _ _ _ C => tts_nil) (fun _ _ _ _ _ C => (tr_call C IH.o_1 V.g_1 V.d_1.kp (b_1 V) (tar_v (tr_var 3) tar_nil)))) tra_nil)) (tr_one (tr_call C IH.o_2 V.g_2 V.d_2.kp (b_2 V) (tar_v (tr_var 0) tar_nil)))))))
theorem sc_54 : FnScope ["one", "other"] ["one", "other"] (defScope (top 17)) := ⟨rfl, rfl, rfl, by decide +kernel, rfl, by decide +kernel, by decide +kernel⟩
theorem ok_54 (V : EV K mg fd w) (IH : OKS P w K mg base fd k) : FnOk P w K mg base (L2.CX P w) (k + 1) (a_54 K) (fd 54) ["one", "other"] (spF (Gc K w) 2 (runF 2 [] (mb_54 (callF k)))) :=
  fn_ok (P := P) (w := w) (G := Gc K w) (mg := mg) (base := base) (k := k) (N := ["one", "other"]) (ps := ["one", "other"]) (m := mb_54 (callF k)) [] V.d_54 sc_54 (by rfl) fun cdv A outer s H E σ (C : Cok (cxF P w K mg base ["one", "other"] "are_two" (defScope (top 17)) (a_54 K) cdv A outer s H E) (pinG (Gc K w) [] σ) _ k) =>
    (ts_one (tr_ret (tr_and (tr_call C IH.o_1 V.g_1 V.d_1.kp (b_1 V) (tar_v (tr_var 0) tar_nil)) (tr_and (tr_call C IH.o_1 V.g_1 V.d_1.kp (b_1 V) (tar_v (tr_var 1) tar_nil)) (tr_one (tr_NotEq C (tr_var 0) (tr_var 1)))))))
theorem sc_55 : FnScope ["thing"] ["thing"] (defScope (top 18)) := ⟨rfl, rfl, rfl, by decide +kernel, rfl, by decide +kernel, by decide +kernel⟩
theorem ok_55 (V : EV K mg fd w) (IH : OKS P w K mg base fd k) : FnOk P w K mg base (L2.CX P w) (k + 1) (a_55 K) (fd 55) ["thing"] (spF (Gc K w) 1 (runF 1 [] (mb_55 (callF k)))) :=
  fn_ok (P := P) (w := w) (G := Gc K w) (mg := mg) (base := base) (k := k) (N := ["thing"]) (ps := ["thing"]) (m := mb_55 (callF k)) [] V.d_55 sc_55 (by rfl) fun cdv A outer s H E σ (C : Cok (cxF P w K mg base ["thing"] "is_row" (defScope (top 18)) (a_55 K) cdv A outer s H E) (pinG (Gc K w) [] σ) _ k) =>
    (ts_cons (tr_ifS (tt_w (tw_or (tt_not (tt_val (tr_isi .tuple C (tr_var 0) V.n_isinstance V.n_tuple (by rfl)))) (tw_or (tt_Lt C (tr_b_len C V.n_len rfl (tra_cons (tr_var 0) tra_nil)) tr_int) (tw_or1 (tt_not (tt_val (tr_isi .str C (tr_Ix C (tr_var 0) tr_int) V.n_isinstance V.n_str (by rfl)))))))) (ts_one (tr_ret tr_bl)) ts_nil) (ts_cons (tr_ifS (tt_w (tw_or (tt_NotEq C (tr_getC [([119, 114, 111, 110, 103], 5), ([112, 97, 105, 100], 4), ([98, 97, 99, 107], 5), ([108, 101, 110, 116], 5), ([98, 111, 117, 103, 104, 116], 6)] C V.m_LENGTHS V.t_LENGTHS (tr_Ix C (tr_var 0) tr_int) tr_int) (tr_b_len C V.n_len rfl (tra_cons (tr_var 0) tra_nil))) (tw_or1 (tt_not (tt_val (tr_call C IH.o_0 V.g_0 V.d_0.kp (b_0 V) (tar_v (tr_Ix C (tr_var 0) tr_int) (tar_v tr_int (tar_v (C_MOST_DAY V) tar_nil))))))))) (ts_one (tr_ret tr_bl)) ts_nil) (ts_cons (tr_ifS (tt_Eq C (tr_Ix C (tr_var 0) tr_int) (tr_str [119, 114, 111, 110, 103])) (ts_one (tr_ret (tr_and (tr_call C IH.o_0 V.g_0 V.d_0.kp (b_0 V) (tar_v (tr_Ix C (tr_var 0) tr_int) (tar_v tr_int (tar_v (C_MOST_NUMBER V) tar_nil)))) (tr_one (tr_call C IH.o_54 V.g_54 V.d_54.kp (b_54 V) (tar_v (tr_Ix C (tr_var 0) tr_int) (tar_v (tr_Ix C (tr_var 0) tr_int) tar_nil))))))) ts_nil) (ts_cons (tr_ifS (tt_Eq C (tr_Ix C (tr_var 0) tr_int) (tr_str [112, 97, 105, 100])) (ts_one (tr_ret (tr_and (tr_call C IH.o_1 V.g_1 V.d_1.kp (b_1 V) (tar_v (tr_Ix C (tr_var 0) tr_int) tar_nil)) (tr_one (tr_call C IH.o_0 V.g_0 V.d_0.kp (b_0 V) (tar_v (tr_Ix C (tr_var 0) tr_int) (tar_v tr_int (tar_v (C_MOST_PENCE V) tar_nil)))))))) ts_nil) (ts_cons (tr_ifS (tt_Eq C (tr_Ix C (tr_var 0) tr_int) (tr_str [98, 111, 117, 103, 104, 116])) (ts_cons (tr_ifS (tt_w (tw_or (tt_not (tt_val (tr_call C IH.o_0 V.g_0 V.d_0.kp (b_0 V) (tar_v (tr_Ix C (tr_var 0) tr_int) (tar_v tr_int (tar_v (C_MOST_NUMBER V) tar_nil)))))) (tw_or (tt_not (tt_val (tr_call C IH.o_3 V.g_3 V.d_3.kp (b_3 V) (tar_v (tr_Ix C (tr_var 0) tr_int) (tar_v tr_int (tar_v tr_int tar_nil)))))) (tw_or1 (tt_not (tt_val (tr_call C IH.o_1 V.g_1 V.d_1.kp (b_1 V) (tar_v (tr_Ix C (tr_var 0) tr_int) tar_nil)))))))) (ts_one (tr_ret tr_bl)) ts_nil) (ts_one (tr_ret (tr_call C IH.o_0 V.g_0 V.d_0.kp (b_0 V) (tar_v (tr_Ix C (tr_var 0) tr_int) (tar_v (tr_b_len C V.n_len rfl (tra_cons (tr_Ix C (tr_var 0) tr_int) tra_nil)) (tar_v (C_MOST_PENCE V) tar_nil))))))) ts_nil) (ts_one (tr_ret (tr_and (tr_call C IH.o_54 V.g_54 V.d_54.kp (b_54 V) (tar_v (tr_Ix C (tr_var 0) tr_int) (tar_v (tr_Ix C (tr_var 0) tr_int) tar_nil))) (tr_one (tr_call C IH.o_0 V.g_0 V.d_0.kp (b_0 V) (tar_v (tr_Ix C (tr_var 0) tr_int) (tar_v tr_int (tar_v (C_MOST_PENCE V) tar_nil)))))))))))))
theorem sc_56 : FnScope ["rows", "row"] ["rows"] (defScope (top 19)) := ⟨rfl, rfl, rfl, by decide +kernel, rfl, by decide +kernel, by decide +kernel⟩
theorem ok_56 (V : EV K mg fd w) (IH : OKS P w K mg base fd k) : FnOk P w K mg base (L2.CX P w) (k + 1) (a_56 K) (fd 56) ["rows"] (spF (Gc K w) 1 (runF 2 [] (mb_56 (callF k)))) :=
  fn_ok (P := P) (w := w) (G := Gc K w) (mg := mg) (base := base) (k := k) (N := ["rows", "row"]) (ps := ["rows"]) (m := mb_56 (callF k)) [] V.d_56 sc_56 (by rfl) fun cdv A outer s H E σ (C : Cok (cxF P w K mg base ["rows", "row"] "numbers_in" (defScope (top 19)) (a_56 K) cdv A outer s H E) (pinG (Gc K w) [] σ) _ k) =>
    (ts_one (tr_ret (tr_fr (tr_lc (own := [("row", 1)]) C (ti_seq C (tr_var 0)) (blkOk_by (by rfl)) (fun _ _ _ _ _ => have ND := C.nd; have CG := C; (tg_nm 1 ND)) (fun _ _ _ _ _ C => (tts_one (tt_Eq C (tr_Ix C (tr_var 1) tr_int) (tr_str [98, 111, 117, 103, 104, 116])))) (fun _ _ _ _ _ C => (tr_Ix C (tr_var 1) tr_int))))))
theorem sc_57 : FnScope ["thing", "numbers", "row"] ["thing"] (defScope (top 20)) := ⟨rfl, rfl, rfl, by decide +kernel, rfl, by decide +kernel, by decide +kernel⟩
theorem ok_57 (V : EV K mg fd w) (IH : OKS P w K mg base fd k) : FnOk P w K mg base (L2.CX P w) (k + 1) (a_57 K) (fd 57) ["thing"] (spF (Gc K w) 1 (runF 3 [] (mb_57 (callF k)))) :=
  fn_ok (P := P) (w := w) (G := Gc K w) (mg := mg) (base := base) (k := k) (N := ["thing", "numbers", "row"]) (ps := ["thing"]) (m := mb_57 (callF k)) [] V.d_57 sc_57 (by rfl) fun cdv A outer s H E σ (C : Cok (cxF P w K mg base ["thing", "numbers", "row"] "are_rows" (defScope (top 20)) (a_57 K) cdv A outer s H E) (pinG (Gc K w) [] σ) _ k) =>
    (ts_cons (tr_ifS (tt_w (tw_or (tt_not (tt_val (tr_isi .list C (tr_var 0) V.n_isinstance V.n_list (by rfl)))) (tw_or (tt_Gt C (tr_b_len C V.n_len rfl (tra_cons (tr_var 0) tra_nil)) (C_MOST_ROWS V)) (tw_or1 (tt_not (tt_val (tr_b_all C V.n_all rfl (tra_cons (tr_lc (own := [("row", 2)]) C (ti_seq C (tr_var 0)) (blkOk_by (by rfl)) (fun _ _ _ _ _ => have ND := C.nd; have CG := C; (tg_nm 2 ND)) (fun _ _ _ _ _ C => tts_nil) (fun _ _ _ _ _ C => (tr_call C IH.o_55 V.g_55 V.d_55.kp (b_55 V) (tar_v (tr_var 2) tar_nil)))) tra_nil)))))))) (ts_one (tr_ret tr_bl)) ts_nil) (ts_cons (tr_set 1 C (tr_call C IH.o_56 V.g_56 V.d_56.kp (b_56 V) (tar_v (tr_var 0) tar_nil))) (ts_one (tr_ret (tr_and (tr_Eq C (tr_lenSet C (tr_var 0) V.n_len V.n_set) (tr_b_len C V.n_len rfl (tra_cons (tr_var 0) tra_nil))) (tr_one (tr_Eq C (tr_lenSet C (tr_var 1) V.n_len V.n_set) (tr_b_len C V.n_len rfl (tra_cons (tr_var 1) tra_nil)))))))))
theorem sc_58 : FnScope ["rows"] ["rows"] (defScope (top 21)) := ⟨rfl, rfl, rfl, by decide +kernel, rfl, by decide +kernel, by decide +kernel⟩
theorem ok_58 (V : EV K mg fd w) (IH : OKS P w K mg base fd k) : FnOk P w K mg base (L2.CX P w) (k + 1) (a_58 K) (fd 58) ["rows"] (spF (Gc K w) 1 (runF 1 [] (mb_58 (callF k)))) :=
  fn_ok (P := P) (w := w) (G := Gc K w) (mg := mg) (base := base) (k := k) (N := ["rows"]) (ps := ["rows"]) (m := mb_58 (callF k)) [] V.d_58 sc_58 (by rfl) fun cdv A outer s H E σ (C : Cok (cxF P w K mg base ["rows"] "need_rows" (defScope (top 21)) (a_58 K) cdv A outer s H E) (pinG (Gc K w) [] σ) _ k) =>
    (ts_one (tr_ifS (tt_not (tt_val (tr_call C IH.o_57 V.g_57 V.d_57.kp (b_57 V) (tar_v (tr_var 0) tar_nil)))) (ts_one tr_badS) ts_nil))
theorem sc_59 : FnScope ["rows", "keyed", "row", "one"] ["rows"] (defScope (top 22)) := ⟨rfl, rfl, rfl, by decide +kernel, rfl, by decide +kernel, by decide +kernel⟩
theorem ok_59 (V : EV K mg fd w) (IH : OKS P w K mg base fd k) : FnOk P w K mg base (L2.CX P w) (k + 1) (a_59 K) (fd 59) ["rows"] (spF (Gc K w) 1 (runF 4 [] (mb_59 (callF k)))) :=
  fn_ok (P := P) (w := w) (G := Gc K w) (mg := mg) (base := base) (k := k) (N := ["rows", "keyed", "row", "one"]) (ps := ["rows"]) (m := mb_59 (callF k)) [] V.d_59 sc_59 (by rfl) fun cdv A outer s H E σ (C : Cok (cxF P w K mg base ["rows", "keyed", "row", "one"] "in_course" (defScope (top 22)) (a_59 K) cdv A outer s H E) (pinG (Gc K w) [] σ) _ k) =>
    (ts_cons (tr_setLcF 1 (own := [("row", 2)]) C (ti_seq C (tr_var 0)) (blkOk_by (by rfl)) (fun _ _ _ _ _ => have ND := C.nd; have CG := C; (tg_nm 2 ND)) (fun _ _ _ _ _ C => tts_nil) (fun _ _ _ _ _ C => (tr_tup (tra_cons (tr_b_int C V.n_int rfl (tra_cons (tr_NotEq C (tr_Ix C (tr_var 2) tr_int) (tr_str [119, 114, 111, 110, 103])) tra_nil)) (tra_cons (tr_Ix C (tr_var 2) tr_int) (tra_cons (tr_indexC [[119, 114, 111, 110, 103], [112, 97, 105, 100], [98, 97, 99, 107], [108, 101, 110, 116], [98, 111, 117, 103, 104, 116]] C V.m_WORDS V.t_WORDS (tr_Ix C (tr_var 2) tr_int)) (tra_cons (tr_var 2) tra_nil)))))) (by rfl)) (ts_one (tr_ret (tr_lc (own := [("one", 3)]) C (ti_seq C (tr_b_sortedB C V.n_sorted rfl rfl (tra_cons (tr_var 1) tra_nil))) (blkOk_by (by rfl)) (fun _ _ _ _ _ => have ND := C.nd; have CG := C; (tg_nm 3 ND)) (fun _ _ _ _ _ C => tts_nil) (fun _ _ _ _ _ C => (tr_Ix C (tr_var 3) tr_int))))))
theorem sc_114 : FnScope ["rows"] ["rows"] (defScope (top 23)) := ⟨rfl, rfl, rfl, by decide +kernel, rfl, by decide +kernel, by decide +kernel⟩
theorem ok_114 (V : EV K mg fd w) (IH : OKS P w K mg base fd k) : FnOk P w K mg base (L2.CX P w) (k + 1) (a_114 K) (fd 114) ["rows"] (spF (Gc K w) 1 (runF 1 [] (mb_114 (callF k)))) :=
  fn_ok (P := P) (w := w) (G := Gc K w) (mg := mg) (base := base) (k := k) (N := ["rows"]) (ps := ["rows"]) (m := mb_114 (callF k)) [] V.d_114 sc_114 (by rfl) fun cdv A outer s H E σ (C : Cok (cxF P w K mg base ["rows"] "course_of" (defScope (top 23)) (a_114 K) cdv A outer s H E) (pinG (Gc K w) [] σ) _ k) =>
    (ts_cons (tr_drop (tr_call C IH.o_58 V.g_58 V.d_58.kp (b_58 V) (tar_v (tr_var 0) tar_nil))) (ts_one (tr_ret (tr_call C IH.o_59 V.g_59 V.d_59.kp (b_59 V) (tar_v (tr_var 0) tar_nil)))))
theorem sc_6 : FnScope ["_law_script", "_law_k", "_law_cell"] ["_law_script", "_law_k"] (defScope (top 25)) := ⟨rfl, rfl, rfl, by decide +kernel, rfl, by decide +kernel, by decide +kernel⟩
theorem ok_6 (V : EV K mg fd w) (IH : OKS P w K mg base fd k) : FnOk P w K mg base (L2.CX P w) (k + 1) (a_6 K) (fd 6) ["_law_script", "_law_k"] (spF (Gc K w) 2 (runF 3 [] (mb_6 (callF k)))) :=
  fn_ok (P := P) (w := w) (G := Gc K w) (mg := mg) (base := base) (k := k) (N := ["_law_script", "_law_k", "_law_cell"]) (ps := ["_law_script", "_law_k"]) (m := mb_6 (callF k)) [] V.d_6 sc_6 (by rfl) fun cdv A outer s H E σ (C : Cok (cxF P w K mg base ["_law_script", "_law_k", "_law_cell"] "_law_draws" (defScope (top 25)) (a_6 K) cdv A outer s H E) (pinG (Gc K w) [] σ) _ k) =>
    (ts_cons (tr_set 2 C (tr_fr (tr_Mult C tr_int (tr_var 1)))) (ts_cons (tr_ifS (tt_Lt C (tr_var 1) (tr_b_len C V.n_len rfl (tra_cons (tr_var 0) tra_nil))) (ts_one (tr_set 2 C (tr_Mod C (tr_Ix C (tr_var 0) (tr_var 1)) (tr_Mult C (tr_Pow C tr_int tr_int) (tr_Pow C tr_int tr_int))))) (ts_one (tr_ifS (tt_Gt C (tr_b_len C V.n_len rfl (tra_cons (tr_var 0) tra_nil)) tr_int) (ts_one (tr_set 2 C (tr_fr (tr_Add C (tr_Mod C (tr_Ix C (tr_var 0) (tr_Mod C (tr_var 1) (tr_b_len C V.n_len rfl (tra_cons (tr_var 0) tra_nil)))) (tr_Pow C tr_int tr_int)) (tr_Mult C tr_int (tr_var 1)))))) ts_nil))) (ts_one (tr_ret (tr_lst (tra_cons (tr_Mult C (tr_var 2) (tr_b_int C V.n_int rfl (tra_cons (tr_GtE C (tr_var 2) (tr_Pow C tr_int tr_int)) tra_nil))) (tra_cons (tr_Add C tr_int (tr_Mod C (tr_Add C (tr_Mult C (tr_var 2) tr_int) (tr_Mult C tr_int (tr_Add C (tr_var 1) tr_int))) tr_int)) tra_nil)))))))
theorem sc_7 : FnScope ["_law_draws_here", "_law_many", "_law_found", "_law_wide"] ["_law_draws_here", "_law_many"] (defScope (top 26)) := ⟨rfl, rfl, rfl, by decide +kernel, rfl, by decide +kernel, by decide +kernel⟩
theorem ok_7 (V : EV K mg fd w) (IH : OKS P w K mg base fd k) : FnOk P w K mg base (L2.CX P w) (k + 1) (a_7 K) (fd 7) ["_law_draws_here", "_law_many"] (spF (Gc K w) 2 (runF 4 [0] (mb_7 (callF k)))) :=
  fn_ok (P := P) (w := w) (G := Gc K w) (mg := mg) (base := base) (k := k) (N := ["_law_draws_here", "_law_many", "_law_found", "_law_wide"]) (ps := ["_law_draws_here", "_law_many"]) (m := mb_7 (callF k)) [0] V.d_7 sc_7 (by rfl) fun cdv A outer s H E σ (C : Cok (cxF P w K mg base ["_law_draws_here", "_law_many", "_law_found", "_law_wide"] "_law_draw" (defScope (top 26)) (a_7 K) cdv A outer s H E) (pinG (Gc K w) [0] σ) _ k) =>
    (ts_cons (tr_ifS (tt_Gt C (tr_ixO 0 tr_int) tr_int) (ts_cons (tr_set 2 C (tr_Mod C (tr_ixO 0 tr_int) (tr_var 1))) (ts_cons (tr_setIx 0 (tr_FloorDiv C (tr_ixO 0 tr_int) (tr_var 1)) tr_int) (ts_one (tr_ret (tr_var 2))))) ts_nil) (ts_cons (tr_set 2 C tr_int) (ts_cons (tr_set 3 C tr_int) (ts_cons (tr_while 64 C (tt_Lt C (tr_var 3) (tr_var 1)) (ts_cons (tr_setIx 0 (tr_Mod C (tr_Mult C (tr_ixO 0 tr_int) tr_int) tr_int) tr_int) (ts_cons (tr_set 2 C (tr_fr (tr_Add C (tr_Mult C (tr_var 2) tr_int) (tr_FloorDiv C (tr_Mod C (tr_Mult C (tr_ixO 0 tr_int) (tr_Add C (tr_FloorDiv C (tr_ixO 0 tr_int) tr_int) tr_int)) tr_int) tr_int)))) (ts_one (tr_set 3 C (tr_fr (tr_Mult C (tr_var 3) tr_int))))))) (ts_one (tr_ret (tr_Mod C (tr_var 2) (tr_var 1))))))))
theorem sc_11 : FnScope ["_law_draws_here", "_law_many", "_law_letters", "_law_stem", "_law_first", "_law_step", "_law_k"] ["_law_draws_here", "_law_many"] (defScope (top 27)) := ⟨rfl, rfl, rfl, by decide +kernel, rfl, by decide +kernel, by decide +kernel⟩
theorem ok_11 (V : EV K mg fd w) (IH : OKS P w K mg base fd k) : FnOk P w K mg base (L2.CX P w) (k + 1) (a_11 K) (fd 11) ["_law_draws_here", "_law_many"] (spF (Gc K w) 2 (runF 7 [0] (mb_11 (callF k)))) :=
  fn_ok (P := P) (w := w) (G := Gc K w) (mg := mg) (base := base) (k := k) (N := ["_law_draws_here", "_law_many", "_law_letters", "_law_stem", "_law_first", "_law_step", "_law_k"]) (ps := ["_law_draws_here", "_law_many"]) (m := mb_11 (callF k)) [0] V.d_11 sc_11 (by rfl) fun cdv A outer s H E σ (C : Cok (cxF P w K mg base ["_law_draws_here", "_law_many", "_law_letters", "_law_stem", "_law_first", "_law_step", "_law_k"] "_law_names" (defScope (top 27)) (a_11 K) cdv A outer s H E) (pinG (Gc K w) [0] σ) _ k) =>
    (ts_cons (tr_set 2 C (tr_str [97, 98, 99, 100, 101, 102, 103, 104, 105, 106, 107, 108, 109, 110, 111, 112, 113, 114, 115, 116, 117, 118, 119, 120, 121, 122])) (ts_cons (tr_set 3 C (tr_join (tr_str []) (tr_lc (own := [("_law_k", 6)]) C (ti_range1 (tr_Ix C (tr_lst (tra_cons tr_int (tra_cons tr_int (tra_cons tr_int (tra_cons tr_int tra_nil))))) (tr_call C IH.o_7 V.g_7 V.d_7.kp (b_7 V) (tar_b 0 (tar_v tr_int tar_nil)))) V.n_range) (blkOk_by (by rfl)) (fun _ _ _ _ _ => have ND := C.nd; have CG := C; (tg_nm 6 ND)) (fun _ _ _ _ _ C => tts_nil) (fun _ _ _ _ _ C => (tr_Ix C (tr_var 2) (tr_call C IH.o_7 V.g_7 V.d_7.kp (b_7 V) (tar_b 0 (tar_v tr_int tar_nil)))))))) (ts_cons (tr_set 4 C (tr_call C IH.o_7 V.g_7 V.d_7.kp (b_7 V) (tar_b 0 (tar_v tr_int tar_nil)))) (ts_cons (tr_set 5 C (tr_Ix C (tr_lst (tra_cons tr_int (tra_cons tr_int (tra_cons tr_int (tra_cons tr_int tra_nil))))) (tr_call C IH.o_7 V.g_7 V.d_7.kp (b_7 V) (tar_b 0 (tar_v tr_int tar_nil))))) (ts_one (tr_ret (tr_fr (tr_b_sorted C V.n_sorted rfl (tra_cons (tr_lc (own := [("_law_k", 6)]) C (ti_range1 (tr_var 1) V.n_range) (blkOk_by (by rfl)) (fun _ _ _ _ _ => have ND := C.nd; have CG := C; (tg_nm 6 ND)) (fun _ _ _ _ _ C => tts_nil) (fun _ _ _ _ _ C => (tr_Add C (tr_var 3) (tr_Ix C (tr_var 2) (tr_Mod C (tr_Add C (tr_var 4) (tr_Mult C (tr_var 5) (tr_var 6))) tr_int))))) tra_nil)))))))))
theorem sc_8 : FnScope ["_law_draws_here", "_law_names_here", "_law_most", "_law_found", "_law_k"] ["_law_draws_here", "_law_names_here", "_law_most"] (defScope (top 28)) := ⟨rfl, rfl, rfl, by decide +kernel, rfl, by decide +kernel, by decide +kernel⟩
theorem ok_8 (V : EV K mg fd w) (IH : OKS P w K mg base fd k) : FnOk P w K mg base (L2.CX P w) (k + 1) (a_8 K) (fd 8) ["_law_draws_here", "_law_names_here", "_law_most"] (spF (Gc K w) 3 (runF 5 [0] (mb_8 (callF k)))) :=
  fn_ok (P := P) (w := w) (G := Gc K w) (mg := mg) (base := base) (k := k) (N := ["_law_draws_here", "_law_names_here", "_law_most", "_law_found", "_law_k"]) (ps := ["_law_draws_here", "_law_names_here", "_law_most"]) (m := mb_8 (callF k)) [0] V.d_8 sc_8 (by rfl) fun cdv A outer s H E σ (C : Cok (cxF P w K mg base ["_law_draws_here", "_law_names_here", "_law_most", "_law_found", "_law_k"] "_law_some" (defScope (top 28)) (a_8 K) cdv A outer s H E) (pinG (Gc K w) [0] σ) _ k) =>
    (ts_cons (tr_set 3 C tr_dnew) (ts_cons (tr_for C (ti_range1 (tr_call C IH.o_7 V.g_7 V.d_7.kp (b_7 V) (tar_b 0 (tar_v (tr_Add C (tr_var 2) tr_int) tar_nil))) V.n_range) (tg_nm 4 C.nd) (ts_one (tr_dput 3 C tr_bl (tr_Ix C (tr_var 1) (tr_call C IH.o_7 V.g_7 V.d_7.kp (b_7 V) (tar_b 0 (tar_v (tr_b_len C V.n_len rfl (tra_cons (tr_var 1) tra_nil)) tar_nil))))))) (ts_one (tr_ret (tr_b_tuple C V.n_tuple rfl (tra_cons (tr_b_sorted C V.n_sorted rfl (tra_cons (tr_peekL (W' := _) (tr_b_list C V.n_list rfl (tra_cons (tr_var 3) tra_nil))) tra_nil)) tra_nil))))))
theorem sc_9 : FnScope ["_law_draws_here", "_law_kinds", "_law_pupils", "_law_far", "_law_low", "_law_high", "_law_days", "_law_word"] ["_law_draws_here", "_law_kinds", "_law_pupils", "_law_far"] (defScope (top 29)) := ⟨rfl, rfl, rfl, by decide +kernel, rfl, by decide +kernel, by decide +kernel⟩
theorem ok_9 (V : EV K mg fd w) (IH : OKS P w K mg base fd k) : FnOk P w K mg base (L2.CX P w) (k + 1) (a_9 K) (fd 9) ["_law_draws_here", "_law_kinds", "_law_pupils", "_law_far"] (spF (Gc K w) 4 (runF 8 [0] (mb_9 (callF k)))) :=
  fn_ok (P := P) (w := w) (G := Gc K w) (mg := mg) (base := base) (k := k) (N := ["_law_draws_here", "_law_kinds", "_law_pupils", "_law_far", "_law_low", "_law_high", "_law_days", "_law_word"]) (ps := ["_law_draws_here", "_law_kinds", "_law_pupils", "_law_far"]) (m := mb_9 (callF k)) [0] V.d_9 sc_9 (by rfl) fun cdv A outer s H E σ (C : Cok (cxF P w K mg base ["_law_draws_here", "_law_kinds", "_law_pupils", "_law_far", "_law_low", "_law_high", "_law_days", "_law_word"] "_law_rule" (defScope (top 29)) (a_9 K) cdv A outer s H E) (pinG (Gc K w) [0] σ) _ k) =>
    (ts_cons (tr_set 4 C (tr_fr (tr_Add C tr_int (tr_Ix C (tr_lst (tra_cons tr_int (tra_cons (tr_call C IH.o_7 V.g_7 V.d_7.kp (b_7 V) (tar_b 0 (tar_v tr_int tar_nil))) (tra_cons (tr_call C IH.o_7 V.g_7 V.d_7.kp (b_7 V) (tar_b 0 (tar_v (tr_var 3) tar_nil))) tra_nil)))) (tr_call C IH.o_7 V.g_7 V.d_7.kp (b_7 V) (tar_b 0 (tar_v tr_int tar_nil))))))) (ts_cons (tr_set 5 C (tr_b_min C V.n_min rfl (tra_cons (tr_Pow C tr_int tr_int) (tra_cons (tr_Add C (tr_var 4) (tr_Ix C (tr_lst (tra_cons tr_int (tra_cons (tr_call C IH.o_7 V.g_7 V.d_7.kp (b_7 V) (tar_b 0 (tar_v tr_int tar_nil))) (tra_cons (tr_call C IH.o_7 V.g_7 V.d_7.kp (b_7 V) (tar_b 0 (tar_v (tr_var 3) tar_nil))) (tra_cons (tr_Pow C tr_int tr_int) tra_nil))))) (tr_call C IH.o_7 V.g_7 V.d_7.kp (b_7 V) (tar_b 0 (tar_v tr_int tar_nil))))) tra_nil)))) (ts_cons (tr_set 6 C (tr_call C IH.o_8 V.g_8 V.d_8.kp (b_8 V) (tar_b 0 (tar_v (tr_listRg1 C tr_int V.n_list V.n_range) (tar_v (tr_Ix C (tr_lst (tra_cons tr_int (tra_cons tr_int (tra_cons tr_int tra_nil)))) (tr_call C IH.o_7 V.g_7 V.d_7.kp (b_7 V) (tar_b 0 (tar_v tr_int tar_nil)))) tar_nil))))) (ts_cons (tr_set 7 C (tr_Ix C (tr_lst (tra_cons (tr_str [98, 97, 114]) (tra_cons (tr_str [108, 101, 116]) tra_nil))) (tr_FloorDiv C (tr_call C IH.o_7 V.g_7 V.d_7.kp (b_7 V) (tar_b 0 (tar_v tr_int tar_nil))) tr_int))) (ts_one (tr_ret (tr_tup (tra_cons (tr_var 7) (tra_cons (tr_call C IH.o_8 V.g_8 V.d_8.kp (b_8 V) (tar_b 0 (tar_v (tr_var 1) (tar_v tr_int tar_nil)))) (tra_cons (tr_call C IH.o_8 V.g_8 V.d_8.kp (b_8 V) (tar_b 0 (tar_v (tr_var 2) (tar_v tr_int tar_nil)))) (tra_cons (tr_var 6) (tra_cons (tr_var 4) (tra_cons (tr_var 5) tra_nil)))))))))))))
theorem sc_10 : FnScope ["_law_draws_here", "_law_kinds", "_law_pupils", "_law_far", "_law_k"] ["_law_draws_here", "_law_kinds", "_law_pupils"] (defScope (top 30)) := ⟨rfl, rfl, rfl, by decide +kernel, rfl, by decide +kernel, by decide +kernel⟩
theorem ok_10 (V : EV K mg fd w) (IH : OKS P w K mg base fd k) : FnOk P w K mg base (L2.CX P w) (k + 1) (a_10 K) (fd 10) ["_law_draws_here", "_law_kinds", "_law_pupils"] (spF (Gc K w) 3 (runF 5 [0] (mb_10 (callF k)))) :=
  fn_ok (P := P) (w := w) (G := Gc K w) (mg := mg) (base := base) (k := k) (N := ["_law_draws_here", "_law_kinds", "_law_pupils", "_law_far", "_law_k"]) (ps := ["_law_draws_here", "_law_kinds", "_law_pupils"]) (m := mb_10 (callF k)) [0] V.d_10 sc_10 (by rfl) fun cdv A outer s H E σ (C : Cok (cxF P w K mg base ["_law_draws_here", "_law_kinds", "_law_pupils", "_law_far", "_law_k"] "_law_book" (defScope (top 30)) (a_10 K) cdv A outer s H E) (pinG (Gc K w) [0] σ) _ k) =>
    (ts_cons (tr_set 3 C (tr_Ix C (tr_lst (tra_cons tr_int (tra_cons (tr_Pow C tr_int tr_int) tra_nil))) (tr_FloorDiv C (tr_call C IH.o_7 V.g_7 V.d_7.kp (b_7 V) (tar_b 0 (tar_v tr_int tar_nil))) tr_int))) (ts_one (tr_ret (tr_b_tuple C V.n_tuple rfl (tra_cons (tr_lc (own := [("_law_k", 4)]) C (ti_range1 (tr_call C IH.o_7 V.g_7 V.d_7.kp (b_7 V) (tar_b 0 (tar_v tr_int tar_nil))) V.n_range) (blkOk_by (by rfl)) (fun _ _ _ _ _ => have ND := C.nd; have CG := C; (tg_nm 4 ND)) (fun _ _ _ _ _ C => tts_nil) (fun _ _ _ _ _ C => (tr_call C IH.o_9 V.g_9 V.d_9.kp (b_9 V) (tar_b 0 (tar_v (tr_var 1) (tar_v (tr_var 2) (tar_v (tr_var 3) tar_nil))))))) tra_nil)))))
theorem sc_107 : FnScope ["_law_draws_here", "_law_kinds", "_law_pupils", "_law_limits", "_law_k", "_law_terms", "_law_book_here", "_law_kind"] ["_law_draws_here", "_law_kinds", "_law_pupils"] (defScope (top 31)) := ⟨rfl, rfl, rfl, by decide +kernel, rfl, by decide +kernel, by decide +kernel⟩
theorem ok_107 (V : EV K mg fd w) (IH : OKS P w K mg base fd k) : FnOk P w K mg base (L2.CX P w) (k + 1) (a_107 K) (fd 107) ["_law_draws_here", "_law_kinds", "_law_pupils"] (spF (Gc K w) 3 (runF 8 [0] (mb_107 (callF k)))) :=
  fn_ok (P := P) (w := w) (G := Gc K w) (mg := mg) (base := base) (k := k) (N := ["_law_draws_here", "_law_kinds", "_law_pupils", "_law_limits", "_law_k", "_law_terms", "_law_book_here", "_law_kind"]) (ps := ["_law_draws_here", "_law_kinds", "_law_pupils"]) (m := mb_107 (callF k)) [0] V.d_107 sc_107 (by rfl) fun cdv A outer s H E σ (C : Cok (cxF P w K mg base ["_law_draws_here", "_law_kinds", "_law_pupils", "_law_limits", "_law_k", "_law_terms", "_law_book_here", "_law_kind"] "_law_shop" (defScope (top 31)) (a_107 K) cdv A outer s H E) (pinG (Gc K w) [0] σ) _ k) =>
    (ts_cons (tr_set 3 C tr_dnew) (ts_cons (tr_for C (ti_range1 (tr_call C IH.o_7 V.g_7 V.d_7.kp (b_7 V) (tar_b 0 (tar_v tr_int tar_nil))) V.n_range) (tg_nm 4 C.nd) (ts_cons (tr_set 7 C (tr_Ix C (tr_Add C (tr_lst (tra_cons (tr_str []) tra_nil)) (tr_var 1)) (tr_call C IH.o_7 V.g_7 V.d_7.kp (b_7 V) (tar_b 0 (tar_v (tr_Add C (tr_b_len C V.n_len rfl (tra_cons (tr_var 1) tra_nil)) tr_int) tar_nil))))) (ts_one (tr_dput 3 C (tr_Add C (tr_Ix C (tr_lst (tra_cons tr_int (tra_cons tr_int (tra_cons tr_int (tra_cons tr_int tra_nil))))) (tr_call C IH.o_7 V.g_7 V.d_7.kp (b_7 V) (tar_b 0 (tar_v tr_int tar_nil)))) (tr_call C IH.o_7 V.g_7 V.d_7.kp (b_7 V) (tar_b 0 (tar_v tr_int tar_nil)))) (tr_var 7))))) (ts_cons (tr_set 5 C tr_dnew) (ts_cons (tr_for C (ti_range1 (tr_call C IH.o_7 V.g_7 V.d_7.kp (b_7 V) (tar_b 0 (tar_v tr_int tar_nil))) V.n_range) (tg_nm 4 C.nd) (ts_one (tr_dput 5 C (tr_Ix C (tr_lst (tra_cons (tr_str [99, 97, 114, 114, 105, 101, 100]) (tra_cons (tr_str [103, 105, 118, 101, 110]) tra_nil))) (tr_call C IH.o_7 V.g_7 V.d_7.kp (b_7 V) (tar_b 0 (tar_v tr_int tar_nil)))) (tr_Add C tr_int (tr_call C IH.o_7 V.g_7 V.d_7.kp (b_7 V) (tar_b 0 (tar_v tr_int tar_nil))))))) (ts_cons (tr_set 6 C (tr_call C IH.o_10 V.g_10 V.d_10.kp (b_10 V) (tar_b 0 (tar_v (tr_var 1) (tar_v (tr_var 2) tar_nil))))) (ts_one (tr_ret (tr_tup (tra_cons (tr_var 6) (tra_cons (tr_b_tuple C V.n_tuple rfl (tra_cons (tr_peekLI (W' := _) (tr_sortItems C (tr_var 3) V.n_sorted)) tra_nil)) (tra_cons (tr_b_tuple C V.n_tuple rfl (tra_cons (tr_peekLI (W' := _) (tr_sortItems C (tr_var 5) V.n_sorted)) tra_nil)) tra_nil)))))))))))
theorem sc_130 : FnScope ["_law_draws_here", "_law_many", "_law_order", "_law_k"] ["_law_draws_here", "_law_many"] (defScope (top 32)) := ⟨rfl, rfl, rfl, by decide +kernel, rfl, by decide +kernel, by decide +kernel⟩
theorem ok_130 (V : EV K mg fd w) (IH : OKS P w K mg base fd k) : FnOk P w K mg base (L2.CX P w) (k + 1) (a_130 K) (fd 130) ["_law_draws_here", "_law_many"] (spF (Gc K w) 2 (runF 4 [0] (mb_130 (callF k)))) :=
  fn_ok (P := P) (w := w) (G := Gc K w) (mg := mg) (base := base) (k := k) (N := ["_law_draws_here", "_law_many", "_law_order", "_law_k"]) (ps := ["_law_draws_here", "_law_many"]) (m := mb_130 (callF k)) [0] V.d_130 sc_130 (by rfl) fun cdv A outer s H E σ (C : Cok (cxF P w K mg base ["_law_draws_here", "_law_many", "_law_order", "_law_k"] "_law_any_order" (defScope (top 32)) (a_130 K) cdv A outer s H E) (pinG (Gc K w) [0] σ) _ k) =>
    (ts_cons (tr_set 2 C (tr_lst tra_nil)) (ts_cons (tr_for C (ti_range1 (tr_var 1) V.n_range) (tg_nm 3 C.nd) (ts_one (tr_drop (tr_insert 2 (tr_call C IH.o_7 V.g_7 V.d_7.kp (b_7 V) (tar_b 0 (tar_v (tr_Add C (tr_var 3) tr_int) tar_nil))) (tr_var 3))))) (ts_one (tr_ret (tr_fzV 2)))))
theorem sc_131 : FnScope ["_law_draws_here", "_law_kinds", "_law_pupils", "_law_many", "_law_found", "_law_k", "_law_rows_here", "_law_pupil", "_law_other", "_law_day", "_law_pence", "_law_way", "_law_some_here", "_law_kind"] ["_law_draws_here", "_law_kinds", "_law_pupils", "_law_many"] (defScope (top 33)) := ⟨rfl, rfl, rfl, by decide +kernel, rfl, by decide +kernel, by decide +kernel⟩
theorem ok_131 (V : EV K mg fd w) (IH : OKS P w K mg base fd k) : FnOk P w K mg base (L2.CX P w) (k + 1) (a_131 K) (fd 131) ["_law_draws_here", "_law_kinds", "_law_pupils", "_law_many"] (spF (Gc K w) 4 (runF 14 [0] (mb_131 (callF k)))) :=
  fn_ok (P := P) (w := w) (G := Gc K w) (mg := mg) (base := base) (k := k) (N := ["_law_draws_here", "_law_kinds", "_law_pupils", "_law_many", "_law_found", "_law_k", "_law_rows_here", "_law_pupil", "_law_other", "_law_day", "_law_pence", "_law_way", "_law_some_here", "_law_kind"]) (ps := ["_law_draws_here", "_law_kinds", "_law_pupils", "_law_many"]) (m := mb_131 (callF k)) [0] V.d_131 sc_131 (by rfl) fun cdv A outer s H E σ (C : Cok (cxF P w K mg base ["_law_draws_here", "_law_kinds", "_law_pupils", "_law_many", "_law_found", "_law_k", "_law_rows_here", "_law_pupil", "_law_other", "_law_day", "_law_pence", "_law_way", "_law_some_here", "_law_kind"] "_law_rows" (defScope (top 33)) (a_131 K) cdv A outer s H E) (pinG (Gc K w) [0] σ) _ k) =>
    (ts_cons (tr_set 4 C (tr_nnew rfl)) (ts_cons (tr_for C (ti_range1 (tr_var 3) V.n_range) (tg_nm 5 C.nd) (ts_cons (tr_set 7 C (tr_Ix C (tr_var 2) (tr_call C IH.o_7 V.g_7 V.d_7.kp (b_7 V) (tar_b 0 (tar_v (tr_b_len C V.n_len rfl (tra_cons (tr_var 2) tra_nil)) tar_nil))))) (ts_cons (tr_set 8 C (tr_Ix C (tr_var 2) (tr_call C IH.o_7 V.g_7 V.d_7.kp (b_7 V) (tar_b 0 (tar_v (tr_b_len C V.n_len rfl (tra_cons (tr_var 2) tra_nil)) tar_nil))))) (ts_cons (tr_set 9 C (tr_call C IH.o_7 V.g_7 V.d_7.kp (b_7 V) (tar_b 0 (tar_v (tr_Ix C (tr_lst (tra_cons tr_int (tra_cons tr_int tra_nil))) (tr_call C IH.o_7 V.g_7 V.d_7.kp (b_7 V) (tar_b 0 (tar_v tr_int tar_nil)))) tar_nil)))) (ts_cons (tr_set 10 C (tr_fr (tr_Add C tr_int (tr_call C IH.o_7 V.g_7 V.d_7.kp (b_7 V) (tar_b 0 (tar_v (tr_Ix C (tr_lst (tra_cons tr_int (tra_cons tr_int tra_nil))) (tr_call C IH.o_7 V.g_7 V.d_7.kp (b_7 V) (tar_b 0 (tar_v tr_int tar_nil)))) tar_nil)))))) (ts_cons (tr_set 11 C (tr_call C IH.o_7 V.g_7 V.d_7.kp (b_7 V) (tar_b 0 (tar_v tr_int tar_nil)))) (ts_one (tr_ifS (tt_Lt C (tr_var 11) tr_int) (ts_one (tr_nput 4 C rfl C.u64 tr_bl (tr_tup (tra_cons (tr_str [112, 97, 105, 100]) (tra_cons (tr_Ix C (tr_lst (tra_cons (tr_var 9) (tra_cons tr_int tra_nil))) (tr_call C IH.o_7 V.g_7 V.d_7.kp (b_7 V) (tar_b 0 (tar_v tr_int tar_nil)))) (tra_cons (tr_var 7) (tra_cons (tr_var 10) tra_nil))))))) (ts_one (tr_ifS (tt_w (tw_and (tt_Eq C (tr_var 11) tr_int) (tw_and1 (tt_NotEq C (tr_var 7) (tr_var 8))))) (ts_one (tr_nput 4 C rfl C.u64 tr_bl (tr_tup (tra_cons (tr_str [119, 114, 111, 110, 103]) (tra_cons (tr_var 9) (tra_cons (tr_call C IH.o_7 V.g_7 V.d_7.kp (b_7 V) (tar_b 0 (tar_v (tr_var 3) tar_nil))) (tra_cons (tr_var 7) (tra_cons (tr_var 8) tra_nil)))))))) (ts_one (tr_ifS (tt_w (tw_and (tt_Eq C (tr_var 11) tr_int) (tw_and1 (tt_NotEq C (tr_var 7) (tr_var 8))))) (ts_one (tr_nput 4 C rfl C.u64 tr_bl (tr_tup (tra_cons (tr_str [108, 101, 110, 116]) (tra_cons (tr_var 9) (tra_cons (tr_var 7) (tra_cons (tr_var 8) (tra_cons (tr_var 10) tra_nil)))))))) (ts_one (tr_ifS (tt_w (tw_and (tt_Eq C (tr_var 11) tr_int) (tw_and1 (tt_NotEq C (tr_var 7) (tr_var 8))))) (ts_one (tr_nput 4 C rfl C.u64 tr_bl (tr_tup (tra_cons (tr_str [98, 97, 99, 107]) (tra_cons (tr_var 9) (tra_cons (tr_var 7) (tra_cons (tr_var 8) (tra_cons (tr_var 10) tra_nil)))))))) (ts_cons (tr_set 12 C (tr_orV C (tr_call C IH.o_8 V.g_8 V.d_8.kp (b_8 V) (tar_b 0 (tar_v (tr_var 2) (tar_v (tr_Ix C (tr_lst (tra_cons tr_int (tra_cons tr_int tra_nil))) (tr_call C IH.o_7 V.g_7 V.d_7.kp (b_7 V) (tar_b 0 (tar_v tr_int tar_nil)))) tar_nil)))) (tr_one (tr_tup (tra_cons (tr_var 7) tra_nil))))) (ts_cons (tr_set 13 C (tr_Ix C (tr_var 1) (tr_call C IH.o_7 V.g_7 V.d_7.kp (b_7 V) (tar_b 0 (tar_v (tr_b_len C V.n_len rfl (tra_cons (tr_var 1) tra_nil)) tar_nil))))) (ts_one (tr_nput 4 C rfl C.u64 tr_bl (tr_tup (tra_cons (tr_str [98, 111, 117, 103, 104, 116]) (tra_cons (tr_var 9) (tra_cons (tr_var 5) (tra_cons (tr_var 12) (tra_cons (tr_var 13) (tra_cons (tr_b_max C V.n_max rfl (tra_cons (tr_var 10) (tra_cons (tr_b_len C V.n_len rfl (tra_cons (tr_var 12) tra_nil)) tra_nil))) tra_nil))))))))))))))))))))))))) (ts_cons (tr_set 6 C (tr_fr (tr_peekLI (W' := _) (tr_b_sortedB C V.n_sorted rfl rfl (tra_cons (tr_var 4) tra_nil))))) (ts_one (tr_ret (tr_lc (own := [("_law_k", 5)]) C (ti_seq C (tr_call C IH.o_130 V.g_130 V.d_130.kp (b_130 V) (tar_b 0 (tar_v (tr_b_len C V.n_len rfl (tra_cons (tr_var 6) tra_nil)) tar_nil)))) (blkOk_by (by rfl)) (fun _ _ _ _ _ => have ND := C.nd; have CG := C; (tg_nm 5 ND)) (fun _ _ _ _ _ C => tts_nil) (fun _ _ _ _ _ C => (tr_Ix C (tr_var 6) (tr_var 5)))))))))
theorem sc_132 : FnScope ["_law_draws_here", "_law_kinds", "_law_pupils", "_law_shop_here"] ["_law_draws_here"] (defScope (top 34)) := ⟨rfl, rfl, rfl, by decide +kernel, rfl, by decide +kernel, by decide +kernel⟩
theorem ok_132 (V : EV K mg fd w) (IH : OKS P w K mg base fd k) : FnOk P w K mg base (L2.CX P w) (k + 1) (a_132 K) (fd 132) ["_law_draws_here"] (spF (Gc K w) 1 (runF 4 [0] (mb_132 (callF k)))) :=
  fn_ok (P := P) (w := w) (G := Gc K w) (mg := mg) (base := base) (k := k) (N := ["_law_draws_here", "_law_kinds", "_law_pupils", "_law_shop_here"]) (ps := ["_law_draws_here"]) (m := mb_132 (callF k)) [0] V.d_132 sc_132 (by rfl) fun cdv A outer s H E σ (C : Cok (cxF P w K mg base ["_law_draws_here", "_law_kinds", "_law_pupils", "_law_shop_here"] "_law_case" (defScope (top 34)) (a_132 K) cdv A outer s H E) (pinG (Gc K w) [0] σ) _ k) =>
    (ts_cons (tr_set 1 C (tr_call C IH.o_11 V.g_11 V.d_11.kp (b_11 V) (tar_b 0 (tar_v tr_int tar_nil)))) (ts_cons (tr_set 2 C (tr_call C IH.o_11 V.g_11 V.d_11.kp (b_11 V) (tar_b 0 (tar_v (tr_Add C tr_int (tr_call C IH.o_7 V.g_7 V.d_7.kp (b_7 V) (tar_b 0 (tar_v tr_int tar_nil)))) tar_nil)))) (ts_cons (tr_set 3 C (tr_call C IH.o_107 V.g_107 V.d_107.kp (b_107 V) (tar_b 0 (tar_v (tr_var 1) (tar_v (tr_var 2) tar_nil))))) (ts_one (tr_ret (tr_tup (tra_cons (tr_var 3) (tra_cons (tr_call C IH.o_131 V.g_131 V.d_131.kp (b_131 V) (tar_b 0 (tar_v (tr_var 1) (tar_v (tr_var 2) (tar_v (tr_Ix C (tr_lst (tra_cons tr_int (tra_cons tr_int (tra_cons tr_int tra_nil)))) (tr_call C IH.o_7 V.g_7 V.d_7.kp (b_7 V) (tar_b 0 (tar_v tr_int tar_nil)))) tar_nil))))) (tra_cons (tr_var 1) (tra_cons (tr_var 2) tra_nil))))))))))
theorem sc_139 : FnScope ["_law_script", "_law_words", "_law_k", "_law_draws_here", "_law_shop_here", "_law_rows_here", "_law_kinds", "_law_pupils", "_law_few", "_law_some_here", "_law_handed", "_law_found", "_law_j", "_law_keys", "_law_row"] ["_law_script"] (defScope (top 35)) := ⟨rfl, rfl, rfl, by decide +kernel, rfl, by decide +kernel, by decide +kernel⟩
theorem ok_139 (V : EV K mg fd w) (IH : OKS P w K mg base fd k) : FnOk P w K mg base (L2.CX P w) (k + 1) (a_139 K) (fd 139) ["_law_script"] (spF (Gc K w) 1 (runF 15 [] (mb_139 (callF k)))) :=
  fn_ok (P := P) (w := w) (G := Gc K w) (mg := mg) (base := base) (k := k) (N := ["_law_script", "_law_words", "_law_k", "_law_draws_here", "_law_shop_here", "_law_rows_here", "_law_kinds", "_law_pupils", "_law_few", "_law_some_here", "_law_handed", "_law_found", "_law_j", "_law_keys", "_law_row"]) (ps := ["_law_script"]) (m := mb_139 (callF k)) [] V.d_139 sc_139 (by rfl) fun cdv A outer s H E σ (C : Cok (cxF P w K mg base ["_law_script", "_law_words", "_law_k", "_law_draws_here", "_law_shop_here", "_law_rows_here", "_law_kinds", "_law_pupils", "_law_few", "_law_some_here", "_law_handed", "_law_found", "_law_j", "_law_keys", "_law_row"] "law" (defScope (top 35)) (a_139 K) cdv A outer s H E) (pinG (Gc K w) [] σ) _ k) =>
    (ts_cons (tr_set 1 C (tr_fr (tr_lst (tra_cons (tr_str [119, 114, 111, 110, 103]) (tra_cons (tr_str [112, 97, 105, 100]) (tra_cons (tr_str [98, 97, 99, 107]) (tra_cons (tr_str [108, 101, 110, 116]) (tra_cons (tr_str [98, 111, 117, 103, 104, 116]) tra_nil)))))))) (ts_cons (tr_for C (ti_range1 (tr_b_max C V.n_max rfl (tra_cons tr_int (tra_cons (tr_b_min C V.n_min rfl (tra_cons tr_int (tra_cons (tr_b_len C V.n_len rfl (tra_cons (tr_var 0) tra_nil)) tra_nil))) tra_nil))) V.n_range) (tg_nm 2 C.nd) (ts_cons (tr_set 3 C (tr_call C IH.o_6 V.g_6 V.d_6.kp (b_6 V) (tar_v (tr_var 0) (tar_v (tr_var 2) tar_nil)))) (ts_cons (tr_put (tr_call C IH.o_132 V.g_132 V.d_132.kp (b_132 V) (tar_b 3 tar_nil)) (tg_tup C (tg_cons (tg_nm 4 C.nd) (tg_cons (tg_nm 5 C.nd) (tg_cons (tg_nm 6 C.nd) (tg_cons (tg_nm 7 C.nd) tg_nil)))))) (ts_cons (tr_set 8 C (tr_fr (tr_lc (own := [("_law_row", 14)]) C (ti_seq C (tr_var 5)) (blkOk_by (by rfl)) (fun _ _ _ _ _ => have ND := C.nd; have CG := C; (tg_nm 14 ND)) (fun _ _ _ _ _ C => tts_nil) (fun _ _ _ _ _ C => (tr_Add C (tr_Add C (tr_sl C (tr_var 14) to_none (to_some tr_int)) (tr_tup (tra_cons (tr_Mod C (tr_Ix C (tr_var 14) tr_int) tr_int) tra_nil))) (tr_sl C (tr_var 14) (to_some tr_int) to_none)))))) (ts_cons (tr_set 8 C (tr_fr (tr_lc (own := [("_law_j", 12)]) C (ti_range1 (tr_b_len C V.n_len rfl (tra_cons (tr_var 8) tra_nil)) V.n_range) (blkOk_by (by rfl)) (fun _ _ _ _ _ => have ND := C.nd; have CG := C; (tg_nm 12 ND)) (fun _ _ _ _ _ C => (tts_one (tt_NotInB C (tr_Ix C (tr_var 8) (tr_var 12)) (tr_sl C (tr_var 8) to_none (to_some (tr_var 12)))))) (fun _ _ _ _ _ C => (tr_Ix C (tr_var 8) (tr_var 12)))))) (ts_one (tr_for C (ti_seq C (tr_tup (tra_cons (tr_var 5) (tra_cons (tr_var 8) tra_nil)))) (tg_nm 9 C.nd) (ts_cons (tr_set 10 C (tr_fr (tr_b_list C V.n_list rfl (tra_cons (tr_var 9) tra_nil)))) (ts_cons (tr_set 11 C (tr_call C IH.o_114 V.g_114 V.d_114.kp (b_114 V) (tar_v (tr_var 10) tar_nil))) (ts_cons (tr_ifS (tt_w (tw_or (tt_not (tt_val (tr_peek (W' := _) (tr_isi .list C (tr_var 11) V.n_isinstance V.n_list (by rfl))))) (tw_or (tt_NotEq C (tr_peekLI (W' := _) (tr_b_sortedB C V.n_sorted rfl rfl (tra_cons (tr_var 11) tra_nil))) (tr_b_sortedB C V.n_sorted rfl rfl (tra_cons (tr_var 9) tra_nil))) (tw_or1 (tt_NotEq C (tr_var 10) (tr_var 9)))))) (ts_one (tr_ret tr_bl)) ts_nil) (ts_cons (tr_for C (ti_range2 tr_int (tr_peek (W' := _) (tr_b_len C V.n_len rfl (tra_cons (tr_var 11) tra_nil))) V.n_range) (tg_nm 12 C.nd) (ts_cons (tr_set 13 C (tr_lst tra_nil)) (ts_cons (tr_for C (ti_seq C (tr_slO 11 (to_some (tr_Sub C (tr_var 12) tr_int)) (to_some (tr_Add C (tr_var 12) tr_int)))) (tg_nm 14 C.nd) (ts_one (tr_drop (tr_append 13 (tr_tup (tra_cons (tr_b_int C V.n_int rfl (tra_cons (tr_NotEq C (tr_Ix C (tr_var 14) tr_int) (tr_str [119, 114, 111, 110, 103])) tra_nil)) (tra_cons (tr_Ix C (tr_var 14) tr_int) (tra_cons (tr_indexL C (tr_var 1) (tr_Ix C (tr_var 14) tr_int)) (tra_cons (tr_var 14) tra_nil))))))))) (ts_one (tr_ifS (tt_GtEB C (tr_ixO 13 tr_int) (tr_ixO 13 tr_int)) (ts_one (tr_ret tr_bl)) ts_nil))))) (ts_cons (tr_ifS (tt_pkNotEq C 11 (tr_call C IH.o_114 V.g_114 V.d_114.kp (b_114 V) (tar_v (tr_lc (own := [("_law_j", 12)]) C (ti_seq C (tr_call C IH.o_130 V.g_130 V.d_130.kp (b_130 V) (tar_b 3 (tar_v (tr_b_len C V.n_len rfl (tra_cons (tr_var 9) tra_nil)) tar_nil)))) (blkOk_by (by rfl)) (fun _ _ _ _ _ => have ND := C.nd; have CG := C; (tg_nm 12 ND)) (fun _ _ _ _ _ C => tts_nil) (fun _ _ _ _ _ C => (tr_Ix C (tr_var 9) (tr_var 12)))) tar_nil))) (ts_one (tr_ret tr_bl)) ts_nil) (ts_cons (tr_drop (tr_append 11 (tr_str [122, 122]))) (ts_one (tr_ifS (tt_NotEq C (tr_call C IH.o_114 V.g_114 V.d_114.kp (b_114 V) (tar_v (tr_var 9) tar_nil)) (tr_slO 11 to_none (to_some (tr_neg C tr_int)))) (ts_one (tr_ret tr_bl)) ts_nil))))))))))))))) (ts_one (tr_ret tr_bl))))
end
end LW

namespace LW
open PySem PySem.Spec PyProof.Rows L2 TB
def d_0 : He.DefD := ⟨("is_within", none), "is_within", "is_within", defArgs (top 7), defBody (top 7), defScope (top 7), [], []⟩
def d_1 : He.DefD := ⟨("is_name", none), "is_name", "is_name", defArgs (top 8), defBody (top 8), defScope (top 8), [], []⟩
def d_2 : He.DefD := ⟨("are_rising", none), "are_rising", "are_rising", defArgs (top 9), defBody (top 9), defScope (top 9), [], []⟩
def d_3 : He.DefD := ⟨("are_names", none), "are_names", "are_names", defArgs (top 10), defBody (top 10), defScope (top 10), [], []⟩
def d_54 : He.DefD := ⟨("are_two", none), "are_two", "are_two", defArgs (top 17), defBody (top 17), defScope (top 17), [], []⟩
def d_55 : He.DefD := ⟨("is_row", none), "is_row", "is_row", defArgs (top 18), defBody (top 18), defScope (top 18), [], []⟩
def d_56 : He.DefD := ⟨("numbers_in", none), "numbers_in", "numbers_in", defArgs (top 19), defBody (top 19), defScope (top 19), [], []⟩
def d_57 : He.DefD := ⟨("are_rows", none), "are_rows", "are_rows", defArgs (top 20), defBody (top 20), defScope (top 20), [], []⟩
def d_58 : He.DefD := ⟨("need_rows", none), "need_rows", "need_rows", defArgs (top 21), defBody (top 21), defScope (top 21), [], []⟩
def d_59 : He.DefD := ⟨("in_course", none), "in_course", "in_course", defArgs (top 22), defBody (top 22), defScope (top 22), [], []⟩
def d_114 : He.DefD := ⟨("course_of", none), "course_of", "course_of", defArgs (top 23), defBody (top 23), defScope (top 23), [], []⟩
def d_6 : He.DefD := ⟨("_law_draws", none), "_law_draws", "_law_draws", defArgs (top 25), defBody (top 25), defScope (top 25), [], []⟩
def d_7 : He.DefD := ⟨("_law_draw", none), "_law_draw", "_law_draw", defArgs (top 26), defBody (top 26), defScope (top 26), [], []⟩
def d_11 : He.DefD := ⟨("_law_names", none), "_law_names", "_law_names", defArgs (top 27), defBody (top 27), defScope (top 27), [], []⟩
def d_8 : He.DefD := ⟨("_law_some", none), "_law_some", "_law_some", defArgs (top 28), defBody (top 28), defScope (top 28), [], []⟩
def d_9 : He.DefD := ⟨("_law_rule", none), "_law_rule", "_law_rule", defArgs (top 29), defBody (top 29), defScope (top 29), [], []⟩
def d_10 : He.DefD := ⟨("_law_book", none), "_law_book", "_law_book", defArgs (top 30), defBody (top 30), defScope (top 30), [], []⟩
def d_107 : He.DefD := ⟨("_law_shop", none), "_law_shop", "_law_shop", defArgs (top 31), defBody (top 31), defScope (top 31), [], []⟩
def d_130 : He.DefD := ⟨("_law_any_order", none), "_law_any_order", "_law_any_order", defArgs (top 32), defBody (top 32), defScope (top 32), [], []⟩
def d_131 : He.DefD := ⟨("_law_rows", none), "_law_rows", "_law_rows", defArgs (top 33), defBody (top 33), defScope (top 33), [], []⟩
def d_132 : He.DefD := ⟨("_law_case", none), "_law_case", "_law_case", defArgs (top 34), defBody (top 34), defScope (top 34), [], []⟩
def d_139 : He.DefD := ⟨("law", none), "law", "law", defArgs (top 35), defBody (top 35), defScope (top 35), [], []⟩
def fn : List He.DefD := [d_0, d_1, d_2, d_3, d_54, d_55, d_56, d_57, d_58, d_59, d_114, d_6, d_7, d_11, d_8, d_9, d_10, d_107, d_130, d_131, d_132, d_139]
def fa : List He.Fa := [.glo "is_within", .glo "is_name", .glo "are_rising", .glo "are_names", .glo "are_two", .glo "is_row", .glo "numbers_in", .glo "are_rows", .glo "need_rows", .glo "in_course", .glo "course_of", .glo "_law_draws", .glo "_law_draw", .glo "_law_names", .glo "_law_some", .glo "_law_rule", .glo "_law_book", .glo "_law_shop", .glo "_law_any_order", .glo "_law_rows", .glo "_law_case", .glo "law", .free "all", .free "bool", .free "int", .free "isinstance", .free "len", .free "list", .free "max", .free "min", .free "range", .free "set", .free "sorted", .free "str", .free "tuple", .glo "LENGTHS", .str "LETTERS" "abcdefghijklmnopqrstuvwxyz", .int "MOST_DAY" 1000000, .int "MOST_NUMBER" 1000000, .int "MOST_PENCE" 1000000, .int "MOST_ROWS" 200, .glo "WORDS"]
def ts : List He.Tab := [(fun K => He.ga K "LENGTHS", ["wrong", "paid", "back", "lent", "bought"])]
def ex (K : PySem.W.Frag) : Bool := (tabIB K (He.ga K "LENGTHS") [([119, 114, 111, 110, 103], 5), ([112, 97, 105, 100], 4), ([98, 97, 99, 107], 5), ([108, 101, 110, 116], 5), ([98, 111, 117, 103, 104, 116], 6)]) && (tupSB K (He.ga K "WORDS") [[119, 114, 111, 110, 103], [112, 97, 105, 100], [98, 97, 99, 107], [108, 101, 110, 116], [98, 111, 117, 103, 104, 116]])
def loose0 : List Str := ["__name__", "TuckError", "NoForm", "NoRows", "MOST_PENCE", "LETTERS", "is_within", "is_name", "are_rising", "are_names", "MOST_DAY", "MOST_ROWS", "MOST_NUMBER", "WORDS", "LENGTHS", "are_two", "is_row", "numbers_in", "are_rows", "need_rows", "in_course", "course_of", "_law_draws", "_law_draw", "_law_names", "_law_some", "_law_rule", "_law_book", "_law_shop", "_law_any_order"]
def loose1 : List Str := ["_law_rows", "_law_case"]
def loose : List Str := loose0 ++ loose1
abbrev R : PySem.W.OpenRow := PySem.W.OpenLaw.row PySem.Challenge.rw_tuckbook_k07_the_course_of_rows
abbrev hk : PySem.W.Hook := He.hookX 5 fa fn ts [] ex
def ob (s : PySem.W.SharedT) : He.AlX := He.obsX 5 fa fn ts [] ex (HandSHeadRun.getT s)
theorem ob_eq (s : PySem.W.SharedT) : ob s = hk.obs s.abs := He.obsX_eq (HandSHeadRun.getT_eq s)
abbrev qv : Program := PySem.W.view R.prog [35]
theorem run_f (w : World) : HandSHeadRun.RunEq R qv hk ob 9000 loose (w.withFollow "special-get-raises" false) := by
  intro os
  kernel_rfl
theorem run_t (w : World) : HandSHeadRun.RunEq R qv hk ob 9000 loose (w.withFollow "special-get-raises" true) := by
  intro os
  kernel_rfl
theorem run (w : World) : HandSHeadRun.RunEq R qv hk ob 9000 loose w :=
  PySem.W.byRow2 "special-get-raises" (P := fun w => HandSHeadRun.RunEq R qv hk ob 9000 loose w) run_f run_t w
section
variable {P : Program} {w : World} {K : PySem.W.Frag} {mg : Str → Option Value} {base : Heap} {fd : Nat → FuncData}
theorem fn_zero {a : Addr} {fdv : FuncData} {ps : List Str} {n : Nat} {f : Nat} : FnOk P w K mg base (L2.CX P w) 0 a fdv ps (spF (Gc K w) n (callF 0 f)) :=
  ⟨fun vs H Q E ⟨_, _, _, _, _, _, _, _, h⟩ => h.elim, fun _ _ _ _ _ _ _ _ _ _ _ _ _ ⟨_, _, _, _, _, _, _, _, h⟩ => h.elim⟩
theorem ok_all (V : EV K mg fd w) : ∀ k, OKS P w K mg base fd k
  | 0 => ⟨fn_zero, fn_zero, fn_zero, fn_zero, fn_zero, fn_zero, fn_zero, fn_zero, fn_zero, fn_zero, fn_zero, fn_zero, fn_zero, fn_zero, fn_zero, fn_zero, fn_zero, fn_zero, fn_zero, fn_zero, fn_zero, fn_zero⟩
  | k + 1 => have IH := ok_all V k; ⟨ok_0 V IH, ok_1 V IH, ok_2 V IH, ok_3 V IH, ok_54 V IH, ok_55 V IH, ok_56 V IH, ok_57 V IH, ok_58 V IH, ok_59 V IH, ok_114 V IH, ok_6 V IH, ok_7 V IH, ok_11 V IH, ok_8 V IH, ok_9 V IH, ok_10 V IH, ok_107 V IH, ok_130 V IH, ok_131 V IH, ok_132 V IH, ok_139 V IH⟩
end
theorem facts {P : Program} {w : World} {K : PySem.W.Frag} {h : Heap} {mg : Str → Option Value} {f : Addr} (X : K.In h) (G : h.Ns mainGlobals mg) (hfa : mg ("law" : Str) = some (.ref f)) (c : He.SaysX fa fn ts [] ex w h K) :
    ∃ fd : FuncData, (∀ (s : Shared) (v : Value), BindsTo s fd ⟨[v], []⟩ [("_law_script", v)]) ∧ ∀ base : Heap, K.In base → base.Ns mainGlobals mg → FnOk P w K mg base (L2.CX P w) 40 f fd ["_law_script"] (spF (Gc K w) 1 (callF 40 139)) := by
  have cd := c.t.d
  have cx := c.more
  simp only [ex, Bool.and_eq_true] at cx
  obtain ⟨fd0, F0⟩ := cd.def_ 0 (d := d_0) rfl
  obtain ⟨fd1, F1⟩ := cd.def_ 1 (d := d_1) rfl
  obtain ⟨fd2, F2⟩ := cd.def_ 2 (d := d_2) rfl
  obtain ⟨fd3, F3⟩ := cd.def_ 3 (d := d_3) rfl
  obtain ⟨fd54, F54⟩ := cd.def_ 4 (d := d_54) rfl
  obtain ⟨fd55, F55⟩ := cd.def_ 5 (d := d_55) rfl
  obtain ⟨fd56, F56⟩ := cd.def_ 6 (d := d_56) rfl
  obtain ⟨fd57, F57⟩ := cd.def_ 7 (d := d_57) rfl
  obtain ⟨fd58, F58⟩ := cd.def_ 8 (d := d_58) rfl
  obtain ⟨fd59, F59⟩ := cd.def_ 9 (d := d_59) rfl
  obtain ⟨fd114, F114⟩ := cd.def_ 10 (d := d_114) rfl
  obtain ⟨fd6, F6⟩ := cd.def_ 11 (d := d_6) rfl
  obtain ⟨fd7, F7⟩ := cd.def_ 12 (d := d_7) rfl
  obtain ⟨fd11, F11⟩ := cd.def_ 13 (d := d_11) rfl
  obtain ⟨fd8, F8⟩ := cd.def_ 14 (d := d_8) rfl
  obtain ⟨fd9, F9⟩ := cd.def_ 15 (d := d_9) rfl
  obtain ⟨fd10, F10⟩ := cd.def_ 16 (d := d_10) rfl
  obtain ⟨fd107, F107⟩ := cd.def_ 17 (d := d_107) rfl
  obtain ⟨fd130, F130⟩ := cd.def_ 18 (d := d_130) rfl
  obtain ⟨fd131, F131⟩ := cd.def_ 19 (d := d_131) rfl
  obtain ⟨fd132, F132⟩ := cd.def_ 20 (d := d_132) rfl
  obtain ⟨fd139, F139⟩ := cd.def_ 21 (d := d_139) rfl
  have e := hfa.symm.trans (He.glo_ok X G (cd.fact 21 (f := .glo "law") rfl))
  cases e
  have V : EV K mg (fun | 0 => fd0 | 1 => fd1 | 2 => fd2 | 3 => fd3 | 54 => fd54 | 55 => fd55 | 56 => fd56 | 57 => fd57 | 58 => fd58 | 59 => fd59 | 114 => fd114 | 6 => fd6 | 7 => fd7 | 11 => fd11 | 8 => fd8 | 9 => fd9 | 10 => fd10 | 107 => fd107 | 130 => fd130 | 131 => fd131 | 132 => fd132 | 139 => fd139 | _ => fd0) w := ⟨F0, He.glo_ok X G (cd.fact 0 (f := .glo "is_within") rfl), F1, He.glo_ok X G (cd.fact 1 (f := .glo "is_name") rfl), F2, He.glo_ok X G (cd.fact 2 (f := .glo "are_rising") rfl), F3, He.glo_ok X G (cd.fact 3 (f := .glo "are_names") rfl), F54, He.glo_ok X G (cd.fact 4 (f := .glo "are_two") rfl), F55, He.glo_ok X G (cd.fact 5 (f := .glo "is_row") rfl), F56, He.glo_ok X G (cd.fact 6 (f := .glo "numbers_in") rfl), F57, He.glo_ok X G (cd.fact 7 (f := .glo "are_rows") rfl), F58, He.glo_ok X G (cd.fact 8 (f := .glo "need_rows") rfl), F59, He.glo_ok X G (cd.fact 9 (f := .glo "in_course") rfl), F114, He.glo_ok X G (cd.fact 10 (f := .glo "course_of") rfl), F6, He.glo_ok X G (cd.fact 11 (f := .glo "_law_draws") rfl), F7, He.glo_ok X G (cd.fact 12 (f := .glo "_law_draw") rfl), F11, He.glo_ok X G (cd.fact 13 (f := .glo "_law_names") rfl), F8, He.glo_ok X G (cd.fact 14 (f := .glo "_law_some") rfl), F9, He.glo_ok X G (cd.fact 15 (f := .glo "_law_rule") rfl), F10, He.glo_ok X G (cd.fact 16 (f := .glo "_law_book") rfl), F107, He.glo_ok X G (cd.fact 17 (f := .glo "_law_shop") rfl), F130, He.glo_ok X G (cd.fact 18 (f := .glo "_law_any_order") rfl), F131, He.glo_ok X G (cd.fact 19 (f := .glo "_law_rows") rfl), F132, He.glo_ok X G (cd.fact 20 (f := .glo "_law_case") rfl), F139, He.glo_ok X G (cd.fact 21 (f := .glo "law") rfl), He.free_ok X G (cd.fact 22 (f := .free "all") rfl), He.free_ok X G (cd.fact 23 (f := .free "bool") rfl), He.free_ok X G (cd.fact 24 (f := .free "int") rfl), He.free_ok X G (cd.fact 25 (f := .free "isinstance") rfl), He.free_ok X G (cd.fact 26 (f := .free "len") rfl), He.free_ok X G (cd.fact 27 (f := .free "list") rfl), He.free_ok X G (cd.fact 28 (f := .free "max") rfl), He.free_ok X G (cd.fact 29 (f := .free "min") rfl), He.free_ok X G (cd.fact 30 (f := .free "range") rfl), He.free_ok X G (cd.fact 31 (f := .free "set") rfl), He.free_ok X G (cd.fact 32 (f := .free "sorted") rfl), He.free_ok X G (cd.fact 33 (f := .free "str") rfl), He.free_ok X G (cd.fact 34 (f := .free "tuple") rfl), He.glo_ok X G (cd.fact 35 (f := .glo "LENGTHS") rfl), tabIB_ok cx.1 (c.t.tab 0 rfl), He.str_ok X G (cd.fact 36 (f := .str "LETTERS" "abcdefghijklmnopqrstuvwxyz") rfl), He.int_ok X G (cd.fact 37 (f := .int "MOST_DAY" 1000000) rfl), He.int_ok X G (cd.fact 38 (f := .int "MOST_NUMBER" 1000000) rfl), He.int_ok X G (cd.fact 39 (f := .int "MOST_PENCE" 1000000) rfl), He.int_ok X G (cd.fact 40 (f := .int "MOST_ROWS" 200) rfl), He.glo_ok X G (cd.fact 41 (f := .glo "WORDS") rfl), tupSB_ok cx.2⟩
  have b := FunD.bindsA (ps := ["_law_script"]) F139 fun _ _ _ _ _ _ us hl => match us, hl with | [_], _ => rfl
  exact ⟨fd139, fun s v => b s [v] rfl, fun base _ _ => (ok_all V 40).o_139⟩
theorem sp_law {K : PySem.W.Frag} {w : World} (H : Hp) (a : Addr) (ns : List Int) (hl : ns.length ≤ 63) (hS : SqL K H a (ns.map V.int)) : spF (Gc K w) 1 (LW.callF 40 139) [.ref a] H (fun v _ => v = .bl true) fun _ _ _ => False := by
  refine ⟨H, add nil0 nil0, [(.fz, .scr ns)], rfl, Same.refl H, .cons (.fz (.scr hS)) .nil, fun a => by simp [add, nil0], fun a _ => rfl, ?_⟩
  rw [LW.law_true ns hl]
  intro v F' H' T' f s1 s2 ou o le di
  cases o with
  | fz r => cases r; rfl
end LW
open PySem PySem.W PySem.Calls PyProof.Rows
theorem PySem.Challenge.cw_tuckbook_k07_the_course_of_rows_holds : PySem.Challenge.rw_tuckbook_k07_the_course_of_rows.Holds := by
  w_on; o_law
  refine HandSHeadRun.head_any (r := LW.R) (q := LW.qv) (H := LW.hk) (ob := LW.ob) (M := 9000) (loose := LW.loose) (d := HandSHeadRun.topDef LW.R.prog 35) (kwd := []) LW.ob_eq
    (by kernel_rfl) (fun s => by kernel_rfl) LW.run (by kernel_rfl) (by kernel_rfl) (by kernel_rfl) (by rfl) (by first | assumption | decide +kernel) (by decide +kernel) ⟨rfl, rfl, rfl, rfl, rfl, by decide +kernel⟩ ?hw ?hc
  case hw => w_witness2
  case hc =>
    refine L2.walk_ofEw (l := PySem.Challenge.rw_tuckbook_k07_the_course_of_rows) (n := 63) (k := 40) (x := "_law_script") (CX := fun w => L2.CX PySem.Challenge.rw_tuckbook_k07_the_course_of_rows.prog w) rfl (by decide) (by kernel_rfl) ⟨rfl, by decide, by decide⟩ ?F ?X
    case X =>
      intro w H s e s' z
      obtain ⟨_, _, _, _, _, _, _, _, _, _, _, _, z⟩ := z
      exact z
    intro w mg fa h Y G hmg0
    obtain ⟨K, KX, c⟩ := Y
    have hmg : mg ("law" : PySem.Str) = some (.ref fa) := by
      have e : (HandSHeadRun.topDef LW.R.prog 35).name = ("law" : PySem.Str) := by kernel_rfl
      rw [← e]
      exact hmg0
    obtain ⟨fd, hb, hF⟩ := LW.facts (P := (PySem.Challenge.rw_tuckbook_k07_the_course_of_rows).prog) (w := w) KX G hmg c
    exact ⟨K, fd, _, KX, hb, fun H a ns hl hS => LW.sp_law H a ns hl hS, hF⟩

