import PyProof.Rows.All
import Wide.All
import OpenK.AllK
import Wide.FinOn
import HandS.ForMost
import HandS.ForExc
import KE.KDictKeyed
import HandS.Walk
import HandS.ExcCtx
import HandS.Defaults
import HandS.More
import HandS.Wide
import HandS.IsInst
import HandS.TupAny
import HandS.TupMul
import HandS.Style
import HandS.Conv
import HandS.SortInts
import KE.KStateDown
import HandS.HeadEnd
import KE.SortData
import KE.DataCmp
import KE.DataMinMax
import KE.KDictCopyH
import KE.KDictSum
import HandS.TupSets
import HandS.Deep
import HandS.Flow
import HandS.Strs
import HandS.ListItems
import KE.KDictItemsList
import KE.KTupSum
import PyProof.AssignAttr
import KE.GoesEnum
import HandS.OwnIter
import PyProof.Rows.StrInSeq3
import HandS.SetFor
import HandS.HotCalls
import KE.KExcIs
import HandS.ExcIs
import HandS.ExcField
import HandS.ExcInitHot
import HandS.NamedTupSort
import KE.KCallOwn
import Lean
import HandS.Head0
import HandS.Head1
import HandS.Head2
import HandS.HeadHook1
import HandS.HeadHook2
import HandS.HeadHook3
import HandS.HeadHook4
import PySem.Challenge.RW_tuckbook_k31_spans_by_their_own_words
set_option Elab.async false
set_option linter.all false
set_option maxRecDepth 100000
set_option maxHeartbeats 0
/-! TbM: the mirror. Data, kinds of ownership, slots, the meanings of constructs; core Lean alone. -/
namespace TB

/-- data -/
inductive D where
  | non | bl (b : Bool) | int (i : Int) | str (s : List Nat)
  | scr (xs : List Int) | tup (xs : List D) | lst (xs : List D) | dic (kvs : List (D × D)) | dit (kvs : List (D × D)) | ldc (kvs : List (D × D)) | ob (c : Nat) (fs : List D) | fn (k : Nat)
  deriving Inhabited

/-- who may change it: fz nobody; else it is owned by the slot (or the temporary) that holds it -/
inductive Kd where
  | fz | li (k : Kd) | dK (k : Kd) | dT (k : Kd) | dR (ks : List Kd) | dN | ob (ks : List Kd)
  deriving Inhabited

abbrev KD := Kd × D
abbrev Slot := Option KD
/-- an exception: its class, what its field (or its text) is -/
structure Xc where
  c : Nat
  arg : D
inductive R (α : Type) where
  | ok (a : α) (S : List Slot) | exc (x : Xc) (S : List Slot) | bad
abbrev M (α : Type) := List Slot → R α

def R.bind {α β : Type} : R α → (α → M β) → R β
  | .ok a S, f => f a S
  | .exc x S, _ => .exc x S
  | .bad, _ => .bad
def M.pure {α : Type} (a : α) : M α := fun S => .ok a S
def M.bind {α β : Type} (m : M α) (f : α → M β) : M β := fun S => (m S).bind f

/-! ### expressions -/
abbrev E := M KD
/-- a frozen slot -/
def eVar (i : Nat) : E := fun S => match S[i]? with
  | some (some (.fz, d)) => .ok (.fz, d) S
  | _ => .bad
/-- a slot moved out -/
def eMv (i : Nat) : E := fun S => match S[i]? with
  | some (some kd) => .ok kd (S.set i none)
  | _ => .bad
def eCon (d : D) : E := fun S => .ok (.fz, d) S
/-- what is owned is frozen from here on -/
def eFr (e : E) : E := M.bind e fun kd => M.pure (.fz, kd.2)
/-- data without references -/
def D.flat : D → Bool
  | .non => true
  | .bl _ => true
  | .int _ => true
  | .str _ => true
  | _ => false
def frz (s : Slot) : Slot := s.map fun kd => (.fz, kd.2)
/-- a look at owned things that gives flat data -/
def ePeek (e : E) : E := fun S => match e (S.map frz) with
  | .ok (_, d) _ => if d.flat then .ok (.fz, d) S else .bad
  | _ => .bad
/-- frozen data of an expression: what it makes is frozen -/
def eDat (e : E) : M D := M.bind e fun kd => M.pure kd.2
def eAll : List E → M (List D)
  | [] => M.pure []
  | e :: es => M.bind (eDat e) fun d => M.bind (eAll es) fun ds => M.pure (d :: ds)
/-- what an operation gives; no answer: not promised -/
def ofO : Option KD → E
  | some kd => M.pure kd
  | none => fun _ => .bad
def eApp (f : List D → Option KD) (es : List E) : E := M.bind (eAll es) fun ds => ofO (f ds)
def eOp (f : D → D → Option KD) (a b : E) : E := M.bind (eDat a) fun x => M.bind (eDat b) fun y => ofO (f x y)
def eUn (f : D → Option KD) (a : E) : E := M.bind (eDat a) fun x => ofO (f x)
def eBool (e : E) : M Bool := M.bind e fun kd => match kd.2 with
  | .bl b => M.pure b
  | _ => fun _ => .bad
def eAnd (a b : E) : E := M.bind (eBool a) fun c => if c then b else M.pure (.fz, .bl false)
def eOr (a b : E) : E := M.bind (eBool a) fun c => if c then M.pure (.fz, .bl true) else b
def eNot (a : E) : E := M.bind (eBool a) fun c => M.pure (.fz, .bl (!c))
/-! tests -/
abbrev T := M Bool
def tAnd (a b : T) : T := M.bind a fun c => if c then b else M.pure false
def tOr (a b : T) : T := M.bind a fun c => if c then M.pure true else b
def tNot (a : T) : T := M.bind a fun c => M.pure (!c)
/-- a test that looks at owned things -/
def tPeek (c : T) : T := fun S => match c (S.map frz) with
  | .ok b _ => .ok b S
  | _ => .bad
def eIf (c : T) (a b : E) : E := M.bind c fun x => if x then a else b
/-- a < b < c -/
def chain2 (g : D → D → Option KD) (c : E) (y : D) : Option KD → E
  | some (.fz, .bl b) => if b then M.bind (eDat c) fun z => ofO (g y z) else M.pure (.fz, .bl false)
  | _ => fun _ => .bad
def eChain (f g : D → D → Option KD) (a b c : E) : E := M.bind (eDat a) fun x => M.bind (eDat b) fun y => chain2 g c y (f x y)
def sizeMax : Nat := 16777216
def fTup (ds : List D) : Option KD := if ds.length ≤ sizeMax then some (.fz, .tup ds) else none
def fLst (ds : List D) : Option KD := if ds.length ≤ sizeMax then some (.li .fz, .lst ds) else none
/-- the items of what is walked -/
def itemsOf (d : D) : Option (List D) := match d with
  | .lst xs => some xs
  | .tup xs => some xs
  | _ => none
abbrev It := M (List D)
def itSeq (e : E) : It := M.bind (eDat e) fun d => match itemsOf d with
  | some xs => M.pure xs
  | none => fun _ => .bad
/-- a text, sign by sign -/
def itStr (e : E) : It := M.bind (eDat e) fun d => match d with
  | .str s => M.pure (s.map fun c => .str [c])
  | _ => fun _ => .bad
def rangeL (lo : Int) (n : Nat) : List D := (List.range n).map fun (i : Nat) => D.int (lo + (i : Int))
/-- (naturals on the left: what is compared so does not run off by itself) -/
def limN : Nat := 4611686018427387904
def itRange1 (e : E) : It := M.bind (eDat e) fun d => match d with
  | .int j => if j.natAbs < limN then M.pure (rangeL 0 j.toNat) else fun _ => .bad
  | _ => fun _ => .bad
def itRange2 (a b : E) : It := M.bind (eDat a) fun x => M.bind (eDat b) fun y => match x, y with
  | .int i, .int j => if i.natAbs < limN ∧ j.natAbs < limN then M.pure (rangeL i (j - i).toNat) else fun _ => .bad
  | _, _ => fun _ => .bad
/-! targets -/
inductive Tg where
  | nm (i : Nat) | tp (is : List Tg)
mutual
def Tg.put : Tg → D → List Slot → Option (List Slot)
  | .nm i, d, S => if i < S.length then some (S.set i (some (.fz, d))) else none
  | .tp is, d, S => match d with
    | .tup xs => Tg.puts is xs S
    | _ => none
def Tg.puts : List Tg → List D → List Slot → Option (List Slot)
  | [], [], S => some S
  | g :: gs, d :: ds, S => (Tg.put g d S).bind fun S => Tg.puts gs ds S
  | _, _, _ => none
end
/-! ### statements -/
inductive Fl where
  | nx | rt (r : KD) | bk | ct
abbrev St := M Fl
def sNx : St := M.pure .nx
def sSet (i : Nat) (e : E) : St := M.bind e fun kd S => if i < S.length then .ok .nx (S.set i (some kd)) else .bad
/-- a new tuple laid out -/
def sPut (g : Tg) (e : E) : St := M.bind (eDat e) fun d S => match g.put d S with
  | some S' => .ok .nx S'
  | none => .bad
def sSeq (a b : St) : St := M.bind a fun f => match f with
  | .nx => b
  | f => M.pure f
def sRet (e : E) : St := M.bind e fun kd => M.pure (.rt kd)
def sRetN : St := M.pure (.rt (.fz, .non))
def sDrop (e : E) : St := M.bind e fun _ => M.pure .nx
def sIf (c : T) (a b : St) : St := M.bind c fun x => if x then a else b
def sBrk : St := M.pure .bk
def sCont : St := M.pure .ct
def sWhile : Nat → T → St → St
  | 0, _, _ => fun _ => .bad
  | n + 1, c, b => M.bind c fun x => if x then M.bind b fun f => match f with
      | .nx => sWhile n c b
      | .ct => sWhile n c b
      | .bk => M.pure .nx
      | .rt r => M.pure (.rt r)
    else M.pure .nx
def loop (g : Tg) (b : St) : List D → St
  | [] => M.pure .nx
  | d :: ds => fun S => match g.put d S with
    | none => .bad
    | some S => (b S).bind fun f => match f with
      | .nx => loop g b ds
      | .ct => loop g b ds
      | .bk => M.pure .nx
      | .rt r => M.pure (.rt r)
def sFor (it : It) (g : Tg) (b : St) : St := M.bind it fun ds => loop g b ds
/-! comprehensions: vs the block's own slots -/
def wipeS (S : List Slot) : List Nat → List Slot
  | [] => S
  | v :: vs => (wipeS S vs).set v none
/-- the own slots as they were ahead -/
def backS (S0 : List Slot) : List Slot → List Nat → List Slot
  | S, [] => S
  | S, v :: vs => backS S0 (S.set v (S0.getD v none)) vs
def noDup : List Nat → Bool
  | [] => true
  | v :: vs => !vs.contains v && noDup vs
mutual
def Tg.sl : Tg → List Nat
  | .nm i => [i]
  | .tp ts => Tg.sls ts
def Tg.sls : List Tg → List Nat
  | [] => []
  | t :: ts => Tg.sl t ++ Tg.sls ts
end
def cLoop (g : Tg) (vs : List Nat) (c : T) (e : E) : List D → List D → M (List D)
  | [], acc => M.pure acc
  | d :: ds, acc => fun S => match g.put d S with
    | none => .bad
    | some S => (c S).bind fun b => if b then M.bind (eDat e) fun y S => if acc.length < sizeMax then cLoop g vs c e ds (acc ++ [y]) (wipeS S vs) else .bad
      else fun S => cLoop g vs c e ds acc (wipeS S vs)
def fzAt (S : List Slot) (v : Nat) : Bool := match S[v]? with
  | some none => true
  | some (some (.fz, _)) => true
  | _ => false
def eLc (it : It) (g : Tg) (vs : List Nat) (c : T) (e : E) : E := M.bind it fun ds S0 => if (vs.all (fzAt S0) && noDup vs && g.sl.all vs.contains) = true then
    match cLoop g vs c e ds [] (wipeS S0 vs) with
    | .ok acc S => .ok (.li .fz, .lst acc) (backS S0 S vs)
    | _ => .bad
  else .bad
def tTrue : T := M.pure true
def normIx (n : Nat) (i : Int) : Option Nat := if 0 ≤ i then (if i < n then some i.toNat else none) else if -(n : Int) ≤ i then some (i + n).toNat else none
/-! ### operations on data -/
def kz (d : D) : Option KD := some (.fz, d)
def D.toB : Bool → D := .bl
/-- below 2^500 -/
abbrev small (i : Int) : Prop := i.natAbs < 3273390607896141870013189696827599152216642046043064789483291368096133796404674554883270092325904157150886684127560071009217256545885393053328527589376
def fAdd : D → D → Option KD
  | .int i, .int j => kz (.int (i + j))
  | .str a, .str b => if a.length + b.length ≤ sizeMax then kz (.str (a ++ b)) else none
  | .lst a, .lst b => if a.length + b.length ≤ sizeMax then some (.li .fz, .lst (a ++ b)) else none
  | .tup a, .tup b => if a.length + b.length ≤ sizeMax then kz (.tup (a ++ b)) else none
  | _, _ => none
def fSub : D → D → Option KD
  | .int i, .int j => kz (.int (i - j))
  | _, _ => none
def fMul : D → D → Option KD
  | .int i, .int j => if small i ∧ small j then kz (.int (i * j)) else none
  | .tup a, .int j => if a ≠ [] ∧ 2 ≤ j ∧ j.natAbs ≤ 1000 ∧ a.length ≤ 1000 then kz (.tup (List.replicate j.toNat a).flatten) else none
  | .lst a, .int j => if 0 ≤ j ∧ j.natAbs ≤ 1000 ∧ a.length ≤ 1000 then some (.li .fz, .lst (List.replicate j.toNat a).flatten) else none
  | _, _ => none
def fMod : D → D → Option KD
  | .int i, .int j => if 0 < j then kz (.int (i % j)) else none
  | _, _ => none
def fDiv : D → D → Option KD
  | .int i, .int j => if 0 < j ∧ small j then kz (.int (i / j)) else none
  | _, _ => none
def fNeg : D → Option KD
  | .int i => kz (.int (-i))
  | _ => none
def fPow : D → D → Option KD
  | .int i, .int j => if 0 ≤ j ∧ j.natAbs ≤ 1000000 ∧ i.natAbs < 2 ^ 64 then kz (.int (i ^ j.toNat)) else none
  | _, _ => none
def fLt : D → D → Option KD
  | .int i, .int j => kz (.bl (decide (i < j)))
  | .str a, .str b => kz (.bl (decide (a < b)))
  | _, _ => none
def fLe : D → D → Option KD
  | .int i, .int j => kz (.bl (decide (i ≤ j)))
  | .str a, .str b => kz (.bl (!decide (b < a)))
  | _, _ => none
def fGt : D → D → Option KD
  | .int i, .int j => kz (.bl (decide (j < i)))
  | .str a, .str b => kz (.bl (decide (b < a)))
  | _, _ => none
def fGe : D → D → Option KD
  | .int i, .int j => kz (.bl (decide (j ≤ i)))
  | .str a, .str b => kz (.bl (!decide (a < b)))
  | _, _ => none
def fIx : D → D → Option KD
  | .scr xs, .int i => (normIx xs.length i).bind fun n => xs[n]?.bind fun j => kz (.int j)
  | .lst xs, .int i => (normIx xs.length i).bind fun n => xs[n]?.bind kz
  | .tup xs, .int i => (normIx xs.length i).bind fun n => xs[n]?.bind kz
  | .str s, .int i => if s.length ≤ sizeMax then (normIx s.length i).bind fun n => s[n]?.bind fun c => kz (.str [c]) else none
  | _, _ => none
def fLen : List D → Option KD
  | [.scr xs] => kz (.int xs.length)
  | [.lst xs] => kz (.int xs.length)
  | [.tup xs] => kz (.int xs.length)
  | [.str s] => if s.length ≤ sizeMax then kz (.int s.length) else none
  | _ => none
def fIsN : D → D → Option KD
  | x, .non => kz (.bl (match x with | .non => true | _ => false))
  | _, _ => none
def fNotN : D → D → Option KD
  | x, .non => kz (.bl (match x with | .non => false | _ => true))
  | _, _ => none
def fIsB : D → D → Option KD
  | .bl a, .bl b => kz (.bl (decide (a = b)))
  | _, _ => none
def fNotB : D → D → Option KD
  | .bl a, .bl b => kz (.bl (!decide (a = b)))
  | _, _ => none
def fIntB : List D → Option KD
  | [.int i] => kz (.int i)
  | [.bl b] => kz (.int (if b then 1 else 0))
  | _ => none
def fMin2 : List D → Option KD
  | [.int i, .int j] => kz (.int (if j < i then j else i))
  | _ => none
def fMax2 : List D → Option KD
  | [.int i, .int j] => kz (.int (if j > i then j else i))
  | _ => none
def fList : List D → Option KD
  | [.lst xs] => some (.li .fz, .lst xs)
  | [.tup xs] => some (.li .fz, .lst xs)
  | [.dic kvs] => some (.li .fz, .lst (kvs.map (·.1)))
  | _ => none
def fTuple : List D → Option KD
  | [.lst xs] => kz (.tup xs)
  | [.tup xs] => kz (.tup xs)
  | _ => none
def boolsOf : List D → Option (List Bool)
  | [] => some []
  | .bl b :: ds => (boolsOf ds).map (b :: ·)
  | _ => none
def fAllB : List D → Option KD
  | [.lst xs] => (boolsOf xs).bind fun bs => kz (.bl (bs.all id))
  | _ => none
/-- c in a text, c one sign -/
def fInS : D → D → Option KD
  | .str [c], .str s => kz (.bl (decide (c ∈ s)))
  | _, _ => none
def fNotInS : D → D → Option KD
  | .str [c], .str s => kz (.bl (!decide (c ∈ s)))
  | _, _ => none
/-! == of data -/
mutual
def D.eqv : D → D → Bool
  | .non, .non => true
  | .bl a, .bl b => a == b
  | .bl a, .int j => (if a then 1 else 0) == j
  | .int i, .bl b => i == (if b then 1 else 0)
  | .int i, .int j => i == j
  | .str a, .str b => a == b
  | .lst xs, .lst ys => D.eqvs xs ys
  | .tup xs, .tup ys => D.eqvs xs ys
  | _, _ => false
def D.eqvs : List D → List D → Bool
  | [], [] => true
  | x :: xs, y :: ys => D.eqv x y && D.eqvs xs ys
  | _, _ => false
end
mutual
/-- made of numbers, truths, None, texts, lists, tuples, at most n within one another -/
def D.lay : Nat → D → Bool
  | _, .non => true
  | _, .bl _ => true
  | _, .int _ => true
  | _, .str s => s.all (· < 1114112)
  | n + 1, .lst xs => D.lays n xs
  | n + 1, .tup xs => D.lays n xs
  | _, _ => false
def D.lays : Nat → List D → Bool
  | _, [] => true
  | n, x :: xs => D.lay n x && D.lays n xs
end
def eqOk (x y : D) : Bool := (x.flat && y.flat) || (x.lay 60 && y.lay 60)
def fEq (x y : D) : Option KD := if eqOk x y = true then kz (.bl (D.eqv x y)) else none
def fNe (x y : D) : Option KD := if eqOk x y = true then kz (.bl (!D.eqv x y)) else none
/-- x in xs, xs of flat data -/
def fIn (x y : D) : Option KD := match itemsOf y with
  | some ys => if x.flat && ys.all D.flat then kz (.bl (ys.any fun y => D.eqv y x)) else none
  | none => none
def fNotIn (x y : D) : Option KD := match itemsOf y with
  | some ys => if x.flat && ys.all D.flat then kz (.bl (!ys.any fun y => D.eqv y x)) else none
  | none => none
def fOr (f g : D → D → Option KD) (x y : D) : Option KD := match f x y with
  | some a => some a
  | none => g x y
def fInA : D → D → Option KD := fOr fIn fInS
def fNotInA : D → D → Option KD := fOr fNotIn fNotInS
def fIsA : D → D → Option KD := fOr fIsN fIsB
def fIsNotA : D → D → Option KD := fOr fNotN fNotB
/-! isinstance -/
inductive Ty where
  | int | bool | str | list | tuple
def D.isTy : Ty → D → Option Bool
  | .int, .int _ => some true
  | .int, .bl _ => some true
  | .bool, .bl _ => some true
  | .str, .str _ => some true
  | .list, .lst _ => some true
  | .tuple, .tup _ => some true
  | _, .scr _ => none
  | _, .dic _ => none
  | _, .dit _ => none
  | _, .ldc _ => none
  | _, .ob _ _ => none
  | _, .fn _ => none
  | _, _ => some false
def fIsi (t : Ty) (d : D) : Option KD := (d.isTy t).bind fun b => kz (.bl b)
def eIsi (t : Ty) (e : E) : E := eUn (fIsi t) e
/-! slices -/
def ixS (n d : Nat) : Option Int → Nat
  | none => d
  | some v => if v < 0 then (v + (n : Int)).toNat else min v.toNat n
def cutL {α : Type} (xs : List α) (lo hi : Option Int) : List α := (xs.drop (ixS xs.length 0 lo)).take (ixS xs.length xs.length hi - ixS xs.length 0 lo)
def fSl (d : D) (lo hi : Option Int) : Option KD := match d with
  | .lst xs => some (.li .fz, .lst (cutL xs lo hi))
  | .tup xs => kz (.tup (cutL xs lo hi))
  | .str s => if s.length ≤ sizeMax then kz (.str (cutL s lo hi)) else none
  | _ => none
def eOpt : Option E → M (Option Int)
  | none => M.pure none
  | some e => M.bind (eDat e) fun d => match d with
    | .int i => M.pure (some i)
    | _ => fun _ => .bad
def eSl (a : E) (lo hi : Option E) : E := M.bind (eDat a) fun x => M.bind (eOpt lo) fun l => M.bind (eOpt hi) fun h => ofO (fSl x l h)
def fRev : D → Option KD
  | .lst xs => some (.li .fz, .lst xs.reverse)
  | _ => none
/-! sorted, join -/
def intsOf : List D → Option (List Int)
  | [] => some []
  | .int i :: ds => (intsOf ds).map (i :: ·)
  | _ => none
def strsOf : List D → Option (List (List Nat))
  | [] => some []
  | .str i :: ds => (strsOf ds).map (i :: ·)
  | _ => none
def sortI (xs : List Int) : List Int := xs.mergeSort fun a b => decide (a ≤ b)
def sortT (xs : List (List Nat)) : List (List Nat) := xs.mergeSort fun a b => !decide (b < a)
def fSorted : List D → Option KD
  | [.lst xs] => match intsOf xs with
    | some is => some (.li .fz, .lst ((sortI is).map D.int))
    | none => match strsOf xs with
      | some ss => if ss.length < 64 then some (.li .fz, .lst ((sortT ss).map D.str)) else none
      | none => none
  | _ => none
def joinD (s : List Nat) : List (List Nat) → List Nat
  | [] => []
  | [p] => p
  | p :: q :: r => p ++ (s ++ joinD s (q :: r))
def fJoin (s : List Nat) (d : D) : Option KD := match d with
  | .lst xs => (strsOf xs).bind fun ss => if (ss.map (·.length)).sum + ss.length * s.length ≤ sizeMax then kz (.str (joinD s ss)) else none
  | _ => none
def eJoin (a b : E) : E := M.bind (eDat a) fun x => match x with
  | .str s => M.bind (eDat b) fun y => ofO (fJoin s y)
  | _ => fun _ => .bad
/-- a look at owned things that gives a new list of flat data -/
def ePeekL (e : E) : E := fun S => match e (S.map frz) with
  | .ok (.li .fz, .lst ds) _ => if ds.all D.flat then .ok (.li .fz, .lst ds) S else .bad
  | _ => .bad
/-- list(range(n)) -/
def eLRg1 (a : E) : E := M.bind (eDat a) fun d => match d with
  | .int j => if j.natAbs ≤ sizeMax then M.pure (.li .fz, .lst (rangeL 0 j.toNat)) else fun _ => .bad
  | _ => fun _ => .bad
/-! ### owned things changed -/
/-- the own list of slot i -/
def ownL (S : List Slot) (i : Nat) : Option (List D) := match S[i]? with
  | some (some (.li .fz, .lst xs)) => some xs
  | _ => none
def hasL (i : Nat) : M Unit := fun S => match ownL S i with
  | some _ => .ok () S
  | none => .bad
/-- the own dict of slot i -/
def ownK (S : List Slot) (i : Nat) : Option (List (D × D)) := match S[i]? with
  | some (some (.dK .fz, .dic xs)) => some xs
  | _ => none
def hasK (i : Nat) : M Unit := fun S => match ownK S i with
  | some _ => .ok () S
  | none => .bad
/-- xs[k] = e -/
def sSetIx (i : Nat) (k e : E) : St := M.bind (eDat e) fun y => M.bind (hasL i) fun _ => M.bind (eDat k) fun x S => match ownL S i, x with
  | some xs, .int j => match normIx xs.length j with
    | some n => .ok .nx (S.set i (some (.li .fz, .lst (xs.set n y))))
    | none => .bad
  | _, _ => .bad
/-- xs[k] of an own list: its items are frozen -/
def eIxO (i : Nat) (k : E) : E := M.bind (hasL i) fun _ => M.bind (eDat k) fun x S => match ownL S i, x with
  | some xs, .int j => match (normIx xs.length j).bind fun n => xs[n]? with
    | some d => .ok (.fz, d) S
    | none => .bad
  | _, _ => .bad
/-- the slot i, frozen where it stands -/
def eFzV (i : Nat) : E := fun S => match S[i]? with
  | some (some (_, d)) => .ok (.fz, d) (S.set i (some (.fz, d)))
  | _ => .bad
/-- xs.m(..): what comes, what becomes of xs -/
def eMth (f : List D → List D → Option (D × List D)) (i : Nat) (es : List E) : E := M.bind (hasL i) fun _ => M.bind (eAll es) fun ds S => match ownL S i with
  | some xs => match f xs ds with
    | some (r, ys) => .ok (.fz, r) (S.set i (some (.li .fz, .lst ys)))
    | none => .bad
  | none => .bad
def fAppend : List D → List D → Option (D × List D)
  | xs, [y] => if xs.length < sizeMax then some (.non, xs ++ [y]) else none
  | _, _ => none
def fPopAt : List D → List D → Option (D × List D)
  | xs, [.int i] => if i.natAbs < limN then (normIx xs.length i).bind fun n => xs[n]?.map fun d => (d, xs.eraseIdx n) else none
  | _, _ => none
def fInsert : List D → List D → Option (D × List D)
  | xs, [.int i, y] => if 0 ≤ i ∧ i.natAbs < limN ∧ xs.length < sizeMax then some (.non, xs.take i.toNat ++ [y] ++ xs.drop i.toNat) else none
  | _, _ => none
/-- xs[a:b] = ys -/
def sSetSl (i : Nat) (a b e : E) : St := M.bind (eDat e) fun y => M.bind (hasL i) fun _ => M.bind (eDat a) fun p => match p with
  | .int l => M.bind (eDat b) fun q => match q with
    | .int h => match y with
      | .lst ys => fun S => match ownL S i with
        | some xs => if 0 ≤ l ∧ l ≤ h ∧ l ≤ xs.length ∧ xs.length + ys.length ≤ sizeMax then .ok .nx (S.set i (some (.li .fz, .lst (xs.take l.toNat ++ ys ++ xs.drop h.toNat)))) else .bad
        | none => .bad
      | _ => fun _ => .bad
    | _ => fun _ => .bad
  | _ => fun _ => .bad
/-- xs[a:b] of an own list -/
def eSlO (i : Nat) (lo hi : Option E) : E := M.bind (hasL i) fun _ => M.bind (eOpt lo) fun l => M.bind (eOpt hi) fun h S => match ownL S i with
  | some xs => .ok (.li .fz, .lst (cutL xs l h)) S
  | none => .bad
/-- {} -/
def eDnew : E := M.pure (.dK .fz, .dic [])
def isKey : D → Bool
  | .int _ => true
  | .str _ => true
  | _ => false
def putD (kvs : List (D × D)) (k v : D) : List (D × D) := if (kvs.any fun p => D.eqv p.1 k) = true then kvs.map (fun p => if D.eqv p.1 k = true then (p.1, v) else p) else kvs ++ [(k, v)]
def valD (kvs : List (D × D)) (k : D) : Option D := (kvs.find? fun p => D.eqv p.1 k).map (·.2)
/-- d[k], d.get(k, z), k in d, of an own dict -/
def eGetO (i : Nat) (k : E) : E := M.bind (hasK i) fun _ => M.bind (eDat k) fun x S => match ownK S i with
  | some kvs => (match isKey x, valD kvs x with
    | true, some d => .ok (.fz, d) S
    | _, _ => .bad)
  | none => .bad
def eGet2O (i : Nat) (k z : E) : E := M.bind (hasK i) fun _ => M.bind (eDat k) fun x => M.bind (eDat z) fun w S => match ownK S i with
  | some kvs => if isKey x = true then .ok (.fz, (valD kvs x).getD w) S else .bad
  | none => .bad
/-- .. of a frozen one -/
def fGet : D → D → Option KD
  | .dic kvs, x => if isKey x = true then (valD kvs x).bind kz else none
  | _, _ => none
def fInD : D → D → Option KD
  | x, .dic kvs => if isKey x = true then kz (.bl (valD kvs x).isSome) else none
  | _, _ => none
def fNotInD : D → D → Option KD
  | x, .dic kvs => if isKey x = true then kz (.bl (!(valD kvs x).isSome)) else none
  | _, _ => none
/-- d[k] = e -/
def sDput (i : Nat) (k e : E) : St := M.bind (eDat e) fun y => M.bind (hasK i) fun _ => M.bind (eDat k) fun x S => match ownK S i with
  | some kvs => if isKey x = true ∧ kvs.length < sizeMax then .ok .nx (S.set i (some (.dK .fz, .dic (putD kvs x y)))) else .bad
  | none => .bad
/-! ### functions -/
inductive FR where
  | ret (r : KD) (outs : List KD) | exc (x : Xc) (outs : List KD) | bad
abbrev Fn := List KD → FR
def Kd.isF : Kd → Bool
  | .fz => true
  | _ => false
/-- what stands in the owned parameters' slots at the end -/
def outsOf : List KD → List Slot → Option (List KD)
  | [], _ => some []
  | (k, _) :: as, s :: S => if k.isF then outsOf as S else match s with
    | some kd => if kd.1.isF then none else (outsOf as S).map (kd :: ·)
    | none => none
  | _ :: _, [] => none
/-- the owned arguments stand in slots that the body leaves to them -/
def pinned (pk : List Nat) : Nat → List KD → Bool
  | _, [] => true
  | i, (k, _) :: as => (k.isF || pk.contains i) && pinned pk (i + 1) as
def frOf (as : List KD) (r : KD) (S : List Slot) : FR := match outsOf as S with
  | some o => .ret r o
  | none => .bad
def runF (n : Nat) (pk : List Nat) (body : St) : Fn := fun as => if pinned pk 0 as = true then match body (as.map some ++ List.replicate (n - as.length) none) with
    | .ok (.rt r) S => frOf as r S
    | .ok .nx S => frOf as (.fz, .non) S
    | .exc x S => (match outsOf as S with | some o => .exc x o | none => .bad)
    | _ => .bad
  else .bad
/-- an argument: frozen data, an owned temporary, a slot lent -/
inductive Ar where
  | v (e : E) | o (e : E) | b (i : Nat)
inductive AV where
  | v (d : D) | o (kd : KD) | b (i : Nat)
def arEv : List Ar → M (List AV)
  | [] => M.pure []
  | .v e :: as => M.bind (eDat e) fun d => M.bind (arEv as) fun r => M.pure (.v d :: r)
  | .o e :: as => M.bind e fun kd => M.bind (arEv as) fun r => if kd.1.isF then fun _ => .bad else M.pure (.o kd :: r)
  | .b i :: as => fun S => match S[i]? with
    | some (some _) => M.bind (arEv as) (fun r => M.pure (.b i :: r)) S
    | _ => .bad
/-- the arguments as the callee has them; lent slots are empty meanwhile -/
def arIn : List AV → List Slot → Option (List KD × List Slot)
  | [], S => some ([], S)
  | .v d :: as, S => (arIn as S).map fun r => ((.fz, d) :: r.1, r.2)
  | .o kd :: as, S => (arIn as S).map fun r => (kd :: r.1, r.2)
  | .b i :: as, S => match S[i]? with
    | some (some kd) => if kd.1.isF then none else (arIn as (S.set i none)).map fun r => (kd :: r.1, r.2)
    | _ => none
/-- lent slots come back -/
def arOut : List AV → List KD → List Slot → Option (List Slot)
  | [], [], S => some S
  | .v _ :: as, os, S => arOut as os S
  | .o _ :: as, _ :: os, S => arOut as os S
  | .b i :: as, o :: os, S => arOut as os (S.set i (some o))
  | _, _, _ => none
def eCall (F : Fn) (as : List Ar) : E := M.bind (arEv as) fun vs S => match arIn vs S with
  | none => .bad
  | some (ks, S1) => match F ks with
    | .ret r os => (match arOut vs os S1 with | some S2 => .ok r S2 | none => .bad)
    | .exc x os => (match arOut vs os S1 with | some S2 => .exc x S2 | none => .bad)
    | .bad => .bad
end TB

/-! TbM2: order of nested data, what is sorted, the greatest and the least; core Lean alone. -/
namespace TB
mutual
/-- can be compared, place by place -/
def D.alk : D → D → Bool
  | .bl _, .bl _ => true
  | .int _, .int _ => true
  | .str _, .str _ => true
  | .tup xs, .tup ys => D.alks xs ys
  | _, _ => false
def D.alks : List D → List D → Bool
  | x :: xs, y :: ys => D.alk x y && D.alks xs ys
  | [], _ => true
  | _ :: _, [] => true
end
mutual
def D.lt : D → D → Bool
  | .bl a, .bl b => !a && b
  | .int i, .int j => decide (i < j)
  | .str a, .str b => decide (a < b)
  | .tup xs, .tup ys => D.lts xs ys
  | _, _ => false
def D.lts : List D → List D → Bool
  | x :: xs, y :: ys => if D.eqv x y = true then D.lts xs ys else D.lt x y
  | [], _ :: _ => true
  | _, _ => false
end
def leD (x y : D) : Bool := !D.lt y x
def D.isTup1 : D → Bool
  | .tup (_ :: _) => true
  | _ => false
def D.isTup : D → Bool
  | .tup _ => true
  | _ => false
/-- all of one form -/
def alkAll (ds : List D) : Bool := ds.all fun x => ds.all fun y => D.alk x y
/-- tuples, none of them empty, all of one form -/
def sortOk (ds : List D) : Bool := ds.all D.isTup1 && alkAll ds && D.lays 60 ds
def sortD (ds : List D) : List D := ds.mergeSort leD
def fSortD : List D → Option KD
  | [.lst xs] => if sortOk xs = true ∧ xs.length ≤ sizeMax then some (.li .fz, .lst (sortD xs)) else none
  | _ => none
def fOr1 (f g : List D → Option KD) (xs : List D) : Option KD := match f xs with
  | some a => some a
  | none => g xs
def fSortedT : List D → Option KD
  | [.lst xs] => match strsOf xs with
    | some ss => if ss.length ≤ sizeMax then some (.li .fz, .lst ((sortT ss).map D.str)) else none
    | none => none
  | _ => none
def fSortedA : List D → Option KD := fOr1 fSorted (fOr1 fSortedT fSortD)
def cmpOk (x y : D) : Bool := x.isTup && D.alk x y && x.lay 60 && y.lay 60
def fLtD (x y : D) : Option KD := if cmpOk x y = true then kz (.bl (D.lt x y)) else none
def fGtD (x y : D) : Option KD := if cmpOk x y = true then kz (.bl (D.lt y x)) else none
def fLeD (x y : D) : Option KD := if cmpOk x y = true then kz (.bl (!D.lt y x)) else none
def fGeD (x y : D) : Option KD := if cmpOk x y = true then kz (.bl (!D.lt x y)) else none
def fLtA : D → D → Option KD := fOr fLt fLtD
def fGtA : D → D → Option KD := fOr fGt fGtD
def fLeA : D → D → Option KD := fOr fLe fLeD
def fGeA : D → D → Option KD := fOr fGe fGeD
def minD (x : D) (xs : List D) : D := xs.foldl (fun a y => if D.lt y a = true then y else a) x
def maxD (x : D) (xs : List D) : D := xs.foldl (fun a y => if D.lt a y = true then y else a) x
def fMinL : List D → Option KD
  | [.lst (x :: xs)] => if alkAll (x :: xs) = true ∧ D.lays 60 (x :: xs) = true ∧ (x :: xs).length ≤ sizeMax then kz (minD x xs) else none
  | _ => none
def fMaxL : List D → Option KD
  | [.lst (x :: xs)] => if alkAll (x :: xs) = true ∧ D.lays 60 (x :: xs) = true ∧ (x :: xs).length ≤ sizeMax then kz (maxD x xs) else none
  | _ => none
end TB

/-! TbM3: the mirror of objects and of paths into what is owned; core Lean alone. -/
namespace TB
mutual
/-- numbers, truths, texts, None, tuples of such -/
def D.imm : D → Bool
  | .non => true
  | .bl _ => true
  | .int _ => true
  | .str _ => true
  | .tup xs => D.imms xs
  | _ => false
def D.imms : List D → Bool
  | [] => true
  | x :: xs => D.imm x && D.imms xs
end
/-- looks at owned things -/
def ePeekI (e : E) : E := fun S => match e (S.map frz) with
  | .ok (_, d) _ => if d.imm = true then .ok (.fz, d) S else .bad
  | _ => .bad
def ePeekLI (e : E) : E := fun S => match e (S.map frz) with
  | .ok (.li .fz, .lst ds) _ => if D.imms ds = true then .ok (.li .fz, .lst ds) S else .bad
  | _ => .bad
mutual
def Kd.beq : Kd → Kd → Bool
  | .fz, .fz => true
  | .li a, .li b => Kd.beq a b
  | .dK a, .dK b => Kd.beq a b
  | .dT a, .dT b => Kd.beq a b
  | .dR a, .dR b => Kd.beqs a b
  | .dN, .dN => true
  | .ob a, .ob b => Kd.beqs a b
  | _, _ => false
def Kd.beqs : List Kd → List Kd → Bool
  | [], [] => true
  | a :: as, b :: bs => Kd.beq a b && Kd.beqs as bs
  | _, _ => false
end
/-- a step of a path, as it came out -/
inductive PV where
  | fld (c n : Nat) | key (d : D) | ix (i : Int)
def keyAt (kvs : List (D × D)) (k : D) : Option Nat := kvs.findIdx? fun p => D.eqv p.1 k
def getKD : List PV → Kd → D → Option KD
  | [], k, d => some (k, d)
  | .fld c n :: p, .ob ks, .ob c' ds => if c' = c then (match ks[n]?, ds[n]? with
    | some k, some d => getKD p k d
    | _, _ => none) else none
  | .key x :: p, .dK k, .dic kvs => if isKey x = true then (keyAt kvs x).bind fun n => kvs[n]?.bind fun q => getKD p k q.2 else none
  | .key x :: p, .dR ks, .dic kvs => if isKey x = true then (keyAt kvs x).bind fun n => match ks[n]?, kvs[n]? with
    | some k, some q => getKD p k q.2
    | _, _ => none else none
  | .ix i :: p, .li k, .lst ds => (normIx ds.length i).bind fun n => ds[n]?.bind fun d => getKD p k d
  | _, _, _ => none
def setKD : List PV → Kd → D → KD → Option KD
  | [], _, _, kd => some kd
  | .fld c n :: p, .ob ks, .ob c' ds, kd => if c' = c then (match ks[n]?, ds[n]? with
    | some k, some d => (setKD p k d kd).bind fun r => some (.ob (ks.set n r.1), .ob c' (ds.set n r.2))
    | _, _ => none) else none
  | .key x :: p, .dK k, .dic kvs, kd => if isKey x = true then (keyAt kvs x).bind fun n => kvs[n]?.bind fun q => (setKD p k q.2 kd).bind fun r => if Kd.beq r.1 k = true then some (.dK k, .dic (kvs.set n (q.1, r.2))) else none else none
  | .key x :: p, .dR ks, .dic kvs, kd => if isKey x = true then (keyAt kvs x).bind fun n => match ks[n]?, kvs[n]? with
    | some k, some q => (setKD p k q.2 kd).bind fun r => some (.dR (ks.set n r.1), .dic (kvs.set n (q.1, r.2)))
    | _, _ => none else none
  | .ix i :: p, .li k, .lst ds, kd => (normIx ds.length i).bind fun n => ds[n]?.bind fun d => (setKD p k d kd).bind fun r => if Kd.beq r.1 k = true then some (.li k, .lst (ds.set n r.2)) else none
  | _, _, _, _ => none
/-- a step of a path, written -/
inductive PS where
  | fld (c n : Nat) | key (e : E) | ix (e : E)
def eFzD (e : E) (S : List Slot) : Option D := match e S with
  | .ok (.fz, d) _ => some d
  | _ => none
def pEv : List PS → List Slot → Option (List PV)
  | [], _ => some []
  | .fld c n :: ps, S => (pEv ps S).map (.fld c n :: ·)
  | .key e :: ps, S => (eFzD e S).bind fun d => (pEv ps S).map (.key d :: ·)
  | .ix e :: ps, S => match eFzD e S with
    | some (.int i) => (pEv ps S).map (.ix i :: ·)
    | _ => none
/-- what stands at the path -/
structure Tgt where
  pv : List PV
  rk : Kd
  rd : D
  k : Kd
  d : D
def tgt (i : Nat) (ps : List PS) (S : List Slot) : Option Tgt := match S[i]?, pEv ps S with
  | some (some (rk, rd)), some pv => (getKD pv rk rd).map fun kd => ⟨pv, rk, rd, kd.1, kd.2⟩
  | _, _ => none
/-- something else there -/
def Tgt.put (t : Tgt) (i : Nat) (kd : KD) (S : List Slot) : Option (List Slot) := (setKD t.pv t.rk t.rd kd).map fun r => S.set i (some r)
/-- read: what is frozen there -/
def pRd (i : Nat) (ps : List PS) : E := fun S => match tgt i ps S with
  | some ⟨_, _, _, .fz, d⟩ => .ok (.fz, d) S
  | _ => .bad
def pOk {α : Type} (a : α) : Option (List Slot) → R α
  | some S => .ok a S
  | none => .bad
/-- o.f = e: the field n of the object there, a new one behind the others -/
def fldPut (ks : List Kd) (ds : List D) (n : Nat) (kd : KD) : Option (List Kd × List D) :=
  if n < ds.length ∧ ds.length < 900 then some (ks.set n kd.1, ds.set n kd.2) else if n = ds.length ∧ n < 900 then some (ks ++ [kd.1], ds ++ [kd.2]) else none
def pFld (i : Nat) (ps : List PS) (c n : Nat) (e : E) : St := M.bind e fun kd S => match tgt i ps S with
  | some t => match t.k, t.d with
    | .ob ks, .ob c' ds => if c' = c then (match fldPut ks ds n kd with
      | some r => pOk .nx (t.put i (.ob r.1, .ob c r.2) S)
      | none => .bad) else .bad
    | _, _ => .bad
  | none => .bad
/-- o[k] = e of an own dict, an own list -/
def pDput (i : Nat) (ps : List PS) (k e : E) : St := M.bind e fun kd S => match tgt i ps S, eFzD k S with
  | some t, some x => match t.k, t.d with
    | .dK kk, .dic kvs => if isKey x = true ∧ kvs.length < sizeMax ∧ Kd.beq kd.1 kk = true ∧ (kk.isF || (keyAt kvs x).isNone) = true then pOk .nx (t.put i (.dK kk, .dic (putD kvs x kd.2)) S) else .bad
    | _, _ => .bad
  | _, _ => .bad
def pSetIx (i : Nat) (ps : List PS) (k e : E) : St := M.bind e fun kd S => match tgt i ps S, eFzD k S with
  | some t, some (.int j) => match t.k, t.d with
    | .li kk, .lst xs => match normIx xs.length j with
      | some n => if Kd.beq kd.1 kk = true then pOk .nx (t.put i (.li kk, .lst (xs.set n kd.2)) S) else .bad
      | none => .bad
    | _, _ => .bad
  | _, _ => .bad
/-- o[k] of a dict, o.get(k, z), k in o -/
def pGet2 (i : Nat) (ps : List PS) (k z : E) : E := fun S => match tgt i ps S, eFzD k S, eFzD z S with
  | some t, some x, some w => match t.k, t.d with
    | .dK .fz, .dic kvs => if isKey x = true then .ok (.fz, (valD kvs x).getD w) S else .bad
    | _, _ => .bad
  | _, _, _ => .bad
def pNotIn (i : Nat) (ps : List PS) (k : E) : E := fun S => match tgt i ps S, eFzD k S with
  | some t, some x => match t.k, t.d with
    | .dK _, .dic kvs => if isKey x = true then .ok (.fz, .bl (!(valD kvs x).isSome)) S else .bad
    | _, _ => .bad
  | _, _ => .bad
def pIn (i : Nat) (ps : List PS) (k : E) : E := fun S => match tgt i ps S, eFzD k S with
  | some t, some x => match t.k, t.d with
    | .dK _, .dic kvs => if isKey x = true then .ok (.fz, .bl (valD kvs x).isSome) S else .bad
    | _, _ => .bad
  | _, _ => .bad
def eFzDs : List E → List Slot → Option (List D)
  | [], _ => some []
  | e :: es, S => (eFzD e S).bind fun d => (eFzDs es S).map (d :: ·)
/-- o.m(..) of an own list -/
def pMth (f : List D → List D → Option (D × List D)) (i : Nat) (ps : List PS) (es : List E) : E := fun S => match tgt i ps S, eFzDs es S with
  | some t, some ds => match t.k, t.d with
    | .li .fz, .lst xs => match f xs ds with
      | some (r, ys) => pOk (.fz, r) (t.put i (.li .fz, .lst ys) S)
      | none => .bad
    | _, _ => .bad
  | _, _ => .bad
/-- op= of numbers -/
def augI (s : Bool) (i j : Int) : Int := if s then i - j else i + j
def pAugF (i : Nat) (ps : List PS) (c n : Nat) (s : Bool) (e : E) : St := fun S => match tgt i ps S, eFzD e S with
  | some t, some (.int y) => match t.k, t.d with
    | .ob ks, .ob c' ds => if c' = c then (match ks[n]?, ds[n]? with
      | some .fz, some (.int x) => (match fldPut ks ds n (.fz, .int (augI s x y)) with
        | some r => pOk .nx (t.put i (.ob r.1, .ob c r.2) S)
        | none => .bad)
      | _, _ => .bad) else .bad
    | _, _ => .bad
  | _, _ => .bad
def pAugIx (i : Nat) (ps : List PS) (k : E) (s : Bool) (e : E) : St := fun S => match tgt i ps S, eFzD k S, eFzD e S with
  | some t, some (.int j), some (.int y) => match t.k, t.d with
    | .li .fz, .lst xs => (match normIx xs.length j with
      | some n => (match xs[n]? with
        | some (.int x) => pOk .nx (t.put i (.li .fz, .lst (xs.set n (.int (augI s x y)))) S)
        | _ => .bad)
      | none => .bad)
    | _, _ => .bad
  | _, _, _ => .bad
def pAugD (i : Nat) (ps : List PS) (k : E) (s : Bool) (e : E) : St := fun S => match tgt i ps S, eFzD k S, eFzD e S with
  | some t, some x, some (.int y) => match t.k, t.d with
    | .dK .fz, .dic kvs => if isKey x = true ∧ kvs.length < sizeMax then (match valD kvs x with
      | some (.int v) => pOk .nx (t.put i (.dK .fz, .dic (putD kvs x (.int (augI s v y)))) S)
      | _ => .bad) else .bad
    | _, _ => .bad
  | _, _, _ => .bad
/-- o.f of a frozen object -/
def fFld (c n : Nat) : D → Option KD
  | .ob c' ds => if c' = c then ds[n]?.bind kz else none
  | _ => none
end TB
namespace TB
/-! ### methods, new objects -/
def isObj (c : Nat) : AV → List Slot → Bool
  | .v (.ob c' _), _ => c' == c
  | .o (_, .ob c' _), _ => c' == c
  | .b i, S => match S[i]? with
    | some (some (.ob _, .ob c' _)) => c' == c
    | _ => false
  | _, _ => false
def callAV (F : Fn) (vs : List AV) (S : List Slot) : R KD := match arIn vs S with
  | none => .bad
  | some (ks, S1) => match F ks with
    | .ret r os => (match arOut vs os S1 with | some S2 => .ok r S2 | none => .bad)
    | .exc x os => (match arOut vs os S1 with | some S2 => .exc x S2 | none => .bad)
    | .bad => .bad
/-- o.m(.., its defaults), o of the class c -/
def eMeth (c : Nat) (F : Fn) (r : Ar) (as : List Ar) (ds : List D) : E := M.bind (arEv [r]) fun v1 S => match v1 with
  | [x] => if isObj c x S = true then (M.bind (arEv as) fun vs S => callAV F (x :: (vs ++ ds.map .v)) S) S else .bad
  | _ => .bad
/-- f(.., its defaults) -/
def eCallD (F : Fn) (as : List Ar) (ds : List D) : E := M.bind (arEv as) fun vs S => callAV F (vs ++ ds.map .v) S
/-- C(..) -/
def eMake (c : Nat) (F : Fn) (as : List Ar) : E := M.bind (arEv as) fun vs S => match arIn vs S with
  | none => .bad
  | some (ks, S1) => match F ((.ob [], .ob c []) :: ks) with
    | .ret (_, .non) (o :: os) => (match arOut vs os S1 with | some S2 => .ok o S2 | none => .bad)
    | _ => .bad
/-- o.m(..), o at a path; the arguments do not look at its root -/
def pCall (c : Nat) (F : Fn) (i : Nat) (ps : List PS) (as : List Ar) (ds : List D) : E := fun S => match tgt i ps S with
  | some g => (match g.k, g.d with
    | .ob ks, .ob c' fs => if c' = c then (M.bind (arEv as) fun vs S1 => match arIn (vs ++ ds.map .v) S1 with
      | none => .bad
      | some (ka, S2) => match F ((.ob ks, .ob c' fs) :: ka) with
        | .ret r (o :: os) => (match arOut (vs ++ ds.map .v) os S2, setKD g.pv g.rk g.rd o with
          | some S3, some rt => .ok r (S3.set i (some rt))
          | _, _ => .bad)
        | .exc x (o :: os) => (match arOut (vs ++ ds.map .v) os S2, setKD g.pv g.rk g.rd o with
          | some S3, some rt => .exc x (S3.set i (some rt))
          | _, _ => .bad)
        | _ => .bad) (S.set i none) else .bad
    | _, _ => .bad)
  | none => .bad
end TB

namespace TB
/-! ### dicts whose keys are tuples (of tuples) -/
mutual
def D.nk : Nat → D → Bool
  | _, .int _ => true
  | _, .str _ => true
  | n + 1, .tup xs => D.nks n xs
  | _, _ => false
def D.nks : Nat → List D → Bool
  | _, [] => true
  | n, x :: xs => D.nk n x && D.nks n xs
end
def isNK (d : D) : Bool := d.isTup && d.nk 8
/-- {} of that kind -/
def eNnew : E := M.pure (.dN, .dit [])
def pNput (i : Nat) (ps : List PS) (k e : E) : St := M.bind (eDat e) fun y S => match tgt i ps S, eFzD k S with
  | some t, some x => match t.k, t.d with
    | .dN, .dit kvs => if isNK x = true ∧ kvs.length < sizeMax then pOk .nx (t.put i (.dN, .dit (putD kvs x y)) S) else .bad
    | _, _ => .bad
  | _, _ => .bad
def pNget2 (i : Nat) (ps : List PS) (k z : E) : E := fun S => match tgt i ps S, eFzD k S, eFzD z S with
  | some t, some x, some w => match t.k, t.d with
    | .dN, .dit kvs => if isNK x = true then .ok (.fz, (valD kvs x).getD w) S else .bad
    | _, _ => .bad
  | _, _, _ => .bad
def pNaug (i : Nat) (ps : List PS) (k : E) (s : Bool) (e : E) : St := fun S => match tgt i ps S, eFzD k S, eFzD e S with
  | some t, some x, some (.int y) => match t.k, t.d with
    | .dN, .dit kvs => if isNK x = true ∧ kvs.length < sizeMax then (match valD kvs x with
      | some (.int v) => pOk .nx (t.put i (.dN, .dit (putD kvs x (.int (augI s v y)))) S)
      | _ => .bad) else .bad
    | _, _ => .bad
  | _, _, _ => .bad
/-- d[k] of a frozen one -/
def fNget : D → D → Option KD
  | .dit kvs, x => if isNK x = true then (valD kvs x).bind kz else none
  | _, _ => none
/-- sorted(d): its keys -/
def fSortN : D → Option KD
  | .dit kvs => if sortOk (kvs.map (·.1)) = true then some (.li .fz, .lst (sortD (kvs.map (·.1)))) else none
  | _ => none
end TB

namespace TB
/-- the same, at a slot, the key any expression -/
def ownN (S : List Slot) (i : Nat) : Option (List (D × D)) := match S[i]? with
  | some (some (.dN, .dit xs)) => some xs
  | _ => none
def hasN (i : Nat) : M Unit := fun S => match ownN S i with
  | some _ => .ok () S
  | none => .bad
def sNput (i : Nat) (k e : E) : St := M.bind (eDat e) fun y => M.bind (hasN i) fun _ => M.bind (eDat k) fun x S => match ownN S i with
  | some kvs => if isNK x = true ∧ kvs.length < sizeMax then .ok .nx (S.set i (some (.dN, .dit (putD kvs x y)))) else .bad
  | none => .bad
end TB

namespace TB
/-- the members of a set, as first met -/
def nubD : List D → List D → List D
  | acc, [] => acc
  | acc, x :: xs => if (acc.any fun y => D.eqv y x) = true then nubD acc xs else nubD (acc ++ [x]) xs
def D.isInt : D → Bool
  | .int _ => true
  | _ => false
def setOk (ds : List D) : Bool := (ds.all D.isInt && decide (ds.length < 60)) || (ds.all isNK && decide (ds.length < 76))
/-- len(set(xs)) -/
def fLenSet : D → Option KD
  | .lst ds => if setOk ds = true then kz (.int (nubD [] ds).length) else none
  | _ => none
end TB

namespace TB
/-! ### small ones -/
/-- not promised -/
def eBad : E := fun _ => .bad
def sBad : St := fun _ => .bad
def truD : D → Option Bool
  | .non => some false
  | .bl b => some b
  | .int i => some (i != 0)
  | .str s => if s.length ≤ sizeMax then some ((s.length : Int) != 0) else none
  | .tup xs => some (!xs.isEmpty)
  | .lst xs => some (!xs.isEmpty)
  | _ => none
/-- x or y, x and y, as they are -/
def eOrV (a b : E) : E := M.bind (eDat a) fun x => match truD x with
  | some true => M.pure (.fz, x)
  | some false => b
  | none => eBad
def eAndV (a b : E) : E := M.bind (eDat a) fun x => match truD x with
  | some true => b
  | some false => M.pure (.fz, x)
  | none => eBad
/-- e op x, x an owned slot, looked at when e is done -/
def ePk2 (f : D → D → Option KD) (a : E) (i : Nat) : E := M.bind (eDat a) fun x S => match S[i]? with
  | some (some (_, d)) => (match f x d with
    | some (_, r) => if r.flat = true then .ok (.fz, r) S else .bad
    | none => .bad)
  | _ => .bad
/-- x in a list of data -/
def fInN (x y : D) : Option KD := match y with
  | .lst ys => if (x.lay 60 && D.lays 60 ys) = true then kz (.bl (ys.any fun y => D.eqv y x)) else none
  | _ => none
def fNotInN (x y : D) : Option KD := match y with
  | .lst ys => if (x.lay 60 && D.lays 60 ys) = true then kz (.bl (!ys.any fun y => D.eqv y x)) else none
  | _ => none
def fInB : D → D → Option KD := fOr fInA fInN
def fNotInB : D → D → Option KD := fOr fNotInA fNotInN
/-- xs.index(x) -/
def fIndexL (x y : D) : Option KD := match x with
  | .lst ys => if (y.flat && ys.all D.flat) = true then (ys.findIdx? fun z => D.eqv z y).bind fun j => kz (.int j) else none
  | _ => none
def eIndexL (a b : E) : E := M.bind (eDat a) fun x => match x with
  | .lst ys => M.bind (eDat b) fun y => ofO (fIndexL (.lst ys) y)
  | _ => eBad
/-- .. of a tuple of texts of the module -/
def fIndexC (ss : List (List Nat)) : D → Option KD
  | .str s => (ss.findIdx? fun z => z == s).bind fun j => kz (.int j)
  | _ => none
/-- T.get(k, z) of a table of the module: texts, numbers -/
def fGetC (tb : List (List Nat × Int)) (x z : D) : Option KD := match x with
  | .str s => match tb.find? fun p => p.1 == s with
    | some p => kz (.int p.2)
    | none => kz z
  | _ => none
end TB

namespace TB
/-- sorted(d.items()), d by texts, numbers -/
def pairD (p : D × D) : D := .tup [p.1, p.2]
def fSortItems : D → Option KD
  | .dic kvs => if (alkAll (kvs.map pairD) && D.lays 60 (kvs.map pairD)) = true then some (.li .fz, .lst (sortD (kvs.map pairD))) else none
  | _ => none
end TB

namespace TB
def fSortN1 : List D → Option KD
  | [d] => fSortN d
  | _ => none
/-- comparable: of one kind up to the first place that differs -/
def wkDs : List D → List D → Bool
  | x :: xs, y :: ys => if D.eqv x y = true then wkDs xs ys else D.alk x y
  | _, _ => true
def wkD : D → D → Bool
  | .tup (x :: xs), .tup (y :: ys) => D.alk x y && wkDs (x :: xs) (y :: ys)
  | _, _ => false
def D.isTupH : D → Bool
  | .tup (.int _ :: _) => true
  | .tup (.str _ :: _) => true
  | .tup (.bl _ :: _) => true
  | _ => false
def sortWk (ds : List D) : Bool := ds.all D.isTupH && ds.all (fun d => ds.all (wkD d)) && D.lays 60 ds
def fSortW : List D → Option KD
  | [.lst xs] => if sortWk xs = true ∧ xs.length ≤ sizeMax then some (.li .fz, .lst (sortD xs)) else none
  | _ => none
def fSortNW : List D → Option KD
  | [.dit kvs] => if sortWk (kvs.map (·.1)) = true then some (.li .fz, .lst (sortD (kvs.map (·.1)))) else none
  | _ => none
def fSortedB : List D → Option KD := fOr1 fSortedA (fOr1 fSortN1 (fOr1 fSortW fSortNW))
end TB

namespace TB
def fGeW (x y : D) : Option KD := if (x.lay 60 && y.lay 60 && wkD x y) = true then kz (.bl (!D.lt x y)) else none
def fGeB : D → D → Option KD := fOr fGeA fGeW
end TB

/-! TbM4: more operations: sums, divmod, dict of pairs, reads of frozen dicts and objects, op= at a path, records; core Lean alone. -/
namespace TB
def fSum : List D → Option KD
  | [.lst xs] => (intsOf xs).bind fun is => kz (.int is.sum)
  | [.tup xs] => (intsOf xs).bind fun is => kz (.int is.sum)
  | _ => none
def fDivmod : List D → Option KD
  | [.int i, .int j] => if 0 < j ∧ j.natAbs < 1073741824 then kz (.tup [.int (i / j), .int (i % j)]) else none
  | _ => none
def pairKV : D → Option (D × D)
  | .tup [k, v] => if isKey k = true then some (k, v) else none
  | _ => none
def pairsKV : List D → Option (List (D × D))
  | [] => some []
  | d :: ds => (pairKV d).bind fun p => (pairsKV ds).map (p :: ·)
def mergeD (kvs more : List (D × D)) : List (D × D) := more.foldl (fun acc p => putD acc p.1 p.2) kvs
/-- dict(pairs) -/
def fDictL : List D → Option KD
  | [.lst ds] => (pairsKV ds).bind fun kvs => some (.dK .fz, .dic (mergeD [] kvs))
  | _ => none
/-- d.get(k, z) of a frozen dict -/
def fGet3 : D → D → D → Option KD
  | .dic kvs, x, z => if isKey x = true then kz ((valD kvs x).getD z) else none
  | _, _, _ => none
def fNget3 : D → D → D → Option KD
  | .dit kvs, x, z => if isNK x = true then kz ((valD kvs x).getD z) else none
  | _, _, _ => none
def D.isDic : D → Bool
  | .dic _ => true
  | _ => false
def D.isDit : D → Bool
  | .dit _ => true
  | _ => false
def eGet3 (a b c : E) : E := M.bind (eDat a) fun x => if x.isDic = true then M.bind (eDat b) fun y => M.bind (eDat c) fun z => ofO (fGet3 x y z) else eBad
def eNget3 (a b c : E) : E := M.bind (eDat a) fun x => if x.isDit = true then M.bind (eDat b) fun y => M.bind (eDat c) fun z => ofO (fNget3 x y z) else eBad
/-- {} whose values are of a kind -/
def eDnewK (k : Kd) : E := M.pure (.dK k, .dic [])
/-- enumerate: pairs -/
def enumL : Nat → List D → List D
  | _, [] => []
  | i, d :: ds => .tup [.int i, d] :: enumL (i + 1) ds
def itEnum (e : E) : It := M.bind (eDat e) fun d => match itemsOf d with
  | some xs => M.pure (enumL 0 xs)
  | none => fun _ => .bad
/-- a quiet tuple -/
def eTupQ (ms : List E) : E := fun S => match eFzDs ms S with
  | some ds => if ds.length ≤ sizeMax then .ok (.fz, .tup ds) S else .bad
  | none => .bad
/-- xs[k] = e of an own list at a path, its items frozen -/
def pSetIxF (i : Nat) (ps : List PS) (k e : E) : St := M.bind (eDat e) fun y S => match tgt i ps S, eFzD k S with
  | some t, some (.int j) => match t.k, t.d with
    | .li .fz, .lst xs => (match normIx xs.length j with
      | some n => pOk .nx (t.put i (.li .fz, .lst (xs.set n y)) S)
      | none => .bad)
    | _, _ => .bad
  | _, _ => .bad
/-- d[k] = e of a record, what was there frozen -/
def recFz (ks : List Kd) (kvs : List (D × D)) (x : D) : Bool := match ks, kvs with
  | k :: ks, p :: kvs => (k.isF || !D.eqv p.1 x) && recFz ks kvs x
  | _, _ => true
def recPut (ks : List Kd) (kvs : List (D × D)) (x y : D) : Option KD := if isKey x = true ∧ kvs.length < sizeMax ∧ (kvs.any fun p => D.eqv p.1 x) = true ∧ recFz ks kvs x = true then some (.dR ks, .dic (putD kvs x y)) else none
def pSetR (i : Nat) (k e : E) : St := M.bind (eDat e) fun y S => match S[i]?, eFzD k S with
  | some (some (.dR ks, .dic kvs)), some x => (match recPut ks kvs x y with
    | some kd => .ok .nx (S.set i (some kd))
    | none => .bad)
  | _, _ => .bad
/-- a record: a dict of written texts, each of its own kind -/
def eAllK : List E → M (List KD)
  | [] => M.pure []
  | e :: es => M.bind e fun kd => M.bind (eAllK es) fun r => M.pure (kd :: r)
def nodupT : List (List Nat) → Bool
  | [] => true
  | k :: ks => !ks.contains k && nodupT ks
def recD : List (List Nat) → List KD → List (D × D)
  | k :: ks, kd :: kds => (.str k, kd.2) :: recD ks kds
  | _, _ => []
def eRec (ks : List (List Nat)) (es : List E) : E := M.bind (eAllK es) fun kds => if (nodupT ks && ks.length == kds.length && decide (ks.length ≤ 15)) = true then M.pure (.dR (kds.map (·.1)), .dic (recD ks kds)) else eBad
/-- o[k] op= e of a dict with nested keys, of a list, a dict at a path: TbM3 has pNaug, pAugIx, pAugD; a field: pAugF -/
def sPutFl (i c : Nat) : List Nat → List D → List Slot → Option (List Slot)
  | [], [], S => some S
  | n :: ns, d :: ds, S => match tgt i [] S with
    | some t => match t.k, t.d with
      | .ob ks, .ob c' fs => if c' = c then (match fldPut ks fs n (.fz, d) with
        | some r => (t.put i (.ob r.1, .ob c r.2) S).bind (sPutFl i c ns ds)
        | none => none) else none
      | _, _ => none
    | none => none
  | _, _, _ => none
/-- o.a, o.b, .. = e, o the slot i -/
def unpR (i c : Nat) (ns : List Nat) : D → List Slot → R Fl
  | .tup xs, S => (match sPutFl i c ns xs S with
    | some S' => .ok .nx S'
    | none => .bad)
  | _, _ => .bad
def sUnpF (i c : Nat) (ns : List Nat) (e : E) : St := M.bind (eDat e) fun d S => unpR i c ns d S
/-- xs.remove(x) of texts, x there -/
def fRemove : List D → List D → Option (D × List D)
  | xs, [.str z] => (strsOf xs).bind fun ss => (ss.findIdx? fun y => y == z).bind fun j => if xs.length ≤ sizeMax then some (.non, xs.eraseIdx j) else none
  | _, _ => none
/-- xs.extend(ys) -/
def fExtend : List D → List D → Option (D × List D)
  | xs, [.lst ys] => if xs.length + ys.length ≤ sizeMax then some (.non, xs ++ ys) else none
  | _, _ => none
/-- xs.pop() -/
def fPopL : List D → Option (D × List D)
  | xs => if xs = [] then none else xs.getLast?.map fun d => (d, xs.dropLast)
/-- list(zip(a, b)) -/
def fZip : D → D → Option KD := fun x y => match itemsOf x, itemsOf y with
  | some xs, some ys => if xs.length ≤ sizeMax then some (.li .fz, .lst ((xs.zip ys).map fun p => .tup [p.1, p.2])) else none
  | _, _ => none
/-- str(i), str(s) -/
def natT (n : Nat) : List Nat := (Nat.toDigits 10 n).map Char.toNat
def intT (i : Int) : List Nat := if i < 0 then 45 :: natT i.natAbs else natT i.natAbs
end TB

/-! TbM5: the mirror of what is raised, and of what catches; core Lean alone. -/
namespace TB
def sRaise (c : Nat) : St := fun S => .exc ⟨c, .non⟩ S
def raiI (c : Nat) : D → St
  | .int i => fun S => .exc ⟨c, .int i⟩ S
  | _ => sBad
def sRaiseI (c : Nat) (e : E) : St := M.bind (eDat e) (raiI c)
/-- the classes of refusals: 10 TuckError, 11 NoForm, 12 NotNow, 13 NoBook, 14 NoShop, 15 NoRows, 16 NoRow, 17 NoDebts, 18 NoLine, 19 Twice, 20 NotThere, 21 NothingLeft, 22 NoText, 23 TooMany -/
def xLow : List Nat := [13, 14, 15, 16, 17, 18, 22]
def xSub (c t : Nat) : Bool := c == t || t == 10 || (t == 11 && xLow.contains c) || (t == 12 && [19, 20, 21, 23].contains c)
/-- what the clause writes: flat data, or a tuple of such -/
inductive Rs where
  | one (d : D) | tup (ds : List D)
def Rs.d : Rs → D
  | .one d => d
  | .tup ds => .tup ds
def Rs.ok : Rs → Bool
  | .one d => d.flat
  | .tup ds => ds.all D.flat && decide (ds.length ≤ 8)
/-- one clause: its class, the slot of its name, the slot that is written, what is written -/
structure Cl where
  t : Nat
  i : Nat
  j : Nat
  r : Xc → Rs
def hdl (x : Xc) : List Cl → List Slot → R Fl
  | [], S => .exc x S
  | k :: ks, S => if xSub x.c k.t = true then (if (k.r x).ok = true ∧ k.i < S.length ∧ k.j < S.length then .ok .nx (((S.set k.i none).set k.j (some (.fz, (k.r x).d))).set k.i none) else .bad) else hdl x ks S
def sTry (xs : List Nat) (b : St) (ks : List Cl) : St := fun S => match b S with
  | .exc x S1 => if xs.contains x.c = true then hdl x ks S1 else .bad
  | r => r
/-- what _law_kind_of says -/
def kindBits (c : Nat) : List Bool := [xSub c 13, xSub c 17, xSub c 11, xSub c 18, xSub c 16, xSub c 15, xSub c 14, xSub c 22, xSub c 12, xSub c 20, xSub c 21, xSub c 23, xSub c 19, true]
def kindW : List (List Nat) := [[78, 111, 66, 111, 111, 107], [78, 111, 68, 101, 98, 116, 115], [78, 111, 70, 111, 114, 109], [78, 111, 76, 105, 110, 101], [78, 111, 82, 111, 119], [78, 111, 82, 111, 119, 115], [78, 111, 83, 104, 111, 112], [78, 111, 84, 101, 120, 116], [78, 111, 116, 78, 111, 119], [78, 111, 116, 84, 104, 101, 114, 101], [78, 111, 116, 104, 105, 110, 103, 76, 101, 102, 116], [84, 111, 111, 77, 97, 110, 121], [84, 119, 105, 99, 101], [43]]
def pickB : List (List Nat) → List Bool → List (List Nat)
  | w :: ws, b :: bs => if b then w :: pickB ws bs else pickB ws bs
  | _, _ => []
def kindT (c : Nat) : List Nat := joinD [32] (pickB kindW (kindBits c))
/-- the body of _law_kind_of, the class c -/
def mKind (c : Nat) : St := sSeq (sSet 1 (eFr (eApp fLst [eCon (.bl (xSub c 13)), eCon (.bl (xSub c 17)), eCon (.bl (xSub c 11)), eCon (.bl (xSub c 18))]))) (sSeq (sSet 1 (eFr (eOp fAdd (eVar 1) (eApp fLst [eCon (.bl (xSub c 16)), eCon (.bl (xSub c 15)), eCon (.bl (xSub c 14)), eCon (.bl (xSub c 22))])))) (sSeq (sSet 1 (eFr (eOp fAdd (eVar 1) (eApp fLst [eCon (.bl (xSub c 12)), eCon (.bl (xSub c 20)), eCon (.bl (xSub c 21)), eCon (.bl (xSub c 23))])))) (sSeq (sSet 1 (eFr (eOp fAdd (eVar 1) (eApp fLst [eCon (.bl (xSub c 19)), eCon (.bl true)]))))
  (sSeq (sSet 2 (eFr (eApp fLst [eCon (.str [78, 111, 66, 111, 111, 107]), eCon (.str [78, 111, 68, 101, 98, 116, 115]), eCon (.str [78, 111, 70, 111, 114, 109]), eCon (.str [78, 111, 76, 105, 110, 101]), eCon (.str [78, 111, 82, 111, 119]), eCon (.str [78, 111, 82, 111, 119, 115]), eCon (.str [78, 111, 83, 104, 111, 112]), eCon (.str [78, 111, 84, 101, 120, 116]), eCon (.str [78, 111, 116, 78, 111, 119]), eCon (.str [78, 111, 116, 84, 104, 101, 114, 101])]))) (sSeq (sSet 2 (eFr (eOp fAdd (eVar 2) (eApp fLst [eCon (.str [78, 111, 116, 104, 105, 110, 103, 76, 101, 102, 116]), eCon (.str [84, 111, 111, 77, 97, 110, 121]), eCon (.str [84, 119, 105, 99, 101]), eCon (.str [43])])))) (sSeq (sRet (eJoin (eCon (.str [32])) (eLc (itRange1 (eCon (.int 14))) (.nm 3) [3] (eBool (eOp fIx (eVar 1) (eVar 3))) (eOp fIx (eVar 2) (eVar 3))))) sNx))))))
def xAll : List Nat := [13, 14, 15, 16, 17, 18, 19, 20, 21, 22, 23]
def isKind (c : Nat) : R Fl → Bool
  | .ok (.rt (.fz, .str s)) _ => s == kindT c
  | _ => false
theorem kind_all : xAll.all (fun c => isKind c (mKind c [none, none, none, none])) = true := by decide +kernel
theorem kind_run {c : Nat} (h : xAll.contains c = true) : ∃ S, mKind c [none, none, none, none] = .ok (.rt (.fz, .str (kindT c))) S := by
  have h1 := List.all_eq_true.mp kind_all c (by simpa using h)
  generalize mKind c [none, none, none, none] = r at h1
  unfold isKind at h1
  split at h1
  · exact ⟨_, by rw [eq_of_beq h1]⟩
  · cases h1
/-- f(..), f one of the functions ks as a value -/
def callFn (ks : List Nat) (Γ : Nat → Fn) (as : List Ar) : D → E
  | .fn k => if ks.contains k = true then eCall (Γ k) as else eBad
  | _ => eBad
def eCallFn (ks : List Nat) (Γ : Nat → Fn) (mf : E) (as : List Ar) : E := M.bind (eDat mf) (callFn ks Γ as)
/-! a dict that is locked while its keys are walked -/
def itLdc (i : Nat) : It := fun S => match S[i]? with
  | some (some (.fz, .ldc kvs)) => .ok (kvs.map (·.1)) S
  | _ => .bad
def fGetL : D → D → Option KD
  | .ldc kvs, x => if isKey x = true then (valD kvs x).bind kz else none
  | _, _ => none
def eLockLI (i : Nat) (e : E) : E := fun S => match S[i]? with
  | some (some (.dK .fz, .dic kvs)) => (match e ((S.map frz).set i (some (.fz, .ldc kvs))) with
    | .ok (.li .fz, .lst ds) _ => if D.imms ds = true then .ok (.li .fz, .lst ds) S else .bad
    | _ => .bad)
  | _ => .bad
end TB

/-! TbS: the mirror is kept by the machine: what a value stands for, ownership, the state between two steps. -/
namespace TB
open PySem L2

/-- what the top has written, by numbers: classes, their fields, constants -/
structure Cfg where
  K : PySem.W.Frag
  ca : Nat → Addr
  cn : Nat → List PySem.Str
  fa : Nat → Addr
  w : World
/-- .. and of one body: the slots that stay as they were at the start -/
structure Cfgx extends Cfg where
  pk : List Nat
  pv : Nat → Option V
instance : Coe Cfgx Cfg := ⟨Cfgx.toCfg⟩
def keyD : Key → D
  | .inl i => .int i
  | .inr z => .str z.cps.toList

mutual
/-- a key of numbers, texts and tuples of such -/
def nkD : NestedKey → D
  | .none => .non
  | .num i => .int i
  | .text z => .str z.cps.toList
  | .tup ks => .tup (nkDs ks)
def nkDs : List NestedKey → List D
  | [] => []
  | k :: ks => nkD k :: nkDs ks
end
/-- the dict whose keys are nested: key, its tuple, the value -/
def NDO (w : World) (a : Addr) (xs : List (NestedKey × Addr × V)) : HO := .ext fun h => (a == sysModules) = false ∧ xs.length ≤ sizeLine ∧ (∀ x ∈ xs, x.1.depth ≤ 8) ∧ ∃ us : List (NestedKey × Addr × Value),
  Paired (fun (p : NestedKey × Addr × V) (q : NestedKey × Addr × Value) => p.1 = q.1 ∧ p.2.1 = q.2.1 ∧ RelV p.2.2 q.2.2) xs us ∧
  ∃ o es ep, h.get? a = some o ∧ o.ExactDict ∧ o.data = .dict es ep ∧ es.toList = us.map (fun x => (⟨NestedKey.hash w x.1, .ref x.2.1, x.2.2⟩ : DictEntry)) ∧ (us.map (·.1)).Nodup

mutual
inductive Rep (G : Cfg) (F : Hp) : V → D → Prop
  | non : Rep G F .non .non
  | bl (b : Bool) : Rep G F (.bl b) (.bl b)
  | int (i : Int) : Rep G F (.int i) (.int i)
  | str (z : PySem.Str) : Rep G F (.str z) (.str z.cps.toList)
  | tup {a : Addr} {vs : List V} {ds : List D} : SqT G.K F a vs → Reps G F vs ds → Rep G F (.ref a) (.tup ds)
  | scr {a : Addr} {ns : List Int} : SqL G.K F a (ns.map V.int) → Rep G F (.ref a) (.scr ns)
  | lst {a : Addr} {vs : List V} {ds : List D} : F a = some (.lst vs) → Reps G F vs ds → Rep G F (.ref a) (.lst ds)
  | dK {a : Addr} {kvs : List (Key × V)} {kds : List (D × D)} : Rd F a (.dK kvs) → kds.map (·.1) = kvs.map (fun p => keyD p.1) → Reps G F (kvs.map (·.2)) (kds.map (·.2)) → Rep G F (.ref a) (.dic kds)
  | dN {a : Addr} {xs : List (NestedKey × Addr × V)} {kds : List (D × D)} : Rd F a (NDO G.w a xs) → kds.map (·.1) = xs.map (fun x => nkD x.1) → Reps G F (xs.map fun x => .ref x.2.1) (kds.map (·.1)) → Reps G F (xs.map (·.2.2)) (kds.map (·.2)) → Rep G F (.ref a) (.dit kds)
  | ldc {a : Addr} {o : Obj} {kvs : List (Key × V)} {kds : List (D × D)} : F a = some (.frz o (.dK kvs)) → kds.map (·.1) = kvs.map (fun p => keyD p.1) → Reps G F (kvs.map (·.2)) (kds.map (·.2)) → Rep G F (.ref a) (.ldc kds)
  | ob {a dx : Addr} {c : Nat} {fs : List (PySem.Str × V)} {ds : List D} : F a = some (.ins (G.ca c) dx fs) → fs.map (·.1) = (G.cn c).take ds.length → Reps G F (fs.map (·.2)) ds → Rep G F (.ref a) (.ob c ds)
  | fn (k : Nat) : Rep G F (.ref (G.fa k)) (.fn k)
inductive Reps (G : Cfg) (F : Hp) : List V → List D → Prop
  | nil : Reps G F [] []
  | cons {v : V} {d : D} {vs : List V} {ds : List D} : Rep G F v d → Reps G F vs ds → Reps G F (v :: vs) (d :: ds)
end

/-- how often an address is owned -/
abbrev Cnt := Addr → Nat
def one (a : Addr) : Cnt := fun b => if b = a then 1 else 0
def nil0 : Cnt := fun _ => 0
def add (f g : Cnt) : Cnt := fun a => f a + g a

mutual
inductive Own (G : Cfg) (F H : Hp) : Kd → V → D → Cnt → Prop
  | fz {v : V} {d : D} : Rep G F v d → Own G F H .fz v d nil0
  | li {k : Kd} {a : Addr} {vs : List V} {ds : List D} {g : Cnt} : H a = some (.lst vs) → Owns G F H k vs ds g → Own G F H (.li k) (.ref a) (.lst ds) (add (one a) g)
  | dK {k : Kd} {a : Addr} {kvs : List (Key × V)} {kds : List (D × D)} {g : Cnt} : H a = some (.dK kvs) → kds.map (·.1) = kvs.map (fun p => keyD p.1) → Owns G F H k (kvs.map (·.2)) (kds.map (·.2)) g → Own G F H (.dK k) (.ref a) (.dic kds) (add (one a) g)
  | dR {ks : List Kd} {a : Addr} {kvs : List (Key × V)} {kds : List (D × D)} {g : Cnt} : H a = some (.dK kvs) → kds.map (·.1) = kvs.map (fun p => keyD p.1) → OwnL G F H ks (kvs.map (·.2)) (kds.map (·.2)) g → Own G F H (.dR ks) (.ref a) (.dic kds) (add (one a) g)
  | dN {a : Addr} {xs : List (NestedKey × Addr × V)} {kds : List (D × D)} : H a = some (NDO G.w a xs) → kds.map (·.1) = xs.map (fun x => nkD x.1) → Reps G F (xs.map fun x => .ref x.2.1) (kds.map (·.1)) → Reps G F (xs.map (·.2.2)) (kds.map (·.2)) → Own G F H .dN (.ref a) (.dit kds) (add (one a) nil0)
  | ob {ks : List Kd} {a dx : Addr} {c : Nat} {fs : List (PySem.Str × V)} {ds : List D} {g : Cnt} : H a = some (.ins (G.ca c) dx fs) → fs.map (·.1) = (G.cn c).take ds.length → OwnL G F H ks (fs.map (·.2)) ds g → Own G F H (.ob ks) (.ref a) (.ob c ds) (add (one a) g)
inductive Owns (G : Cfg) (F H : Hp) : Kd → List V → List D → Cnt → Prop
  | nil {k : Kd} : Owns G F H k [] [] nil0
  | cons {k : Kd} {v : V} {d : D} {vs : List V} {ds : List D} {f g : Cnt} : Own G F H k v d f → Owns G F H k vs ds g → Owns G F H k (v :: vs) (d :: ds) (add f g)
inductive OwnL (G : Cfg) (F H : Hp) : List Kd → List V → List D → Cnt → Prop
  | nil : OwnL G F H [] [] [] nil0
  | cons {k : Kd} {ks : List Kd} {v : V} {d : D} {vs : List V} {ds : List D} {f g : Cnt} : Own G F H k v d f → OwnL G F H ks vs ds g → OwnL G F H (k :: ks) (v :: vs) (d :: ds) (add f g)
end

/-- a tuple stands there -/
def TupAt (o : Option HO) : Prop := (∃ xs, o = some (.tup xs)) ∨ ∃ u xs, o = some (.frz u (.tup xs))
theorem same_rd {F F' : Hp} {a : Addr} {u : HO} (e : Same F F') (h : Rd F a u) : Rd F' a u := by
  rcases h with h | ⟨o, h⟩
  · exact .inl (e _ _ h)
  · exact .inr ⟨o, e _ _ h⟩
theorem same_t {K : PySem.W.Frag} {F F' : Hp} {a : Addr} {xs : List V} (e : Same F F') (h : SqT K F a xs) : SqT K F' a xs := h.elim (fun h => .inl (same_rd e h)) .inr
theorem same_l {K : PySem.W.Frag} {F F' : Hp} {a : Addr} {xs : List V} (e : Same F F') (h : SqL K F a xs) : SqL K F' a xs := h.elim (fun h => .inl (same_rd e h)) .inr

section
variable {G : Cfg} {F F' H H' : Hp}
mutual
theorem Rep.mono (e : Same F F') : ∀ {v : V} {d : D}, Rep G F v d → Rep G F' v d
  | _, _, .non => .non
  | _, _, .bl b => .bl b
  | _, _, .int i => .int i
  | _, _, .str z => .str z
  | _, _, .tup h r => .tup (same_t e h) (Reps.mono e r)
  | _, _, .scr h => .scr (same_l e h)
  | _, _, .lst h r => .lst (e _ _ h) (Reps.mono e r)
  | _, _, .dK h k r => .dK (same_rd e h) k (Reps.mono e r)
  | _, _, .dN h k q r => .dN (same_rd e h) k (Reps.mono e q) (Reps.mono e r)
  | _, _, .ldc h k r => .ldc (e _ _ h) k (Reps.mono e r)
  | _, _, .ob h k r => .ob (e _ _ h) k (Reps.mono e r)
  | _, _, .fn k => .fn k
theorem Reps.mono (e : Same F F') : ∀ {vs : List V} {ds : List D}, Reps G F vs ds → Reps G F' vs ds
  | _, _, .nil => .nil
  | _, _, .cons h r => .cons (Rep.mono e h) (Reps.mono e r)
end
mutual
theorem Own.mono (e : Same F F') : ∀ {k : Kd} {v : V} {d : D} {f : Cnt}, Own G F H k v d f → (∀ a o, f a ≠ 0 → H a = some o → H' a = some o) → Own G F' H' k v d f
  | _, _, _, _, .fz h, _ => .fz (Rep.mono e h)
  | _, _, _, _, .li (g := g) h r, m => .li (m _ _ (by simp [add, one]) h) (Owns.mono e r fun a o n => m a o (by simp only [add]; omega))
  | _, _, _, _, .dK (g := g) h k r, m => .dK (m _ _ (by simp [add, one]) h) k (Owns.mono e r fun a o n => m a o (by simp only [add]; omega))
  | _, _, _, _, .dR (g := g) h k r, m => .dR (m _ _ (by simp [add, one]) h) k (OwnL.mono e r fun a o n => m a o (by simp only [add]; omega))
  | _, _, _, _, .dN h k q r, m => .dN (m _ _ (by simp [add, one]) h) k (Reps.mono e q) (Reps.mono e r)
  | _, _, _, _, .ob (g := g) h k r, m => .ob (m _ _ (by simp [add, one]) h) k (OwnL.mono e r fun a o n => m a o (by simp only [add]; omega))
theorem Owns.mono (e : Same F F') : ∀ {k : Kd} {vs : List V} {ds : List D} {f : Cnt}, Owns G F H k vs ds f → (∀ a o, f a ≠ 0 → H a = some o → H' a = some o) → Owns G F' H' k vs ds f
  | _, _, _, _, .nil, _ => .nil
  | _, _, _, _, .cons h r, m => .cons (Own.mono e h fun a o n => m a o (by simp only [add]; omega)) (Owns.mono e r fun a o n => m a o (by simp only [add]; omega))
theorem OwnL.mono (e : Same F F') : ∀ {k : List Kd} {vs : List V} {ds : List D} {f : Cnt}, OwnL G F H k vs ds f → (∀ a o, f a ≠ 0 → H a = some o → H' a = some o) → OwnL G F' H' k vs ds f
  | _, _, _, _, .nil, _ => .nil
  | _, _, _, _, .cons h r, m => .cons (Own.mono e h fun a o n => m a o (by simp only [add]; omega)) (OwnL.mono e r fun a o n => m a o (by simp only [add]; omega))
end
mutual
/-- what is owned, looked at as frozen -/
theorem Own.rep (e : Same F H) : ∀ {k : Kd} {v : V} {d : D} {f : Cnt}, Own G F H k v d f → Rep G H v d
  | _, _, _, _, .fz h => Rep.mono e h
  | _, _, _, _, .li h r => .lst h (Owns.rep e r)
  | _, _, _, _, .dK h k r => .dK (.inl h) k (Owns.rep e r)
  | _, _, _, _, .dR h k r => .dK (.inl h) k (OwnL.rep e r)
  | _, _, _, _, .dN h k q r => .dN (.inl h) k (Reps.mono e q) (Reps.mono e r)
  | _, _, _, _, .ob h k r => .ob h k (OwnL.rep e r)
theorem Owns.rep (e : Same F H) : ∀ {k : Kd} {vs : List V} {ds : List D} {f : Cnt}, Owns G F H k vs ds f → Reps G H vs ds
  | _, _, _, _, .nil => .nil
  | _, _, _, _, .cons h r => .cons (Own.rep e h) (Owns.rep e r)
theorem OwnL.rep (e : Same F H) : ∀ {k : List Kd} {vs : List V} {ds : List D} {f : Cnt}, OwnL G F H k vs ds f → Reps G H vs ds
  | _, _, _, _, .nil => .nil
  | _, _, _, _, .cons h r => .cons (Own.rep e h) (OwnL.rep e r)
end
mutual
theorem Own.there : ∀ {k : Kd} {v : V} {d : D} {f : Cnt}, Own G F H k v d f → ∀ a, f a ≠ 0 → H a ≠ none
  | _, _, _, _, .fz _, _, n => absurd rfl n
  | _, _, _, _, .li (a := b) (g := g) h r, a, n => by
    by_cases q : a = b
    · rw [q, h]; simp
    · exact Owns.there r a (by simp only [add, one, if_neg q] at n; omega)
  | _, _, _, _, .dK (a := b) (g := g) h _ r, a, n => by
    by_cases q : a = b
    · rw [q, h]; simp
    · exact Owns.there r a (by simp only [add, one, if_neg q] at n; omega)
  | _, _, _, _, .dR (a := b) (g := g) h _ r, a, n => by
    by_cases q : a = b
    · rw [q, h]; simp
    · exact OwnL.there r a (by simp only [add, one, if_neg q] at n; omega)
  | _, _, _, _, .dN (a := b) h _ _ _, a, n => by
    by_cases q : a = b
    · rw [q, h]; simp
    · exact absurd n (by simp [add, one, if_neg q, nil0])
  | _, _, _, _, .ob (a := b) (g := g) h _ r, a, n => by
    by_cases q : a = b
    · rw [q, h]; simp
    · exact OwnL.there r a (by simp only [add, one, if_neg q] at n; omega)
theorem Owns.there : ∀ {k : Kd} {vs : List V} {ds : List D} {f : Cnt}, Owns G F H k vs ds f → ∀ a, f a ≠ 0 → H a ≠ none
  | _, _, _, _, .nil, _, n => absurd rfl n
  | _, _, _, _, .cons (f := f) (g := g) h r, a, n => by
    by_cases q : f a = 0
    · exact Owns.there r a (by simp only [add] at n; omega)
    · exact Own.there h a q
theorem OwnL.there : ∀ {k : List Kd} {vs : List V} {ds : List D} {f : Cnt}, OwnL G F H k vs ds f → ∀ a, f a ≠ 0 → H a ≠ none
  | _, _, _, _, .nil, _, n => absurd rfl n
  | _, _, _, _, .cons (f := f) (g := g) h r, a, n => by
    by_cases q : f a = 0
    · exact OwnL.there r a (by simp only [add] at n; omega)
    · exact Own.there h a q
end
mutual
/-- nobody owns a tuple -/
theorem Own.noT : ∀ {k : Kd} {v : V} {d : D} {f : Cnt}, Own G F H k v d f → ∀ a, f a ≠ 0 → ¬ TupAt (H a)
  | _, _, _, _, .fz _, _, n => absurd rfl n
  | _, _, _, _, .li (a := b) (g := g) h r, a, n => by
    by_cases q : a = b
    · rw [q, h]; rintro (⟨_, z⟩ | ⟨_, _, z⟩) <;> cases z
    · exact Owns.noT r a (by simp only [add, one, if_neg q] at n; omega)
  | _, _, _, _, .dK (a := b) (g := g) h _ r, a, n => by
    by_cases q : a = b
    · rw [q, h]; rintro (⟨_, z⟩ | ⟨_, _, z⟩) <;> cases z
    · exact Owns.noT r a (by simp only [add, one, if_neg q] at n; omega)
  | _, _, _, _, .dR (a := b) (g := g) h _ r, a, n => by
    by_cases q : a = b
    · rw [q, h]; rintro (⟨_, z⟩ | ⟨_, _, z⟩) <;> cases z
    · exact OwnL.noT r a (by simp only [add, one, if_neg q] at n; omega)
  | _, _, _, _, .dN (a := b) h _ _ _, a, n => by
    by_cases q : a = b
    · rw [q, h]; rintro (⟨_, z⟩ | ⟨_, _, z⟩) <;> simp [NDO] at z
    · exact absurd n (by simp [add, one, if_neg q, nil0])
  | _, _, _, _, .ob (a := b) (g := g) h _ r, a, n => by
    by_cases q : a = b
    · rw [q, h]; rintro (⟨_, z⟩ | ⟨_, _, z⟩) <;> cases z
    · exact OwnL.noT r a (by simp only [add, one, if_neg q] at n; omega)
theorem Owns.noT : ∀ {k : Kd} {vs : List V} {ds : List D} {f : Cnt}, Owns G F H k vs ds f → ∀ a, f a ≠ 0 → ¬ TupAt (H a)
  | _, _, _, _, .nil, _, n => absurd rfl n
  | _, _, _, _, .cons (f := f) (g := g) h r, a, n => by
    by_cases q : f a = 0
    · exact Owns.noT r a (by simp only [add] at n; omega)
    · exact Own.noT h a q
theorem OwnL.noT : ∀ {k : List Kd} {vs : List V} {ds : List D} {f : Cnt}, OwnL G F H k vs ds f → ∀ a, f a ≠ 0 → ¬ TupAt (H a)
  | _, _, _, _, .nil, _, n => absurd rfl n
  | _, _, _, _, .cons (f := f) (g := g) h r, a, n => by
    by_cases q : f a = 0
    · exact OwnL.noT r a (by simp only [add] at n; omega)
    · exact Own.noT h a q
end
end
end TB

namespace TB
open PySem L2

inductive SlotOk (G : Cfg) (F H : Hp) : Option V → Slot → Cnt → Prop
  | no (v : Option V) : SlotOk G F H v none nil0
  | yes {k : Kd} {v : V} {d : D} {f : Cnt} : Own G F H k v d f → SlotOk G F H (some v) (some (k, d)) f
inductive Slots (G : Cfg) (F H : Hp) : L2.St → List Slot → Cnt → Prop
  | nil : Slots G F H [] [] nil0
  | cons {v : Option V} {s : Slot} {f g : Cnt} {σ : L2.St} {S : List Slot} : SlotOk G F H v s f → Slots G F H σ S g → Slots G F H (v :: σ) (s :: S) (add f g)

section
variable {G : Cfg} {F F' H H' : Hp} {σ : L2.St} {S : List Slot} {T T' : Cnt}
theorem SlotOk.mono (e : Same F F') {v : Option V} {s : Slot} {f : Cnt} (h : SlotOk G F H v s f) (m : ∀ a o, f a ≠ 0 → H a = some o → H' a = some o) : SlotOk G F' H' v s f := by
  cases h with
  | no v => exact .no v
  | yes h => exact .yes (h.mono e m)
theorem Slots.mono (e : Same F F') (h : Slots G F H σ S T) (m : ∀ a o, T a ≠ 0 → H a = some o → H' a = some o) : Slots G F' H' σ S T := by
  induction h with
  | nil => exact .nil
  | cons h _ ih => exact .cons (h.mono e fun a o n => m a o (by simp only [add]; omega)) (ih fun a o n => m a o (by simp only [add]; omega))
theorem Slots.cast (h : Slots G F H σ S T) (e : ∀ a, T a = T' a) : Slots G F H σ S T' := (show T = T' from funext e) ▸ h
theorem Own.cast {k : Kd} {v : V} {d : D} {f f' : Cnt} (h : Own G F H k v d f) (e : ∀ a, f a = f' a) : Own G F H k v d f' := (show f = f' from funext e) ▸ h
theorem Slots.len (h : Slots G F H σ S T) : σ.length = S.length := by
  induction h with
  | nil => rfl
  | cons _ _ ih => simp [ih]
theorem SlotOk.there {v : Option V} {s : Slot} {f : Cnt} (h : SlotOk G F H v s f) (a : Addr) (n : f a ≠ 0) : H a ≠ none := by
  cases h with
  | no v => exact absurd rfl n
  | yes h => exact h.there a n
theorem Slots.there (h : Slots G F H σ S T) (a : Addr) (n : T a ≠ 0) : H a ≠ none := by
  induction h with
  | nil => exact absurd rfl n
  | @cons _ _ f g _ _ h _ ih =>
    by_cases q : f a = 0
    · exact ih (by simp only [add] at n; omega)
    · exact h.there a q
theorem SlotOk.noT {v : Option V} {s : Slot} {f : Cnt} (h : SlotOk G F H v s f) (a : Addr) (n : f a ≠ 0) : ¬ TupAt (H a) := by
  cases h with
  | no v => exact absurd rfl n
  | yes h => exact h.noT a n
theorem Slots.noT (h : Slots G F H σ S T) (a : Addr) (n : T a ≠ 0) : ¬ TupAt (H a) := by
  induction h with
  | nil => exact absurd rfl n
  | @cons _ _ f g _ _ h _ ih =>
    by_cases q : f a = 0
    · exact ih (by simp only [add] at n; omega)
    · exact h.noT a q
/-- one slot taken out, another one put there -/
theorem Slots.at {i : Nat} {s : Slot} (h : Slots G F H σ S T) (e : S[i]? = some s) : ∃ v f T0, (∀ a, T a = f a + T0 a) ∧ σ[i]? = some v ∧ SlotOk G F H v s f ∧
    ∀ F' H' v' s' f', Same F F' → (∀ a o, T0 a ≠ 0 → H a = some o → H' a = some o) → SlotOk G F' H' v' s' f' → Slots G F' H' (σ.set i v') (S.set i s') (add f' T0) := by
  induction h generalizing i with
  | nil => simp at e
  | @cons v s1 f g σ S h r ih =>
    cases i with
    | zero =>
      have e1 : s1 = s := by simpa using e
      subst e1
      exact ⟨v, f, g, fun a => rfl, rfl, h, fun F' H' v' s' f' sf m h' => .cons h' (r.mono sf m)⟩
    | succ i =>
      have e1 : S[i]? = some s := by simpa using e
      obtain ⟨v2, f2, T0, ht, hv, ho, k⟩ := ih e1
      refine ⟨v2, f2, add f T0, fun a => by simp only [add]; have := ht a; omega, by simpa using hv, ho, fun F' H' v' s' f' sf m h' => ?_⟩
      have q := k F' H' v' s' f' sf (fun a o n => m a o (by simp only [add]; omega)) h'
      have q2 : Slots G F' H' (v :: σ.set i v') (s1 :: S.set i s') (add f (add f' T0)) := .cons (h.mono sf fun a o n => m a o (by simp only [add]; omega)) q
      have e3 : add f (add f' T0) = add f' (add f T0) := by funext a; simp only [add]; omega
      rw [e3] at q2
      simpa using q2
theorem Slots.var {i : Nat} {k : Kd} {d : D} (h : Slots G F H σ S T) (e : S[i]? = some (some (k, d))) : ∃ v f, σ[i]? = some (some v) ∧ Own G F H k v d f ∧ ∀ a, f a ≤ T a := by
  obtain ⟨v, f, T0, ht, hv, ho, _⟩ := h.at e
  cases ho with
  | yes ho => exact ⟨_, f, hv, ho, fun a => by have := ht a; omega⟩
end

/-- the state between two steps: F the frozen part of the heap, T what the slots own -/
structure St' (G : Cfgx) (F H : Hp) (σ : L2.St) (S : List Slot) (T : Cnt) : Prop where
  pi : ∀ i, i ∈ G.pk → σ[i]? = some (G.pv i)
  sub : Same F H
  sl : Slots G F H σ S T
  le : ∀ a, T a ≤ 1
  di : ∀ a, F a ≠ none → T a = 0
/-- what a step may do to the heap -/
structure Step (F H : Hp) (T : Cnt) (F' H' : Hp) (T' : Cnt) : Prop where
  sF : Same F F'
  fr : ∀ a o, T a = 0 → H a = some o → H' a = some o
  nT : ∀ a, T' a ≠ 0 → T a ≠ 0 ∨ H a = none
  nF : ∀ a, F a = none → F' a ≠ none → H a = none ∨ T a ≠ 0 ∨ TupAt (H a)
  tl : ∀ a, H a ≠ none → H' a ≠ none
theorem Step.refl (F H : Hp) (T : Cnt) : Step F H T F H T := ⟨Same.refl F, fun _ _ _ h => h, fun _ h => .inl h, fun _ h n => absurd h n, fun _ h => h⟩
theorem Step.trans {F H F1 H1 F2 H2 : Hp} {T T1 T2 : Cnt} (a : Step F H T F1 H1 T1) (b : Step F1 H1 T1 F2 H2 T2) : Step F H T F2 H2 T2 := by
  refine ⟨a.sF.trans b.sF, fun x o t h => ?_, fun x n => ?_, fun x h n => ?_, fun x h => b.tl x (a.tl x h)⟩
  · have h1 := a.fr x o t h
    refine b.fr x o ?_ h1
    by_cases q : T1 x = 0
    · exact q
    · rcases a.nT x q with z | z
      · exact absurd t z
      · rw [h] at z; cases z
  · rcases b.nT x n with z | z
    · exact a.nT x z
    · by_cases q : H x = none
      · exact .inr q
      · exact absurd z (a.tl x q)
  · by_cases q : F1 x = none
    · rcases b.nF x q n with z | z | z
      · by_cases q2 : H x = none
        · exact .inl q2
        · exact absurd z (a.tl x q2)
      · rcases a.nT x z with y | y
        · exact .inr (.inl y)
        · exact .inl y
      · cases q2 : H x with
        | none => exact .inl rfl
        | some o =>
          by_cases t : T x = 0
          · rw [a.fr x o t q2] at z; exact .inr (.inr z)
          · exact .inr (.inl t)
    · exact a.nF x h q
theorem Step.castL {F H F1 H1 : Hp} {T T' T1 : Cnt} (a : Step F H T F1 H1 T1) (e : ∀ x, T x = T' x) : Step F H T' F1 H1 T1 := (show T = T' from funext e) ▸ a
theorem Step.castR {F H F1 H1 : Hp} {T T1 T1' : Cnt} (a : Step F H T F1 H1 T1) (e : ∀ x, T1 x = T1' x) : Step F H T F1 H1 T1' := (show T1 = T1' from funext e) ▸ a
/-- less is owned afterwards -/
theorem Step.less {F H F1 H1 : Hp} {T T1 T2 : Cnt} (a : Step F H T F1 H1 T1) (e : ∀ x, T2 x ≤ T1 x) : Step F H T F1 H1 T2 := ⟨a.sF, a.fr, fun x n => a.nT x (by have := e x; omega), a.nF, a.tl⟩
/-- a part that is owned besides stays as it is -/
theorem Step.frame {F H F1 H1 : Hp} {T T1 R : Cnt} (a : Step F H T F1 H1 T1) (hT : ∀ x, T x + R x ≤ 1) (hR : ∀ x, R x ≠ 0 → H x ≠ none) : Step F H (add T R) F1 H1 (add T1 R) ∧ (∀ x, R x ≠ 0 → T1 x = 0) ∧ (∀ x o, R x ≠ 0 → H x = some o → H1 x = some o) := by
  have d : ∀ x, R x ≠ 0 → T x = 0 := fun x n => by have := hT x; omega
  refine ⟨⟨a.sF, fun x o t h => a.fr x o (by simp only [add] at t; omega) h, fun x n => ?_, fun x h n => (a.nF x h n).imp id fun z => z.imp (fun z => by simp only [add]; omega) id, a.tl⟩, fun x n => ?_, fun x o n h => a.fr x o (d x n) h⟩
  · by_cases q : T1 x = 0
    · exact .inl (by simp only [add] at n ⊢; omega)
    · exact (a.nT x q).imp (fun z => by simp only [add]; omega) id
  · by_cases q : T1 x = 0
    · exact q
    · rcases a.nT x q with z | z
      · exact absurd (d x n) z
      · exact absurd z (hR x n)
theorem Step.keepF {F H F1 H1 : Hp} {T T1 : Cnt} (s : Step F H T F1 H1 T1) {a : Addr} (hF : F a = none) (hH : H a ≠ none) (hT : T a = 0) (nt : ¬ TupAt (H a)) : F1 a = none := Decidable.byContradiction fun w => by
  rcases s.nF a hF w with z | z | z
  · exact hH z
  · exact z hT
  · exact nt z
section
variable {G : Cfgx} {F F' H H' : Hp} {σ : L2.St} {S : List Slot} {T T' : Cnt}
theorem St'.noT (s : St' G F H σ S T) (a : Addr) (n : T a ≠ 0) : ¬ TupAt (H a) := s.sl.noT a n
theorem St'.there (s : St' G F H σ S T) (a : Addr) (n : T a ≠ 0) : H a ≠ none := s.sl.there a n
theorem St'.cast (s : St' G F H σ S T) (e : ∀ a, T a = T' a) : St' G F H σ S T' := (show T = T' from funext e) ▸ s
/-- a new object that nobody owns is frozen -/
theorem Step.newF {p : Addr} {o : HO} (hp : H p = none) (sub : Same F H) (nt : T p = 0) : Step F H T (upd F p o) (upd H p o) T := by
  have hf : F p = none := sub.free hp
  refine ⟨fun a u e => ?_, fun a u _ e => ?_, fun _ n => .inl n, fun a h n => ?_, fun a h => ?_⟩
  · rw [upd_ne (ne_of_none e hf)]; exact e
  · rw [upd_ne (ne_of_none e hp)]; exact e
  · by_cases q : a = p
    · rw [q]; exact .inl hp
    · rw [upd_ne q] at n; exact absurd h n
  · by_cases q : a = p
    · rw [q, upd_same]; simp
    · rw [upd_ne q]; exact h
/-- a new object, owned -/
theorem Step.newT {p : Addr} {o : HO} (hp : H p = none) : Step F H T F (upd H p o) (add T (one p)) := by
  refine ⟨Same.refl F, fun a u _ e => ?_, fun a n => ?_, fun a h n => absurd h n, fun a h => ?_⟩
  · rw [upd_ne (ne_of_none e hp)]; exact e
  · by_cases q : a = p
    · rw [q]; exact .inr hp
    · exact .inl (by simp only [add, one, if_neg q] at n; omega)
  · by_cases q : a = p
    · rw [q, upd_same]; simp
    · rw [upd_ne q]; exact h
/-- an owned object changed -/
theorem Step.put {p : Addr} {o : HO} (hp : T p ≠ 0) : Step F H T F (upd H p o) T := by
  refine ⟨Same.refl F, fun a u t e => ?_, fun a n => .inl n, fun a h n => absurd h n, fun a h => ?_⟩
  · rw [upd_ne (fun (q : a = p) => hp (by rw [← q]; exact t))]; exact e
  · by_cases q : a = p
    · rw [q, upd_same]; simp
    · rw [upd_ne q]; exact h
theorem St'.newF {p : Addr} {o : HO} (s : St' G F H σ S T) (hp : H p = none) : St' G (upd F p o) (upd H p o) σ S T ∧ Step F H T (upd F p o) (upd H p o) T := by
  have nt : T p = 0 := Decidable.byContradiction fun n => s.there p n hp
  have st := Step.newF (o := o) hp s.sub nt
  refine ⟨⟨s.pi, fun a u e => ?_, s.sl.mono st.sF fun a u n e => by rw [upd_ne (ne_of_none e hp)]; exact e, s.le, fun a n => ?_⟩, st⟩
  · by_cases q : a = p
    · rw [q, upd_same] at e ⊢; exact e
    · rw [upd_ne q] at e ⊢; exact s.sub _ _ e
  · by_cases q : a = p
    · rw [q]; exact nt
    · rw [upd_ne q] at n; exact s.di a n
theorem St'.newT {p : Addr} {o : HO} (s : St' G F H σ S T) (hp : H p = none) : St' G F (upd H p o) σ S T ∧ Step F H T F (upd H p o) (add T (one p)) ∧ (∀ a, T a + one p a ≤ 1) ∧ F p = none := by
  have nt : T p = 0 := Decidable.byContradiction fun n => s.there p n hp
  refine ⟨⟨s.pi, fun a u e => ?_, s.sl.mono (Same.refl F) fun a u n e => by rw [upd_ne (ne_of_none e hp)]; exact e, s.le, s.di⟩, Step.newT hp, fun a => ?_, s.sub.free hp⟩
  · rw [upd_ne (ne_of_none (s.sub _ _ e) hp)]; exact s.sub _ _ e
  · have := s.le a
    unfold one
    split
    · rename_i q; rw [q, nt]; omega
    · omega
end
end TB

namespace TB
open PySem L2

/-- an exception as it lies: no field, or a dict of its own with one number -/
def ExcR (G : Cfg) (x : Xc) (cls : Value) (dx : Option Addr) (H : Hp) : Prop :=
  cls = .ref (G.ca x.c) ∧ ((x.arg = .non ∧ dx = none) ∨ ∃ d i, x.arg = .int i ∧ dx = some d ∧ H d = some (.xd ((G.cn x.c).map fun n => (n, V.int i))))
def PX (G : Cfgx) (W : WX) (F H : Hp) (σ : L2.St) (T : Cnt) (x : Xc) (S' : List Slot) : Prop :=
  ∀ cls dx F' H' T', Step F H T F' H' T' → St' G F' H' σ S' T' → ExcR G x cls dx H' → W cls dx σ H'
def PR {α : Type} (G : Cfgx) (W : WX) (F H : Hp) (σ : L2.St) (T : Cnt) (K : α → List Slot → Prop) : R α → Prop
  | .ok a S => K a S
  | .exc x S => PX G W F H σ T x S
  | .bad => False
def KE (G : Cfgx) (F H : Hp) (σ : L2.St) (T : Cnt) (Q : VK) (kd : KD) (S' : List Slot) : Prop :=
  ∀ v F' H' T' f, Step F H T F' H' (add T' f) → St' G F' H' σ S' T' → Own G F' H' kd.1 v kd.2 f → (∀ a, T' a + f a ≤ 1) → (∀ a, F' a ≠ none → f a = 0) → Q v H'
def KDt (G : Cfgx) (F H : Hp) (σ : L2.St) (T : Cnt) (Q : VK) (d : D) (S' : List Slot) : Prop :=
  ∀ v F' H' T', Step F H T F' H' T' → St' G F' H' σ S' T' → Rep G F' v d → Q v H'
def KB (G : Cfgx) (F H : Hp) (σ : L2.St) (T : Cnt) (Q : Bool → Hp → Prop) (b : Bool) (S' : List Slot) : Prop :=
  ∀ F' H' T', Step F H T F' H' T' → St' G F' H' σ S' T' → Q b H'
def KL (G : Cfgx) (F H : Hp) (σ : L2.St) (T : Cnt) (Q : List V → Hp → Prop) (ds : List D) (S' : List Slot) : Prop :=
  ∀ vs F' H' T', Step F H T F' H' T' → St' G F' H' σ S' T' → Reps G F' vs ds → Q vs H'
section
variable {G : Cfgx} {W : WX} {F H F1 H1 : Hp} {σ : L2.St} {T T1 : Cnt} {α β : Type}
theorem PX.re {x : Xc} {S : List Slot} (s : Step F H T F1 H1 T1) (h : PX G W F H σ T x S) : PX G W F1 H1 σ T1 x S := fun cls dx F' H' T' s' st e => h cls dx F' H' T' (s.trans s') st e
theorem PR.bind {K1 : α → List Slot → Prop} {K2 : β → List Slot → Prop} {r : R α} {f : α → M β} (h : PR G W F H σ T K2 (r.bind f)) (k : ∀ a S, PR G W F H σ T K2 (f a S) → K1 a S) : PR G W F H σ T K1 r := by
  cases r with
  | ok a S => exact k a S h
  | exc x S => exact h
  | bad => exact h
theorem PR.re {K1 K2 : α → List Slot → Prop} {r : R α} (s : Step F H T F1 H1 T1) (k : ∀ a S, K1 a S → K2 a S) (h : PR G W F H σ T K1 r) : PR G W F1 H1 σ T1 K2 r := by
  cases r with
  | ok a S => exact k a S h
  | exc x S => exact PX.re s h
  | bad => exact h
theorem PR.imp {K1 K2 : α → List Slot → Prop} {r : R α} (k : ∀ a S, K1 a S → K2 a S) (h : PR G W F H σ T K1 r) : PR G W F H σ T K2 r := PR.re (Step.refl F H T) k h
theorem KE.re {Q : VK} {kd : KD} {S : List Slot} (s : Step F H T F1 H1 T1) (h : KE G F H σ T Q kd S) : KE G F1 H1 σ T1 Q kd S := fun v F' H' T' f s' st o l d => h v F' H' T' f (s.trans s') st o l d
theorem KDt.re {Q : VK} {d : D} {S : List Slot} (s : Step F H T F1 H1 T1) (h : KDt G F H σ T Q d S) : KDt G F1 H1 σ T1 Q d S := fun v F' H' T' s' st o => h v F' H' T' (s.trans s') st o
theorem KB.re {Q : Bool → Hp → Prop} {d : Bool} {S : List Slot} (s : Step F H T F1 H1 T1) (h : KB G F H σ T Q d S) : KB G F1 H1 σ T1 Q d S := fun F' H' T' s' st => h F' H' T' (s.trans s') st
theorem KL.re {Q : List V → Hp → Prop} {d : List D} {S : List Slot} (s : Step F H T F1 H1 T1) (h : KL G F H σ T Q d S) : KL G F1 H1 σ T1 Q d S := fun v F' H' T' s' st o => h v F' H' T' (s.trans s') st o
theorem PR.reE {Q : VK} {r : R KD} (s : Step F H T F1 H1 T1) (h : PR G W F H σ T (KE G F H σ T Q) r) : PR G W F1 H1 σ T1 (KE G F1 H1 σ T1 Q) r := PR.re s (fun _ _ => KE.re s) h
/-! what a step gives -/
/-- data as it is, nothing changed -/
theorem KE.val {Q : VK} {d : D} {S : List Slot} {v : V} (h : KE G F H σ T Q (.fz, d) S) (st : St' G F H σ S T) (r : Rep G F v d) : Q v H :=
  h v F H T nil0 ((Step.refl F H T).castR fun a => rfl) st (.fz r) (fun a => st.le a) fun _ _ => rfl
/-- a new frozen object -/
theorem KE.newF {Q : VK} {d : D} {S : List Slot} {o : HO} (h : KE G F H σ T Q (.fz, d) S) (st : St' G F H σ S T) (r : ∀ p, Rep G (upd F p o) (.ref p) d ∨ F p ≠ none) (p : Addr) (hp : H p = none) : Q (.ref p) (upd H p o) := by
  obtain ⟨st2, s⟩ := st.newF (o := o) hp
  have hf : F p = none := st.sub.free hp
  exact h (.ref p) _ _ T nil0 (s.castR fun a => rfl) st2 (.fz ((r p).resolve_right fun n => n hf)) (fun a => st2.le a) fun _ _ => rfl
/-- a new list, owned -/
theorem KE.newL {Q : VK} {vs : List V} {ds : List D} {S : List Slot} (h : KE G F H σ T Q (.li .fz, .lst ds) S) (st : St' G F H σ S T) (r : Reps G F vs ds) (p : Addr) (hp : H p = none) : Q (.ref p) (upd H p (.lst vs)) := by
  obtain ⟨st2, s, le, fp⟩ := st.newT (o := .lst vs) hp
  have ow : ∀ {vs : List V} {ds : List D}, Reps G F vs ds → Owns G F (upd H p (.lst vs)) .fz vs ds nil0 ∧ ∀ H', Owns G F H' .fz vs ds nil0 := by
    intro vs ds r
    induction vs generalizing ds with
    | nil => cases r; exact ⟨.nil, fun _ => .nil⟩
    | cons v vs ih =>
      cases r with
      | cons r1 r2 => exact ⟨.cons (.fz r1) ((ih r2).2 _), fun H' => .cons (.fz r1) ((ih r2).2 H')⟩
  refine h (.ref p) F _ T (add (one p) nil0) (s.castR fun a => rfl) st2 (.li upd_same ((ow r).2 _)) (fun a => le a) fun a n => ?_
  show one p a + 0 = 0
  unfold one
  split
  · rename_i q; rw [q, fp] at n; exact absurd rfl n
  · rfl
theorem owns_fz {vs : List V} {ds : List D} (r : Reps G F vs ds) : Owns G F H .fz vs ds nil0 := by
  induction vs generalizing ds with
  | nil => cases r; exact .nil
  | cons v vs ih =>
    cases r with
    | cons r1 r2 => exact .cons (.fz r1) (ih r2)
theorem reps_fz {vs : List V} {ds : List D} {f : Cnt} (r : Owns G F H .fz vs ds f) : Reps G F vs ds ∧ f = nil0 := by
  induction vs generalizing ds f with
  | nil => cases r; exact ⟨.nil, rfl⟩
  | cons v vs ih =>
    cases r with
    | cons r1 r2 =>
      cases r1 with
      | fz r1 =>
        obtain ⟨a, b⟩ := ih r2
        subst b
        exact ⟨.cons r1 a, rfl⟩
end

/-! ### judgements -/
def DenE (G : Cfgx) (W : WX) (t : TE) (m : E) : Prop := ∀ F H σ S T Q, St' G F H σ S T → PR G W F H σ T (KE G F H σ T Q) (m S) → t σ H Q
def DenD (G : Cfgx) (W : WX) (t : TE) (m : M D) : Prop := ∀ F H σ S T Q, St' G F H σ S T → PR G W F H σ T (KDt G F H σ T Q) (m S) → t σ H Q
def DenT (G : Cfgx) (W : WX) (t : TT) (m : T) : Prop := ∀ F H σ S T Q, St' G F H σ S T → PR G W F H σ T (KB G F H σ T Q) (m S) → t σ H Q
def DenA (G : Cfgx) (W : WX) (t : TA) (m : M (List D)) : Prop := ∀ F H σ S T Q, St' G F H σ S T → PR G W F H σ T (KL G F H σ T Q) (m S) → t σ H Q
def TrE (X : Cx) (G : Cfgx) (W : WX) (e : Expr) (m : E) : Prop := ∃ t, PE X e t ∧ DenE G W t m
def TrT (X : Cx) (G : Cfgx) (W : WX) (e : Expr) (m : T) : Prop := ∃ t, PT X e t ∧ DenT G W t m
def TrW (X : Cx) (G : Cfgx) (W : WX) (e : Expr) (m : T) : Prop := ∃ t, PW X e t ∧ DenT G W t m
def TrA (X : Cx) (G : Cfgx) (W : WX) (es : List Expr) (ms : List E) : Prop := ∃ t, PA X es t ∧ DenA G W t (eAll ms)
theorem takesN0 {X : Cx} : L2N.Takes X (fun _ _ _ _ => False) := fun _ _ z => by
  obtain ⟨_, _, _, _, _, _, _, _, _, _, _, _, _, _, _, _, z⟩ := z
  exact z.elim
/-- the context of a body -/
structure Cok (X : Cx) (G : Cfgx) (W : WX) (k : Nat) : Prop where
  hK : X.K = G.K
  tk : L2N.Takes X W
  po : PassesOwn (model X.prog X.w) X.A X.env X.xe
  calm : X.calm = true
  room : Room k X.A
  nd : X.N.Nodup
/-- an operation on two values -/
def S2 (G : Cfgx) (r : R2) (f : D → D → Option KD) : Prop := ∀ F H σ S T x y dx dy kd Q, St' G F H σ S T → Rep G F x dx → Rep G F y dy → f dx dy = some kd → KE G F H σ T Q kd S → r x y H Q
def S1 (G : Cfgx) (r : V → Hp → VK → Prop) (f : D → Option KD) : Prop := ∀ F H σ S T x dx kd Q, St' G F H σ S T → Rep G F x dx → f dx = some kd → KE G F H σ T Q kd S → r x H Q
def SN (G : Cfgx) (r : List V → Hp → VK → Prop) (f : List D → Option KD) : Prop := ∀ F H σ S T xs dxs kd Q, St' G F H σ S T → Reps G F xs dxs → f dxs = some kd → KE G F H σ T Q kd S → r xs H Q

/-- what a temporary owns becomes frozen -/
theorem freeze_core {G : Cfgx} {F H F' H' : Hp} {σ : L2.St} {S : List Slot} {T T' f : Cnt} {k : Kd} {v : V} {d : D} (s' : Step F H T F' H' (add T' f)) (st' : St' G F' H' σ S T') (o : Own G F' H' k v d f) (le : ∀ a, T' a + f a ≤ 1) (di : ∀ a, F' a ≠ none → f a = 0) :
    ∃ F2, Step F H T F2 H' T' ∧ St' G F2 H' σ S T' ∧ Rep G F2 v d ∧ Same F' F2 := by
  have hO : Same F' H' := st'.sub
  let F2 : Hp := fun a => if f a = 0 then F' a else H' a
  have sf : Same F' F2 := fun a o e => by
    show (if f a = 0 then F' a else H' a) = some o
    rw [if_pos (di a (by rw [e]; simp))]; exact e
  have sub2 : Same F2 H' := fun a o e => by
    have e : (if f a = 0 then F' a else H' a) = some o := e
    by_cases z : f a = 0
    · rw [if_pos z] at e; exact hO _ _ e
    · rw [if_neg z] at e; exact e
  have ff : ∀ a, f a ≠ 0 → F2 a = H' a := fun a n => if_neg n
  have rp : ∀ {k : Kd} {v : V} {d : D} {g : Cnt}, Own G F' H' k v d g → (∀ a, g a ≤ f a) → Own G F2 F2 k v d g := fun o l => o.mono sf fun a u n e => by
    rw [ff a (by have := l a; omega)]; exact e
  have r2 : Rep G F2 v d := (rp o fun a => Nat.le_refl _).rep (Same.refl F2)
  refine ⟨F2, ⟨s'.sF.trans sf, s'.fr, fun a n => s'.nT a (by simp only [add]; omega), fun a h n => ?_, s'.tl⟩, ⟨st'.pi, sub2, st'.sl.mono sf fun _ _ _ h => h, st'.le, fun a n => ?_⟩, r2, sf⟩
  · by_cases z : f a = 0
    · refine s'.nF a h ?_
      have n : (if f a = 0 then F' a else H' a) ≠ none := n
      rwa [if_pos z] at n
    · exact ((s'.nT a (by simp only [add]; omega)).symm).imp id .inl
  · have n : (if f a = 0 then F' a else H' a) ≠ none := n
    by_cases z : f a = 0
    · rw [if_pos z] at n; exact st'.di a n
    · have := le a; omega
theorem KDt.freeze {G : Cfgx} {F H : Hp} {σ : L2.St} {T : Cnt} {Q : VK} {kd : KD} {S : List Slot} (q : KDt G F H σ T Q kd.2 S) : KE G F H σ T Q kd S := fun v F' H' T' f s' st' o le di => by
  obtain ⟨F2, s2, st2, r2, _⟩ := freeze_core s' st' o le di
  exact q v F2 H' T' s2 st2 r2
section
variable {X : Cx} {G : Cfgx} {W : WX} {k : Nat}
theorem DenE.dat {t : TE} {m : E} (h : DenE G W t m) : DenD G W t (eDat m) := fun F H σ S T Q st p =>
  h F H σ S T Q st (PR.bind (f := fun kd => M.pure kd.2) p fun kd S1 q => KDt.freeze (show KDt G F H σ T Q kd.2 S1 from q))
theorem tr_var (i : Nat) {x : PySem.Str} {pos : Pos} (hN : X.N[i]? = some x := by rfl) (hv : Vis X.env.scope x := by first | exact Or.inl rfl | exact Or.inr (Or.inl rfl) | exact Or.inr (Or.inr rfl)) (hd : (x == ("__debug__" : PySem.Str)) = false := by decide)
    (hcd : (x == ("__classdict__" : PySem.Str)) = false := by decide) : TrE X G W (.Name x pos) (eVar i) := by
  refine ⟨_, pe_var hN hv hd hcd, fun F H σ S T Q st p => ?_⟩
  unfold eVar at p
  cases e : S[i]? with
  | none => rw [e] at p; exact p.elim
  | some s =>
    rw [e] at p
    cases s with
    | none => exact p.elim
    | some kd =>
      obtain ⟨kk, d⟩ := kd
      cases kk with
      | fz =>
        obtain ⟨v, f, hv, o, _⟩ := st.sl.var e
        cases o with
        | fz r => exact ⟨v, hv, KE.val p st r⟩
      | _ => exact p.elim
theorem tr_mv (i : Nat) {x : PySem.Str} {pos : Pos} (hN : X.N[i]? = some x := by rfl) (hv : Vis X.env.scope x := by first | exact Or.inl rfl | exact Or.inr (Or.inl rfl) | exact Or.inr (Or.inr rfl)) (hd : (x == ("__debug__" : PySem.Str)) = false := by decide)
    (hcd : (x == ("__classdict__" : PySem.Str)) = false := by decide) : TrE X G W (.Name x pos) (eMv i) := by
  refine ⟨_, pe_var hN hv hd hcd, fun F H σ S T Q st p => ?_⟩
  unfold eMv at p
  cases e : S[i]? with
  | none => rw [e] at p; exact p.elim
  | some s =>
    rw [e] at p
    cases s with
    | none => exact p.elim
    | some kd =>
      obtain ⟨kk, d⟩ := kd
      obtain ⟨v, f, T0, ht, hv, ho, back⟩ := st.sl.at e
      cases ho with
      | @yes k1 v1 d1 f1 o =>
        refine ⟨v1, hv, p v1 F H T0 f ((Step.refl F H T).castR fun a => by simp only [add]; have := ht a; omega) ⟨st.pi, st.sub, ?_, fun a => by have := ht a; have := st.le a; omega, fun a n => by have := ht a; have := st.di a n; omega⟩ o (fun a => by have := ht a; have := st.le a; omega) fun a n => by have := ht a; have := st.di a n; omega⟩
        have q := back F H (some v1) none nil0 (Same.refl F) (fun _ _ _ h => h) (.no _)
        have e2 : σ.set i (some v1) = σ := by
          obtain ⟨hi, q1⟩ := List.getElem?_eq_some_iff.mp hv
          rw [← q1, List.set_getElem_self]
        rw [e2] at q
        exact q.cast fun a => by simp [add, nil0]
theorem tr_int {i : Int} {j} {pos : Pos} : TrE X G W (.Constant (.int i) j pos) (eCon (.int i)) := ⟨_, pe_int, fun F H σ S T Q st p => KE.val p st (.int i)⟩
theorem tr_bl {b : Bool} {j} {pos : Pos} : TrE X G W (.Constant (.bool b) j pos) (eCon (.bl b)) := ⟨_, pe_bl, fun F H σ S T Q st p => KE.val p st (.bl b)⟩
theorem tr_non {j} {pos : Pos} : TrE X G W (.Constant .none j pos) (eCon .non) := ⟨_, pe_non, fun F H σ S T Q st p => KE.val p st .non⟩
theorem tr_str {z : PySem.Str} {j} {pos : Pos} (s : List Nat) (hs : z.cps.toList = s := by rfl) : TrE X G W (.Constant (.str z) j pos) (eCon (.str s)) := ⟨_, pe_str, fun F H σ S T Q st p => KE.val p st (hs ▸ .str z)⟩
/-- a constant of the module -/
theorem tr_glob {x : PySem.Str} {v : V} {u : Value} {pos : Pos} {d : D} (hm : X.mg x = some u) (r : RelV v u) (rep : ∀ F, Rep G F v d) (hg : Gl X x := by rfl) (hd : (x == ("__debug__" : PySem.Str)) = false := by decide) : TrE X G W (.Name x pos) (eCon d) :=
  ⟨_, pe_glob hg hm r hd, fun F H σ S T Q st p => KE.val p st (rep F)⟩
theorem tr_fr {e : Expr} {m : E} (h : TrE X G W e m) : TrE X G W e (eFr m) := by
  obtain ⟨t, hp, hd⟩ := h
  refine ⟨t, hp, fun F H σ S T Q st p => ?_⟩
  refine hd F H σ S T Q st (PR.bind (f := fun kd => M.pure ((.fz, kd.2) : KD)) p fun kd S1 q => KDt.freeze fun v F' H' T' s' st' r => ?_)
  exact (show KE G F H σ T Q (.fz, kd.2) S1 from q) v F' H' T' nil0 (s'.castR fun a => rfl) st' (.fz r) (fun a => st'.le a) fun _ _ => rfl
/-- a look at owned things -/
theorem flat_rep {F : Hp} {v : V} {d : D} (h : d.flat = true) (r : Rep G F v d) (F' : Hp) : Rep G F' v d := by
  cases r with
  | non => exact .non
  | bl b => exact .bl b
  | int i => exact .int i
  | str z => exact .str z
  | _ => cases h
theorem slots_frz {F H : Hp} {σ : L2.St} {S : List Slot} {T : Cnt} (e : Same F H) (h : Slots G F H σ S T) : Slots G H H σ (S.map frz) nil0 := by
  induction h with
  | nil => exact .nil
  | @cons v s f g σ S h r ih =>
    have : Slots G H H (v :: σ) (frz s :: S.map frz) (add nil0 nil0) := by
      refine .cons ?_ ih
      cases h with
      | no v => exact .no v
      | yes o => exact .yes (.fz (o.rep e))
    exact this
theorem tr_peek {e : Expr} {m : E} {W' : WX} (h : TrE X G W' e m) : TrE X G W e (ePeek m) := by
  obtain ⟨t, hp, hd⟩ := h
  refine ⟨t, hp, fun F H σ S T Q st p => ?_⟩
  have st2 : St' G H H σ (S.map frz) nil0 := ⟨st.pi, Same.refl H, slots_frz st.sub st.sl, fun _ => Nat.zero_le _, fun _ _ => rfl⟩
  unfold ePeek at p
  refine hd H H σ (S.map frz) nil0 Q st2 ?_
  cases e : m (S.map frz) with
  | exc x S => rw [e] at p; exact p.elim
  | bad => rw [e] at p; exact p.elim
  | ok kd S1 =>
    rw [e] at p
    obtain ⟨kk, d⟩ := kd
    have p : PR G W F H σ T (KE G F H σ T Q) (if d.flat then .ok (.fz, d) S else .bad) := p
    cases fl : d.flat with
    | false => rw [fl] at p; exact p.elim
    | true =>
      rw [fl] at p
      have p : KE G F H σ T Q (.fz, d) S := p
      intro v F' H' T' f s' st' o le di
      have sHH : Same H H' := fun a u e => s'.fr a u rfl e
      have rep := o.rep st'.sub
      refine p v F H' T nil0 ⟨Same.refl F, fun a u _ e => sHH a u e, fun a n => .inl n, fun a h n => absurd h n, s'.tl⟩ ⟨st.pi, fun a u e => sHH _ _ (st.sub _ _ e), st.sl.mono (Same.refl F) fun a u _ e => sHH a u e, st.le, st.di⟩ (.fz (flat_rep fl rep F)) (fun a => st.le a) fun _ _ => rfl
/-! argument lists -/
theorem tra_nil : TrA X G W [] [] := ⟨_, pa_nil, fun F H σ S T Q st p => by
  have p : KL G F H σ T Q [] S := p
  exact p [] F H T (Step.refl F H T) st .nil⟩
theorem tra_cons {e : Expr} {es : List Expr} {m : E} {ms : List E} (h : TrE X G W e m) (r : TrA X G W es ms) (hs : starEach (e :: es) X.env = (false, eval e X.env) :: starEach es X.env := by rfl) : TrA X G W (e :: es) (m :: ms) := by
  obtain ⟨t, hp, hd⟩ := h
  obtain ⟨u, hq, hu⟩ := r
  refine ⟨_, pa_cons hp hq hs, fun F H σ S T Q st p => ?_⟩
  refine DenE.dat hd F H σ S T _ st (PR.bind p fun d S1 q => ?_)
  intro v F1 H1 T1 s1 st1 r1
  refine hu F1 H1 σ S1 T1 _ st1 (PR.bind (PR.re s1 (fun _ _ h => h) q) fun ds S2 q2 => ?_)
  intro vs F2 H2 T2 s2 st2 r2
  have q2 : KL G F H σ T Q (d :: ds) S2 := q2
  exact q2 (v :: vs) F2 H2 T2 (s1.trans s2) st2 (.cons (r1.mono s2.sF) r2)
end
end TB

namespace TB
open PySem L2
theorem Reps.len {G : Cfg} {F : Hp} : ∀ {vs : List V} {ds : List D}, Reps G F vs ds → vs.length = ds.length
  | _, _, .nil => rfl
  | _, _, .cons _ r => by simp [Reps.len r]
section
variable {X : Cx} {G : Cfgx} {W : WX} {k : Nat}
/-! ### displays -/
theorem tr_tup {es : List Expr} {ms : List E} {c} {pos : Pos} (h : TrA X G W es ms) : TrE X G W (.Tuple es c pos) (eApp fTup ms) := by
  obtain ⟨t, hp, hd⟩ := h
  refine ⟨_, pe_tup hp, fun F H σ S T Q st p => hd F H σ S T _ st (PR.bind p fun ds S1 q => ?_)⟩
  intro vs F1 H1 T1 s1 st1 r1
  have hl : vs.length = ds.length := r1.len
  have q : PR G W F H σ T (KE G F H σ T Q) (ofO (fTup ds) S1) := q
  unfold fTup at q
  by_cases z : ds.length ≤ sizeMax
  · rw [if_pos z] at q
    have q : KE G F H σ T Q (.fz, .tup ds) S1 := q
    exact ⟨by rw [hl]; exact z, fun x hx => KE.newF (q.re s1) st1 (fun x => by
      by_cases n : F1 x = none
      · exact .inl (.tup (.inl (.inl upd_same)) (r1.mono fun a u e => by rw [upd_ne (ne_of_none e n)]; exact e))
      · exact .inr n) x hx⟩
  · rw [if_neg z] at q; exact q.elim
theorem tr_lst {es : List Expr} {ms : List E} {pos : Pos} (h : TrA X G W es ms) : TrE X G W (.List es pos) (eApp fLst ms) := by
  obtain ⟨t, hp, hd⟩ := h
  refine ⟨_, pe_lst hp, fun F H σ S T Q st p => hd F H σ S T _ st (PR.bind p fun ds S1 q => ?_)⟩
  intro vs F1 H1 T1 s1 st1 r1
  have hl : vs.length = ds.length := r1.len
  have q : PR G W F H σ T (KE G F H σ T Q) (ofO (fLst ds) S1) := q
  unfold fLst at q
  by_cases z : ds.length ≤ sizeMax
  · rw [if_pos z] at q
    have q : KE G F H σ T Q (.li .fz, .lst ds) S1 := q
    exact ⟨by rw [hl]; exact z, fun x hx => KE.newL (q.re s1) st1 r1 x hx⟩
  · rw [if_neg z] at q; exact q.elim
/-! ### operations -/
theorem den_op {r : R2} {f : D → D → Option KD} (hs : S2 G r f) {ta tb : TE} {a b : E} (ha : DenE G W ta a) (hb : DenE G W tb b) : DenE G W (tOp r ta tb) (eOp f a b) := fun F H σ S T Q st p => by
  refine ha.dat F H σ S T _ st (PR.bind p fun dx S1 q => ?_)
  intro v F1 H1 T1 s1 st1 r1
  refine hb.dat F1 H1 σ S1 T1 _ st1 (PR.bind (PR.re s1 (fun _ _ h => h) q) fun dy S2 q2 => ?_)
  intro u F2 H2 T2 s2 st2 r2
  cases e : f dx dy with
  | none => rw [e] at q2; exact q2.elim
  | some d =>
    rw [e] at q2
    have q2 : KE G F H σ T Q d S2 := q2
    exact hs F2 H2 σ S2 T2 v u dx dy d Q st2 (r1.mono s2.sF) r2 e (q2.re (s1.trans s2))
theorem den_un {r : V → Hp → VK → Prop} {f : D → Option KD} (hs : S1 G r f) {ta : TE} {a : E} (ha : DenE G W ta a) : DenE G W (tUn r ta) (eUn f a) := fun F H σ S T Q st p => by
  refine ha.dat F H σ S T _ st (PR.bind p fun dx S1 q => ?_)
  intro v F1 H1 T1 s1 st1 r1
  cases e : f dx with
  | none => rw [e] at q; exact q.elim
  | some d =>
    rw [e] at q
    have q : KE G F H σ T Q d S1 := q
    exact hs F1 H1 σ S1 T1 v dx d Q st1 r1 e (q.re s1)
theorem den_app {r : List V → Hp → VK → Prop} {f : List D → Option KD} (hs : SN G r f) {ta : TA} {ms : List E} (ha : DenA G W ta (eAll ms)) : DenE G W (tCB r ta) (eApp f ms) := fun F H σ S T Q st p => by
  refine ha F H σ S T _ st (PR.bind p fun dx S1 q => ?_)
  intro v F1 H1 T1 s1 st1 r1
  cases e : f dx with
  | none => rw [e] at q; exact q.elim
  | some d =>
    rw [e] at q
    have q : KE G F H σ T Q d S1 := q
    exact hs F1 H1 σ S1 T1 v dx d Q st1 r1 e (q.re s1)
theorem tr_op {op : Operator} {r : R2} {f : D → D → Option KD} {a b : Expr} {ma mb : E} {pos : Pos} (ho : OpR X (binaryOp op) r) (hs : S2 G r f) (ha : TrE X G W a ma) (hb : TrE X G W b mb) : TrE X G W (.BinOp a op b pos) (eOp f ma mb) := by
  obtain ⟨ta, pa, da⟩ := ha
  obtain ⟨tb, pb, db⟩ := hb
  exact ⟨_, pe_op ho pa pb, den_op hs da db⟩
theorem tr_un {op : UnaryOp} {r : V → Hp → VK → Prop} {f : D → Option KD} {a : Expr} {ma : E} {pos : Pos} (ho : UnR X (unaryOp op) r) (hs : S1 G r f) (ha : TrE X G W a ma) : TrE X G W (.UnaryOp op a pos) (eUn f ma) := by
  obtain ⟨ta, pa, da⟩ := ha
  exact ⟨_, pe_un ho pa, den_un hs da⟩
theorem tr_cmp {op : CmpOp} {r : R2} {f : D → D → Option KD} {a b : Expr} {ma mb : E} {pos : Pos} (ho : OpR X (compareOp op) r) (hs : S2 G r f) (ha : TrE X G W a ma) (hb : TrE X G W b mb) (hm : behindInMarks op b = false) : TrE X G W (.Compare a [op] [b] pos) (eOp f ma mb) := by
  obtain ⟨ta, pa, da⟩ := ha
  obtain ⟨tb, pb, db⟩ := hb
  exact ⟨_, pe_cmpR ho pa pb hm, den_op hs da db⟩
theorem tr_ix {r : R2} {f : D → D → Option KD} {a b : Expr} {ma mb : E} {pos : Pos} (ho : IxR X r) (hs : S2 G r f) (ha : TrE X G W a ma) (hb : TrE X G W b mb) (hp : PlainIx b := by exact fun _ _ => rfl) : TrE X G W (.Subscript a b pos) (eOp f ma mb) := by
  obtain ⟨ta, pa, da⟩ := ha
  obtain ⟨tb, pb, db⟩ := hb
  exact ⟨_, pe_ix ho pa pb hp, den_op hs da db⟩
theorem den_test {t : TE} {m : E} (h : DenE G W t m) : DenT G W (tTest t) (eBool m) := fun F H σ S T Q st p => by
  refine h F H σ S T _ st (PR.bind p fun kd S1 q => ?_)
  obtain ⟨kk, d⟩ := kd
  intro v F' H' T' f s' st' o le di
  cases d with
  | bl b =>
    have q : KB G F H σ T Q b S1 := q
    cases o with
    | fz r => cases r; exact ⟨b, rfl, q F' H' T' (s'.castR fun a => rfl) st'⟩
  | _ => exact q.elim
theorem tt_cmp {op : CmpOp} {r : R2} {f : D → D → Option KD} {a b : Expr} {ma mb : E} {pos : Pos} (ho : OpR X (compareOp op) r) (hs : S2 G r f) (ha : TrE X G W a ma) (hb : TrE X G W b mb) (hm : behindInMarks op b = false) : TrT X G W (.Compare a [op] [b] pos) (eBool (eOp f ma mb)) := by
  obtain ⟨ta, pa, da⟩ := ha
  obtain ⟨tb, pb, db⟩ := hb
  exact ⟨_, pt_cmpR ho pa pb hm, den_test (den_op hs da db)⟩
theorem tt_val {e : Expr} {m : E} (h : TrE X G W e m) (he : ∀ whole, isTrue e X.env whole = (do let v ← whole; standAt e.pos; holding [v] (truthy v)) := by intro _; rfl) : TrT X G W e (eBool m) := by
  obtain ⟨t, pa, da⟩ := h
  exact ⟨_, pt_val pa he, den_test da⟩
theorem tt_peek {e : Expr} {m : T} {W' : WX} (h : TrT X G W' e m) : TrT X G W e (tPeek m) := by
  obtain ⟨t, hp, hd⟩ := h
  refine ⟨t, hp, fun F H σ S T Q st p => ?_⟩
  have st2 : St' G H H σ (S.map frz) nil0 := ⟨st.pi, Same.refl H, slots_frz st.sub st.sl, fun _ => Nat.zero_le _, fun _ _ => rfl⟩
  unfold tPeek at p
  refine hd H H σ (S.map frz) nil0 Q st2 ?_
  cases e : m (S.map frz) with
  | exc x S => rw [e] at p; exact p.elim
  | bad => rw [e] at p; exact p.elim
  | ok b S1 =>
    rw [e] at p
    have p : KB G F H σ T Q b S := p
    intro F' H' T' s' st'
    have sHH : Same H H' := fun a u e => s'.fr a u rfl e
    exact p F H' T ⟨Same.refl F, fun a u _ e => sHH a u e, fun a n => .inl n, fun a h n => absurd h n, s'.tl⟩ ⟨st.pi, fun a u e => sHH _ _ (st.sub _ _ e), st.sl.mono (Same.refl F) fun a u _ e => sHH a u e, st.le, st.di⟩
/-! and, or, not -/
theorem den_bind {t : TT} {m : T} (h : DenT G W t m) {Q : Hp → Prop} : True := trivial
theorem tw_and1 {a : Expr} {ma : T} {pos : Pos} (ha : TrT X G W a ma) : TrW X G W (.BoolOp .And [a] pos) ma := by
  obtain ⟨t, p, d⟩ := ha
  exact ⟨_, pw_and1 p, d⟩
theorem tw_or1 {a : Expr} {ma : T} {pos : Pos} (ha : TrT X G W a ma) : TrW X G W (.BoolOp .Or [a] pos) ma := by
  obtain ⟨t, p, d⟩ := ha
  exact ⟨_, pw_or1 p, d⟩
theorem tw_and {a b : Expr} {rest : List Expr} {ma mb : T} {pos : Pos} (ha : TrT X G W a ma) (hb : TrW X G W (.BoolOp .And (b :: rest) pos) mb) : TrW X G W (.BoolOp .And (a :: b :: rest) pos) (tAnd ma mb) := by
  obtain ⟨t, p, d⟩ := ha
  obtain ⟨u, q, e⟩ := hb
  refine ⟨_, pw_and p q, fun F H σ S T Q st z => d F H σ S T _ st (PR.bind z fun c S1 y => ?_)⟩
  intro F1 H1 T1 s1 st1
  cases c with
  | true => exact e F1 H1 σ S1 T1 Q st1 (PR.re s1 (fun _ _ => KB.re s1) y)
  | false => exact (show KB G F H σ T Q false S1 from y) F1 H1 T1 s1 st1
theorem tw_or {a b : Expr} {rest : List Expr} {ma mb : T} {pos : Pos} (ha : TrT X G W a ma) (hb : TrW X G W (.BoolOp .Or (b :: rest) pos) mb) : TrW X G W (.BoolOp .Or (a :: b :: rest) pos) (tOr ma mb) := by
  obtain ⟨t, p, d⟩ := ha
  obtain ⟨u, q, e⟩ := hb
  refine ⟨_, pw_or p q, fun F H σ S T Q st z => d F H σ S T _ st (PR.bind z fun c S1 y => ?_)⟩
  intro F1 H1 T1 s1 st1
  cases c with
  | false => exact e F1 H1 σ S1 T1 Q st1 (PR.re s1 (fun _ _ => KB.re s1) y)
  | true => exact (show KB G F H σ T Q true S1 from y) F1 H1 T1 s1 st1
theorem tt_w {e : Expr} {m : T} (h : TrW X G W e m) : TrT X G W e m := by
  obtain ⟨t, p, d⟩ := h
  exact ⟨t, p.pt, d⟩
theorem tt_not {a : Expr} {ma : T} {pos : Pos} (ha : TrT X G W a ma) : TrT X G W (.UnaryOp .Not a pos) (tNot ma) := by
  obtain ⟨t, p, d⟩ := ha
  refine ⟨_, pt_not p, fun F H σ S T Q st z => d F H σ S T _ st (PR.bind z fun c S1 y => ?_)⟩
  intro F1 H1 T1 s1 st1
  exact (show KB G F H σ T Q (!c) S1 from y) F1 H1 T1 s1 st1
theorem den_boolE {t : TE} {m : E} (h : DenE G W t m) : ∀ F H σ S T (Q : V → Hp → Prop), St' G F H σ S T → PR G W F H σ T (fun b S' => ∀ F' H' T', Step F H T F' H' T' → St' G F' H' σ S' T' → Q (.bl b) H') (eBool m S) → t σ H Q := fun F H σ S T Q st p => by
  refine h F H σ S T _ st (PR.bind p fun kd S1 q => ?_)
  obtain ⟨kk, d⟩ := kd
  intro v F' H' T' f s' st' o le di
  cases d with
  | bl b =>
    have q : ∀ F' H' T', Step F H T F' H' T' → St' G F' H' σ S1 T' → Q (.bl b) H' := q
    cases o with
    | fz r => cases r; exact q F' H' T' (s'.castR fun a => rfl) st'
  | _ => exact q.elim
theorem tr_one {op} {a : Expr} {m : E} {pos : Pos} (h : TrE X G W a m) : TrE X G W (.BoolOp op [a] pos) m := by
  obtain ⟨t, p, d⟩ := h
  exact ⟨t, pe_one p, d⟩
theorem tr_and {a b : Expr} {rest : List Expr} {ma mb : E} {pos : Pos} (ha : TrE X G W a ma) (hb : TrE X G W (.BoolOp .And (b :: rest) pos) mb) : TrE X G W (.BoolOp .And (a :: b :: rest) pos) (eAnd ma mb) := by
  obtain ⟨t, p, d⟩ := ha
  obtain ⟨u, q, e⟩ := hb
  refine ⟨_, pe_and p q, fun F H σ S T Q st z => den_boolE d F H σ S T _ st (PR.bind z fun c S1 y => ?_)⟩
  intro F1 H1 T1 s1 st1
  refine ⟨c, rfl, ?_⟩
  cases c with
  | true => exact e F1 H1 σ S1 T1 Q st1 (PR.reE s1 y)
  | false => exact KE.val (KE.re s1 (show KE G F H σ T Q (.fz, .bl false) S1 from y)) st1 (.bl false)
theorem tr_or {a b : Expr} {rest : List Expr} {ma mb : E} {pos : Pos} (ha : TrE X G W a ma) (hb : TrE X G W (.BoolOp .Or (b :: rest) pos) mb) : TrE X G W (.BoolOp .Or (a :: b :: rest) pos) (eOr ma mb) := by
  obtain ⟨t, p, d⟩ := ha
  obtain ⟨u, q, e⟩ := hb
  refine ⟨_, pe_or p q, fun F H σ S T Q st z => den_boolE d F H σ S T _ st (PR.bind z fun c S1 y => ?_)⟩
  intro F1 H1 T1 s1 st1
  refine ⟨c, rfl, ?_⟩
  cases c with
  | false => exact e F1 H1 σ S1 T1 Q st1 (PR.reE s1 y)
  | true => exact KE.val (KE.re s1 (show KE G F H σ T Q (.fz, .bl true) S1 from y)) st1 (.bl true)
theorem tr_not {a : Expr} {ma : E} {pos : Pos} (ha : TrE X G W a ma) : TrE X G W (.UnaryOp .Not a pos) (eNot ma) := by
  obtain ⟨t, p, d⟩ := ha
  refine ⟨_, pe_not p, fun F H σ S T Q st z => den_boolE d F H σ S T _ st (PR.bind z fun c S1 y => ?_)⟩
  intro F1 H1 T1 s1 st1
  exact ⟨c, rfl, KE.val (KE.re s1 (show KE G F H σ T Q (.fz, .bl (!c)) S1 from y)) st1 (.bl (!c))⟩
theorem tr_if {c a b : Expr} {mc : T} {ma mb : E} {pos : Pos} (hc : TrT X G W c mc) (ha : TrE X G W a ma) (hb : TrE X G W b mb) : TrE X G W (.IfExp c a b pos) (eIf mc ma mb) := by
  obtain ⟨t, p, d⟩ := hc
  obtain ⟨u, q, e⟩ := ha
  obtain ⟨w, r, g⟩ := hb
  refine ⟨_, pe_ifExp p q r, fun F H σ S T Q st z => d F H σ S T _ st (PR.bind z fun x S1 y => ?_)⟩
  intro F1 H1 T1 s1 st1
  cases x with
  | true => exact e F1 H1 σ S1 T1 Q st1 (PR.reE s1 y)
  | false => exact g F1 H1 σ S1 T1 Q st1 (PR.reE s1 y)
theorem den_chain {r r' : R2} {f g : D → D → Option KD} (hs : S2 G r f) (hs' : S2 G r' g) {ta tb tc : TE} {a b c : E} (ha : DenE G W ta a) (hb : DenE G W tb b) (hc : DenE G W tc c) : DenE G W (tChain r r' ta tb tc) (eChain f g a b c) := fun F H σ S T Q st p => by
  refine ha.dat F H σ S T _ st (PR.bind p fun dx S1 q => ?_)
  intro v F1 H1 T1 s1 st1 r1
  refine hb.dat F1 H1 σ S1 T1 _ st1 (PR.bind (PR.re s1 (fun _ _ h => h) q) fun dy S2 q2 => ?_)
  intro u F2 H2 T2 s2 st2 r2
  cases e : f dx dy with
  | none => rw [e] at q2; exact q2.elim
  | some d =>
    rw [e] at q2
    refine hs F2 H2 σ S2 T2 v u dx dy d _ st2 (r1.mono s2.sF) r2 e ?_
    intro z F3 H3 T3 f3 s3 st3 o le di
    obtain ⟨kk, d⟩ := d
    cases kk with
    | fz =>
      cases d with
      | bl bb =>
        cases o with
        | fz rr =>
          cases rr
          refine ⟨bb, rfl, ?_⟩
          have s03 : Step F H T F3 H3 T3 := (s1.trans s2).trans (s3.castR fun a => rfl)
          cases bb with
          | false => exact KE.val (KE.re s03 (show KE G F H σ T Q (.fz, .bl false) S2 from q2)) st3 (.bl false)
          | true =>
            show tc σ H3 _
            have q2 : PR G W F1 H1 σ T1 (KE G F H σ T Q) (M.bind (eDat c) (fun z => ofO (g dy z)) S2) := q2
            refine hc.dat F3 H3 σ S2 T3 _ st3 (PR.bind (PR.re (s2.trans (s3.castR fun a => rfl)) (fun _ _ h => h) q2) fun dz S4 q4 => ?_)
            intro w F4 H4 T4 s4 st4 r4
            cases e4 : g dy dz with
            | none => rw [e4] at q4; exact q4.elim
            | some d4 =>
              rw [e4] at q4
              have q4 : KE G F H σ T Q d4 S4 := q4
              exact hs' F4 H4 σ S4 T4 u w dy dz d4 Q st4 ((r2.mono s3.sF).mono s4.sF) r4 e4 (q4.re (s03.trans s4))
      | _ => exact q2.elim
    | _ => exact q2.elim
theorem tr_chain {op op' : CmpOp} {r r' : R2} {f g : D → D → Option KD} {a b c : Expr} {ma mb mc : E} {pos : Pos} (ho : OpR X (compareOp op) r) (ho' : OpR X (compareOp op') r') (hs : S2 G r f) (hs' : S2 G r' g) (ha : TrE X G W a ma) (hb : TrE X G W b mb) (hc : TrE X G W c mc)
    (hm : lastMarks [op, op'] [b, c] = false := by with_unfolding_all rfl) : TrE X G W (.Compare a [op, op'] [b, c] pos) (eChain f g ma mb mc) := by
  obtain ⟨ta, pa, da⟩ := ha
  obtain ⟨tb, pb, db⟩ := hb
  obtain ⟨tc, pc, dc⟩ := hc
  exact ⟨_, pe_chain ho ho' pa pb pc hm, den_chain hs hs' da db dc⟩
theorem tt_chain {op op' : CmpOp} {r r' : R2} {f g : D → D → Option KD} {a b c : Expr} {ma mb mc : E} {pos : Pos} (ho : OpR X (compareOp op) r) (ho' : OpR X (compareOp op') r') (hs : S2 G r f) (hs' : S2 G r' g) (ha : TrE X G W a ma) (hb : TrE X G W b mb) (hc : TrE X G W c mc)
    (hm : lastMarks [op, op'] [b, c] = false := by with_unfolding_all rfl) : TrT X G W (.Compare a [op, op'] [b, c] pos) (eBool (eChain f g ma mb mc)) := by
  obtain ⟨ta, pa, da⟩ := ha
  obtain ⟨tb, pb, db⟩ := hb
  obtain ⟨tc, pc, dc⟩ := hc
  exact ⟨_, pt_chain ho ho' pa pb pc hm, den_test (den_chain hs hs' da db dc)⟩
/-! ### built-in functions by name -/
theorem tr_callB {x : PySem.Str} {id : String} {r : List V → Hp → VK → Prop} {f : List D → Option KD} {p pos : Pos} {e : Expr} {es : List Expr} {ms : List E} (hc : CallR X (.builtin id) r) (hs : SN G r f) (hm : X.mg x = none) (hv : bootBuiltins x = some (.builtin id)) (ha : TrA X G W (e :: es) ms) (hg : Gl X x := by rfl)
    (hn : x ≠ "__name__" := by decide) (hdb : (x == ("__debug__" : PySem.Str)) = false := by decide) (he : starEach (e :: es) X.env = (false, eval e X.env) :: starEach es X.env := by rfl) (hpl : (backTo pos (starEach es X.env)).any (·.1) = false := by rfl) : TrE X G W (.Call (.Name x p) (e :: es) [] pos) (eApp f ms) := by
  obtain ⟨t, pa, da⟩ := ha
  exact ⟨_, pe_callB hc hg hm hv pa hn hdb he hpl, den_app hs da⟩
theorem tr_callT {x : PySem.Str} {id : String} {r : List V → Hp → VK → Prop} {f : List D → Option KD} {p pos : Pos} {e : Expr} {es : List Expr} {ms : List E} (hc : CallR X (.type id) r) (hs : SN G r f) (hm : X.mg x = none) (hv : bootBuiltins x = some (.type id)) (ha : TrA X G W (e :: es) ms) (hg : Gl X x := by rfl)
    (hn : x ≠ "__name__" := by decide) (hdb : (x == ("__debug__" : PySem.Str)) = false := by decide) (he : starEach (e :: es) X.env = (false, eval e X.env) :: starEach es X.env := by rfl) (hpl : (backTo pos (starEach es X.env)).any (·.1) = false := by rfl) : TrE X G W (.Call (.Name x p) (e :: es) [] pos) (eApp f ms) := by
  obtain ⟨t, pa, da⟩ := ha
  exact ⟨_, pe_callTy hc hg hm hv pa hn hdb he hpl, den_app hs da⟩
end
end TB

namespace TB
open PySem L2
/-! ### statements -/
def PXs (G : Cfgx) (W : WX) (F H : Hp) (T : Cnt) (x : Xc) (S' : List Slot) : Prop :=
  ∀ σ' cls dx F' H' T', Step F H T F' H' T' → St' G F' H' σ' S' T' → ExcR G x cls dx H' → W cls dx σ' H'
def KS (G : Cfgx) (F H : Hp) (T : Cnt) (D : Ends) (f : Fl) (S' : List Slot) : Prop := match f with
  | .nx => ∀ σ' F' H' T', Step F H T F' H' T' → St' G F' H' σ' S' T' → D.nx σ' H'
  | .bk => ∀ σ' F' H' T', Step F H T F' H' T' → St' G F' H' σ' S' T' → D.bk σ' H'
  | .ct => ∀ σ' F' H' T', Step F H T F' H' T' → St' G F' H' σ' S' T' → D.ct σ' H'
  | .rt r => ∀ v σ' F' H' T' f, Step F H T F' H' (add T' f) → St' G F' H' σ' S' T' → Own G F' H' r.1 v r.2 f → (∀ a, T' a + f a ≤ 1) → (∀ a, F' a ≠ none → f a = 0) → D.rt v H'
def PRs {α : Type} (G : Cfgx) (W : WX) (F H : Hp) (T : Cnt) (K : α → List Slot → Prop) : R α → Prop
  | .ok a S => K a S
  | .exc x S => PXs G W F H T x S
  | .bad => False
section
variable {G : Cfgx} {W : WX} {F H F1 H1 : Hp} {σ : L2.St} {T T1 : Cnt} {α β : Type}
theorem PXs.re {x : Xc} {S : List Slot} (s : Step F H T F1 H1 T1) (h : PXs G W F H T x S) : PXs G W F1 H1 T1 x S := fun σ' cls dx F' H' T' s' st e => h σ' cls dx F' H' T' (s.trans s') st e
theorem KS.re {D : Ends} {f : Fl} {S : List Slot} (s : Step F H T F1 H1 T1) (h : KS G F H T D f S) : KS G F1 H1 T1 D f S := by
  cases f with
  | nx => exact fun σ' F' H' T' s' st => (show ∀ σ' F' H' T', Step F H T F' H' T' → St' G F' H' σ' S T' → D.nx σ' H' from h) σ' F' H' T' (s.trans s') st
  | bk => exact fun σ' F' H' T' s' st => (show ∀ σ' F' H' T', Step F H T F' H' T' → St' G F' H' σ' S T' → D.bk σ' H' from h) σ' F' H' T' (s.trans s') st
  | ct => exact fun σ' F' H' T' s' st => (show ∀ σ' F' H' T', Step F H T F' H' T' → St' G F' H' σ' S T' → D.ct σ' H' from h) σ' F' H' T' (s.trans s') st
  | rt r => exact fun v σ' F' H' T' f s' st => (show ∀ v σ' F' H' T' f, Step F H T F' H' (add T' f) → St' G F' H' σ' S T' → Own G F' H' r.1 v r.2 f → (∀ a, T' a + f a ≤ 1) → (∀ a, F' a ≠ none → f a = 0) → D.rt v H' from h) v σ' F' H' T' f (s.trans s') st
theorem PRs.bind {K1 : α → List Slot → Prop} {K2 : β → List Slot → Prop} {r : R α} {f : α → M β} (h : PRs G W F H T K2 (r.bind f)) (k : ∀ a S, PRs G W F H T K2 (f a S) → K1 a S) : PR G W F H σ T K1 r := by
  cases r with
  | ok a S => exact k a S h
  | exc x S => exact fun cls dx F' H' T' s st e => (show PXs G W F H T x S from h) σ cls dx F' H' T' s st e
  | bad => exact h
theorem PRs.binds {K1 : α → List Slot → Prop} {K2 : β → List Slot → Prop} {r : R α} {f : α → M β} (h : PRs G W F H T K2 (r.bind f)) (k : ∀ a S, PRs G W F H T K2 (f a S) → K1 a S) : PRs G W F H T K1 r := by
  cases r with
  | ok a S => exact k a S h
  | exc x S => exact h
  | bad => exact h
theorem PRs.re {K1 K2 : α → List Slot → Prop} {r : R α} (s : Step F H T F1 H1 T1) (k : ∀ a S, K1 a S → K2 a S) (h : PRs G W F H T K1 r) : PRs G W F1 H1 T1 K2 r := by
  cases r with
  | ok a S => exact k a S h
  | exc x S => exact PXs.re s h
  | bad => exact h
theorem PRs.reS {D : Ends} {r : R Fl} (s : Step F H T F1 H1 T1) (h : PRs G W F H T (KS G F H T D) r) : PRs G W F1 H1 T1 (KS G F1 H1 T1 D) r := PRs.re s (fun _ _ => KS.re s) h
end
def DenS (G : Cfgx) (W : WX) (t : TS) (m : St) : Prop := ∀ F H σ S T D, St' G F H σ S T → PRs G W F H T (KS G F H T D) (m S) → t D σ H
def TrS (X : Cx) (G : Cfgx) (W : WX) (s : Stmt) (m : St) : Prop := ∃ t, L2.PS X s t ∧ DenS G W t m
def TrSs (X : Cx) (G : Cfgx) (W : WX) (s : List Stmt) (m : St) : Prop := ∃ t, PSs X s t ∧ DenS G W t m
/-- the slot i filled anew -/
theorem St'.set {G : Cfgx} {F H : Hp} {σ : L2.St} {S : List Slot} {T f : Cnt} {i : Nat} {k : Kd} {v : V} {d : D} (st : St' G F H σ S T) (hi : i < S.length) (hp : i ∉ G.pk) (o : Own G F H k v d f) (le : ∀ a, T a + f a ≤ 1) (di : ∀ a, F a ≠ none → f a = 0) :
    ∃ T', St' G F H (σ.set i (some v)) (S.set i (some (k, d))) T' ∧ ∀ a, T' a ≤ T a + f a := by
  obtain ⟨v0, f0, T0, ht, hv, ho, back⟩ := st.sl.at (List.getElem?_eq_getElem hi)
  refine ⟨add f T0, ⟨fun j hj => by rw [List.getElem?_set_ne (fun e => hp (by rw [e]; exact hj))]; exact st.pi j hj, st.sub, back F H (some v) (some (k, d)) f (Same.refl F) (fun _ _ _ h => h) (.yes o), fun a => ?_, fun a n => ?_⟩, fun a => ?_⟩
  · have := ht a; have := le a; simp only [add]; omega
  · have := ht a; have := di a n; have := st.di a n; simp only [add]; omega
  · have := ht a; simp only [add]; omega
/-- the slot i emptied -/
theorem St'.drop {G : Cfgx} {F H : Hp} {σ : L2.St} {S : List Slot} {T : Cnt} {i : Nat} (st : St' G F H σ S T) (hp : i ∉ G.pk) (v : Option V) : ∃ T', St' G F H (σ.set i v) (S.set i none) T' ∧ ∀ a, T' a ≤ T a := by
  by_cases hi : i < S.length
  · obtain ⟨v0, f0, T0, ht, hv, ho, back⟩ := st.sl.at (List.getElem?_eq_getElem hi)
    refine ⟨add nil0 T0, ⟨fun j hj => by rw [List.getElem?_set_ne (fun e => hp (by rw [e]; exact hj))]; exact st.pi j hj, st.sub, back F H v none nil0 (Same.refl F) (fun _ _ _ h => h) (.no v), fun a => ?_, fun a n => ?_⟩, fun a => ?_⟩
    · have := ht a; have := st.le a; simp only [add, nil0]; omega
    · have := ht a; have := st.di a n; simp only [add, nil0]; omega
    · have := ht a; simp only [add, nil0]; omega
  · have hs : σ.length ≤ i := by rw [st.sl.len]; omega
    rw [List.set_eq_of_length_le hs, List.set_eq_of_length_le (by omega)]
    exact ⟨T, st, fun a => Nat.le_refl _⟩
section
variable {X : Cx} {G : Cfgx} {W : WX} {k : Nat}
theorem ts_nil : TrSs X G W [] sNx := ⟨_, pss_nil, fun F H σ S T D st p => (show KS G F H T D .nx S from p) σ F H T (Step.refl F H T) st⟩
theorem ts_one {s : Stmt} {m : St} (h : TrS X G W s m) : TrSs X G W [s] m := by
  obtain ⟨t, p, d⟩ := h
  exact ⟨t, pss_one p, d⟩
theorem ts_cons {s : Stmt} {r : List Stmt} {m n : St} (h : TrS X G W s m) (g : TrSs X G W r n) : TrSs X G W (s :: r) (sSeq m n) := by
  obtain ⟨t, p, d⟩ := h
  obtain ⟨u, q, e⟩ := g
  refine ⟨_, pss_cons p q, fun F H σ S T D st z => ?_⟩
  refine d F H σ S T { D with nx := u D } st (PRs.binds z fun f S1 y => ?_)
  cases f with
  | nx => exact fun σ' F' H' T' s' st' => e F' H' σ' S1 T' D st' (PRs.reS s' y)
  | bk => exact y
  | ct => exact y
  | rt r => exact y
theorem pin_ok {i : Nat} (h : G.pk.contains i = false) : i ∉ G.pk := fun z => by rw [List.contains_iff_mem.mpr z] at h; cases h
theorem tr_set (i : Nat) {x : PySem.Str} {e : Expr} {m : E} {p pos : Pos} (C : Cok X G W k) (h : TrE X G W e m) (hp : G.pk.contains i = false := by rfl) (hi : X.N[i]? = some x := by rfl) (hx : Loc X.env.scope x := by first | exact Or.inl rfl | exact Or.inr rfl) (hs : swapsWith e (some (.Name x p)) pos.line X.env = pure false := by rfl)
    (hf : X.fn x = true ∨ X.env.scope.names.lookup x = some .local := by first | exact .inl rfl | exact .inr rfl) : TrS X G W (.Assign [.Name x p] e pos) (sSet i m) := by
  obtain ⟨t, q, d⟩ := h
  refine ⟨_, ps_set C.nd hi hx q hs hf, fun F H σ S T D st z => d F H σ S T _ st (PRs.bind z fun kd S1 y => ?_)⟩
  obtain ⟨kk, dd⟩ := kd
  intro v F' H' T' f s' st' o le di
  show D.nx (σ.set i (some v)) H'
  by_cases hl : i < S1.length
  · have y : PRs G W F H T (KS G F H T D) (if i < S1.length then .ok .nx (S1.set i (some (kk, dd))) else .bad) := y
    rw [if_pos hl] at y
    obtain ⟨T2, st2, l2⟩ := st'.set hl (pin_ok hp) o le di
    exact (show KS G F H T D .nx _ from y) _ F' H' T2 (s'.less l2) st2
  · have y : PRs G W F H T (KS G F H T D) (if i < S1.length then .ok .nx (S1.set i (some (kk, dd))) else .bad) := y
    rw [if_neg hl] at y
    exact y.elim
theorem tr_drop {e : Expr} {m : E} {pos : Pos} (h : TrE X G W e m) (hs : swapsWith e none pos.line X.env = pure false := by rfl) : TrS X G W (.Expr e pos) (sDrop m) := by
  obtain ⟨t, q, d⟩ := h
  refine ⟨_, ps_expr q hs, fun F H σ S T D st z => d F H σ S T _ st (PRs.bind z fun kd S1 y => ?_)⟩
  intro v F' H' T' f s' st' o le di
  exact (show KS G F H T D .nx S1 from y) σ F' H' T' (s'.less fun a => by simp only [add]; omega) st'
theorem tr_ret {e : Expr} {m : E} {pos : Pos} (h : TrE X G W e m) : TrS X G W (.Return (some e) pos) (sRet m) := by
  obtain ⟨t, q, d⟩ := h
  refine ⟨_, ps_ret q, fun F H σ S T D st z => d F H σ S T _ st (PRs.bind z fun kd S1 y => ?_)⟩
  intro v F' H' T' f s' st' o le di
  exact (show KS G F H T D (.rt kd) S1 from y) v σ F' H' T' f s' st' o le di
theorem tr_retN {pos : Pos} : TrS X G W (.Return none pos) sRetN := ⟨_, ps_retN, fun F H σ S T D st z => (show KS G F H T D (.rt (.fz, .non)) S from z) .non σ F H T nil0 ((Step.refl F H T).castR fun a => rfl) st (.fz .non) (fun a => st.le a) fun _ _ => rfl⟩
theorem tr_pass {pos : Pos} : TrS X G W (.Pass pos) sNx := ⟨_, ps_pass, fun F H σ S T D st p => (show KS G F H T D .nx S from p) σ F H T (Step.refl F H T) st⟩
theorem tr_ifS {c : Expr} {a b : List Stmt} {mc : T} {ma mb : St} {pos : Pos} (hc : TrT X G W c mc) (ha : TrSs X G W a ma) (hb : TrSs X G W b mb) : TrS X G W (.If c a b pos) (sIf mc ma mb) := by
  obtain ⟨t, p, d⟩ := hc
  obtain ⟨u, q, e⟩ := ha
  obtain ⟨w, r, g⟩ := hb
  refine ⟨_, ps_if p q r, fun F H σ S T D st z => d F H σ S T _ st (PRs.bind z fun x S1 y => ?_)⟩
  intro F1 H1 T1 s1 st1
  cases x with
  | true => exact e F1 H1 σ S1 T1 D st1 (PRs.reS s1 y)
  | false => exact g F1 H1 σ S1 T1 D st1 (PRs.reS s1 y)
theorem tr_while (n : Nat) {c : Expr} {b : List Stmt} {mc : T} {mb : St} {pos : Pos} (C : Cok X G W k) (hc : TrT X G W c mc) (hb : TrSs X G W b mb) : TrS X G W (.While c b [] pos) (sWhile n mc mb) := by
  obtain ⟨t, p, d⟩ := hc
  obtain ⟨u, q, e⟩ := hb
  refine ⟨_, ps_while C.po p q, fun F H σ S T D st z => ?_⟩
  refine ⟨fun m σ1 H1 => ∃ F1 S1 T1, St' G F1 H1 σ1 S1 T1 ∧ PRs G W F1 H1 T1 (KS G F1 H1 T1 D) (sWhile m mc mb S1), ⟨n, F, S, T, st, z⟩, ?_⟩
  rintro m σ1 H1 ⟨F1, S1, T1, st1, z1⟩
  cases m with
  | zero => exact z1.elim
  | succ m =>
    have z1 : PRs G W F1 H1 T1 (KS G F1 H1 T1 D) ((mc S1).bind fun x => if x then M.bind mb (fun f => match f with | .nx => sWhile m mc mb | .ct => sWhile m mc mb | .bk => M.pure .nx | .rt r => M.pure (.rt r)) else M.pure .nx) := z1
    refine d F1 H1 σ1 S1 T1 _ st1 (PRs.bind z1 fun x S2 y => ?_)
    intro F2 H2 T2 s2 st2
    cases x with
    | false => exact (show KS G F1 H1 T1 D .nx S2 from y) σ1 F2 H2 T2 s2 st2
    | true =>
      have y : PRs G W F1 H1 T1 (KS G F1 H1 T1 D) ((mb S2).bind fun f => match f with | .nx => sWhile m mc mb | .ct => sWhile m mc mb | .bk => M.pure .nx | .rt r => M.pure (.rt r)) := y
      have y := PRs.reS s2 y
      refine ⟨fun σ3 H3 => ∃ F3 S3 T3, St' G F3 H3 σ3 S3 T3 ∧ PRs G W F3 H3 T3 (KS G F3 H3 T3 D) (sWhile m mc mb S3), fun σ' H' w => ⟨m, Nat.lt_succ_self m, w⟩, ?_⟩
      refine e F2 H2 σ1 S2 T2 _ st2 (PRs.binds y fun f S3 z3 => ?_)
      cases f with
      | nx => exact fun σ' F' H' T' s' st' => ⟨F', S3, T', st', PRs.reS s' z3⟩
      | ct => exact fun σ' F' H' T' s' st' => ⟨F', S3, T', st', PRs.reS s' z3⟩
      | bk => exact fun σ' F' H' T' s' st' => (show KS G F2 H2 T2 D .nx S3 from z3) σ' F' H' T' s' st'
      | rt r => exact (show KS G F2 H2 T2 D (.rt r) S3 from z3)
/-! ### what is walked -/
/-- an item, in a heap that may have got a tuple more -/
def YD (G : Cfgx) (F H : Hp) (x : V) (H' : Hp) (d : D) : Prop := (H' = H ∧ Rep G F x d) ∨ ∃ p vs ds, x = .ref p ∧ H p = none ∧ H' = upd H p (.tup vs) ∧ d = .tup ds ∧ Reps G F vs ds
def WalkD (G : Cfgx) (F : Hp) (J : L2.It) (ds : List D) : Prop := ∃ Y, L2.Walk J ds.length (fun H => Same F H) Y ∧ ∀ i H x H' d, ds[i]? = some d → Y i H x H' → YD G F H x H' d
def KI (G : Cfgx) (F H : Hp) (σ : L2.St) (T : Cnt) (R : L2.It → Hp → Prop) (ds : List D) (S' : List Slot) : Prop :=
  ∀ J F' H' T', Step F H T F' H' T' → St' G F' H' σ S' T' → WalkD G F' J ds → R J H'
def DenI (G : Cfgx) (W : WX) (wi : TI) (m : It) : Prop := ∀ F H σ S T R, St' G F H σ S T → PR G W F H σ T (KI G F H σ T R) (m S) → wi σ H R
def TrI (X : Cx) (G : Cfgx) (W : WX) (tg e : Expr) (m : It) : Prop := ∃ wi, PI X tg e wi ∧ DenI G W wi m
/-! targets -/
def DenG (G : Cfgx) (g : TG) (tg : Tg) : Prop := ∀ F H σ S T v d S' (Q : L2.St → Hp → Prop), St' G F H σ S T → Rep G F v d → tg.put d S = some S' → (∀ σ' T', St' G F H σ' S' T' → (∀ a, T' a ≤ T a) → (∀ j, j ∉ tg.sl → σ'[j]? = σ[j]?) → Q σ' H) → g v σ H Q
def DenGs (G : Cfgx) (g : TGs) (tg : List Tg) : Prop := ∀ F H σ S T vs ds S' (Q : L2.St → Hp → Prop), St' G F H σ S T → Reps G F vs ds → Tg.puts tg ds S = some S' → (∀ σ' T', St' G F H σ' S' T' → (∀ a, T' a ≤ T a) → (∀ j, j ∉ Tg.sls tg → σ'[j]? = σ[j]?) → Q σ' H) → g vs σ H Q
def TrG (X : Cx) (G : Cfgx) (e : Expr) (tg : Tg) : Prop := ∃ g, PG X e g ∧ DenG G g tg
def TrGs (X : Cx) (G : Cfgx) (es : List Expr) (tg : List Tg) : Prop := ∃ g, PGs X es g ∧ DenGs G g tg
theorem tg_nm (i : Nat) {x : PySem.Str} {pos : Pos} (nd : X.N.Nodup) (hp : G.pk.contains i = false := by rfl) (hi : X.N[i]? = some x := by rfl) (hx : Loc X.env.scope x := by first | exact Or.inl rfl | exact Or.inr rfl) (hf : X.fn x = true ∨ X.env.scope.names.lookup x = some .local := by first | exact .inl rfl | exact .inr rfl) : TrG X G (.Name x pos) (.nm i) := by
  refine ⟨_, pg_name nd hi hx hf, fun F H σ S T v d S' Q st r e k => ?_⟩
  unfold Tg.put at e
  by_cases hl : i < S.length
  · rw [if_pos hl] at e
    cases e
    obtain ⟨T2, st2, l2⟩ := st.set hl (pin_ok hp) (.fz r) (fun a => by simp only [nil0]; exact st.le a) fun _ _ => rfl
    exact k _ T2 st2 (fun a => by have := l2 a; simp only [nil0] at this; omega) fun j hj => List.getElem?_set_ne fun e => hj (by simp [Tg.sl, e])
  · rw [if_neg hl] at e; cases e
theorem tg_nil : TrGs X G [] [] := ⟨_, pgs_nil, fun F H σ S T vs ds S' Q st r e k => by
  cases r with
  | nil => unfold Tg.puts at e; cases e; exact ⟨rfl, k σ T st (fun a => Nat.le_refl _) fun _ _ => rfl⟩
  | cons a b => unfold Tg.puts at e; cases e⟩
theorem tg_cons {e : Expr} {es : List Expr} {t : Tg} {ts : List Tg} (h : TrG X G e t) (hs : TrGs X G es ts) (ha : (assignEach (e :: es) X.env).map (·.2) = assign e X.env :: (assignEach es X.env).map (·.2) := by rfl) : TrGs X G (e :: es) (t :: ts) := by
  obtain ⟨g, p, d⟩ := h
  obtain ⟨g2, p2, d2⟩ := hs
  refine ⟨_, pgs_cons p p2 ha, fun F H σ S T vs ds S' Q st r e k => ?_⟩
  cases r with
  | nil => unfold Tg.puts at e; cases e
  | @cons v dd vs ds r1 r2 =>
    unfold Tg.puts at e
    cases e1 : Tg.put t dd S with
    | none => rw [e1] at e; cases e
    | some S1 =>
      rw [e1] at e
      exact ⟨v, vs, rfl, d F H σ S T v dd S1 _ st r1 e1 fun σ1 T1 st1 l1 a1 => d2 F H σ1 S1 T1 vs ds S' Q st1 r2 e fun σ2 T2 st2 l2 a2 => k σ2 T2 st2 (fun a => Nat.le_trans (l2 a) (l1 a)) fun j hj => by
        unfold Tg.sls at hj
        exact (a2 j fun z => hj (List.mem_append_right _ z)).trans (a1 j fun z => hj (List.mem_append_left _ z))⟩
theorem tg_tup {es : List Expr} {kk : Nat} {ts : List Tg} {n : Nat} {pos : Pos} (C : Cok X G W k) (h : TrGs X G es ts) (hl : ts.length = n := by rfl) (hn : (assignEach es X.env).length = n := by rfl) (hst : (assignEach es X.env).findIdx? (·.1) = none := by rfl) : TrG X G (.Tuple es kk pos) (.tp ts) := by
  obtain ⟨g, p, d⟩ := h
  refine ⟨_, pg_tup C.calm p hn hst, fun F H σ S T v dd S' Q st r e k => ?_⟩
  cases r with
  | tup hs rs =>
    unfold Tg.put at e
    refine ⟨_, _, rfl, C.hK ▸ same_t st.sub hs, ?_, d F H σ S T _ _ S' Q st rs e (fun σ' T' st' l a => k σ' T' st' l fun j hj => a j (by unfold Tg.sl at hj; exact hj))⟩
    have : ∀ (ts : List Tg) (ds : List D) (S S' : List Slot), Tg.puts ts ds S = some S' → ds.length = ts.length := by
      intro ts
      induction ts with
      | nil => intro ds S S' e; cases ds with
        | nil => rfl
        | cons a b => unfold Tg.puts at e; cases e
      | cons t ts ih => intro ds S S' e; cases ds with
        | nil => unfold Tg.puts at e; cases e
        | cons a b =>
          unfold Tg.puts at e
          cases e1 : Tg.put t a S with
          | none => rw [e1] at e; cases e
          | some S1 => rw [e1] at e; simp [ih _ _ _ e]
    rw [rs.len, this _ _ _ _ e, hl]
  | _ => unfold Tg.put at e; cases e
theorem den_loop {wi : TI} {it : It} {g : TG} {tg : Tg} {tb : TS} {mb : St} (hi : DenI G W wi it) (hg : DenG G g tg) (hb : DenS G W tb mb) : DenS G W (tFor wi g tb) (sFor it tg mb) := fun F H σ S T D st z => by
  refine hi F H σ S T _ st (PRs.bind z fun ds S1 y => ?_)
  intro J F1 H1 T1 s1 st1 ⟨Y, w, hY⟩
  refine L2.for_it w (fun i σ' H' => ∃ F' S' T', St' G F' H' σ' S' T' ∧ Same F1 F' ∧ PRs G W F' H' T' (KS G F' H' T' D) (loop tg mb (ds.drop i) S')) ⟨F1, S1, T1, st1, Same.refl F1, PRs.reS s1 y⟩ (fun i σ' H' _ ⟨F', S', T', st', sf, _⟩ => sf.trans st'.sub) ?_ ?_
  · rintro i x σ2 H2 H3 hi ⟨F2, S2, T2, st2, sf2, p⟩ hy
    have hd : ds[i]? = some ds[i] := List.getElem?_eq_getElem hi
    have yd := hY i H2 x H3 ds[i] hd hy
    rw [List.drop_eq_getElem_cons hi] at p
    unfold loop at p
    cases e : tg.put ds[i] S2 with
    | none => rw [e] at p; exact p.elim
    | some S3 =>
      rw [e] at p
      have p : PRs G W F2 H2 T2 (KS G F2 H2 T2 D) ((mb S3).bind fun f => match f with | .nx => loop tg mb (ds.drop (i + 1)) | .ct => loop tg mb (ds.drop (i + 1)) | .bk => M.pure .nx | .rt r => M.pure (.rt r)) := p
      have turn : ∀ F3 H3 T3, Step F2 H2 T2 F3 H3 T3 → St' G F3 H3 σ2 S2 T3 → Rep G F3 x ds[i] → g x σ2 H3 fun σ4 H4 => tb { D with nx := fun σ' H' => ∃ F' S' T', St' G F' H' σ' S' T' ∧ Same F1 F' ∧ PRs G W F' H' T' (KS G F' H' T' D) (loop tg mb (ds.drop (i + 1)) S'), ct := fun σ' H' => ∃ F' S' T', St' G F' H' σ' S' T' ∧ Same F1 F' ∧ PRs G W F' H' T' (KS G F' H' T' D) (loop tg mb (ds.drop (i + 1)) S'), bk := D.nx } σ4 H4 := by
        intro F3 H3 T3 s3 st3 r3
        refine hg F3 H3 σ2 S2 T3 x ds[i] S3 _ st3 r3 e fun σ4 T4 st4 l4 _ => ?_
        have s4 : Step F2 H2 T2 F3 H3 T4 := s3.less l4
        refine hb F3 H3 σ4 S3 T4 _ st4 (PRs.binds (PRs.reS s4 p) fun f S5 q => ?_)
        cases f with
        | nx => exact fun σ' F' H' T' s' st' => ⟨F', S5, T', st', (sf2.trans s4.sF).trans s'.sF, PRs.reS s' q⟩
        | ct => exact fun σ' F' H' T' s' st' => ⟨F', S5, T', st', (sf2.trans s4.sF).trans s'.sF, PRs.reS s' q⟩
        | bk => exact fun σ' F' H' T' s' st' => (show KS G F3 H3 T4 D .nx S5 from q) σ' F' H' T' s' st'
        | rt r => exact (show KS G F3 H3 T4 D (.rt r) S5 from q)
      rcases yd with ⟨e1, r⟩ | ⟨pp, vs, dd, e1, hp, e2, e3, r⟩
      · subst e1
        exact turn F2 H3 T2 (Step.refl _ _ _) st2 (r.mono sf2)
      · subst e1 e2
        obtain ⟨st3, s3⟩ := st2.newF (o := .tup vs) hp
        refine turn _ _ T2 s3 st3 ?_
        rw [e3]
        exact .tup (.inl (.inl upd_same)) ((r.mono sf2).mono s3.sF)
  · rintro σ2 H2 ⟨F2, S2, T2, st2, sf2, p⟩
    rw [List.drop_length] at p
    exact (show KS G F2 H2 T2 D .nx S2 from p) σ2 F2 H2 T2 (Step.refl _ _ _) st2
theorem tr_for {tg iter : Expr} {body : List Stmt} {it : It} {t : Tg} {mb : St} {pos : Pos} (C : Cok X G W k) (hi : TrI X G W tg iter it) (hg : TrG X G tg t) (hb : TrSs X G W body mb) (hs : ∀ x, foldedSetIterable iter X.env x = pure x := by intro _; rfl) : TrS X G W (.For tg iter body [] pos) (sFor it t mb) := by
  obtain ⟨wi, p, d⟩ := hi
  obtain ⟨g, q, e⟩ := hg
  obtain ⟨tb, r, f⟩ := hb
  exact ⟨_, ps_for C.po C.calm p q r hs, den_loop d e f⟩
/-! ### the readings that hang on the mirror alone -/
def tE (G : Cfgx) (W : WX) (m : E) : TE := fun σ H Q => ∃ F S T, St' G F H σ S T ∧ PR G W F H σ T (KE G F H σ T Q) (m S)
def tT (G : Cfgx) (W : WX) (m : T) : TT := fun σ H Q => ∃ F S T, St' G F H σ S T ∧ PR G W F H σ T (KB G F H σ T Q) (m S)
def gG (G : Cfgx) (tg : Tg) : TG := fun v σ H Q => ∃ F S T d S', St' G F H σ S T ∧ Rep G F v d ∧ tg.put d S = some S' ∧ ∀ σ' T', St' G F H σ' S' T' → (∀ a, T' a ≤ T a) → (∀ j, j ∉ tg.sl → σ'[j]? = σ[j]?) → Q σ' H
theorem TrE.can {e : Expr} {m : E} (h : TrE X G W e m) : PE X e (tE G W m) := by
  obtain ⟨t, p, d⟩ := h
  exact ⟨fun pins s σ H Q I ⟨F, S, T, st, q⟩ => p.run pins s σ H Q I (d F H σ S T Q st q)⟩
theorem TrT.can {e : Expr} {m : T} (h : TrT X G W e m) : PT X e (tT G W m) := by
  obtain ⟨t, p, d⟩ := h
  exact ⟨fun pins s σ H Q I ⟨F, S, T, st, q⟩ => p.run pins s σ H Q I (d F H σ S T Q st q)⟩
theorem TrG.can {e : Expr} {tg : Tg} (h : TrG X G e tg) : PG X e (gG G tg) := by
  obtain ⟨g, p, d⟩ := h
  exact ⟨fun pins s σ H v u Q I r ⟨F, S, T, dd, S', st, rr, e, k⟩ => p.run pins s σ H v u Q I r (d F H σ S T v dd S' Q st rr e k)⟩
def TrTs (X : Cx) (G : Cfgx) (W : WX) (ifs : List Expr) (m : T) : Prop := PTs X ifs (tT G W m)
theorem tts_nil : TrTs X G W [] tTrue := ⟨fun pins s σ H Q I ⟨F, S, T, st, q⟩ => pts_nil.run pins s σ H Q I ((show KB G F H σ T Q true S from q) F H T (Step.refl F H T) st)⟩
theorem tts_one {c : Expr} {m : T} (h : TrT X G W c m) : TrTs X G W [c] m := pts_one h.can
theorem tts_and {c d : Expr} {m n : T} (h : TrT X G W c m) (g : TrT X G W d n) : True := trivial
/-! ### comprehensions -/
theorem wipe_get {α : Type} {σ : List (Option α)} : ∀ {w : List Nat → List (Option α)}, True := fun {_} => trivial
theorem wipe_at (σ : L2.St) : ∀ (vs : List Nat) (j : Nat), (L2.wipe σ vs)[j]? = if j ∈ vs ∧ j < σ.length then some none else σ[j]?
  | [], j => by simp [L2.wipe]
  | v :: vs, j => by
    have ih := wipe_at σ vs j
    unfold L2.wipe
    by_cases h : v = j
    · subst h
      by_cases hl : v < σ.length
      · rw [List.getElem?_set_self (by rw [L2.wipe_length]; exact hl), if_pos ⟨List.mem_cons_self, hl⟩]
      · rw [List.getElem?_eq_none (by rw [List.length_set, L2.wipe_length]; omega), if_neg (fun z => hl z.2), List.getElem?_eq_none (by omega)]
    · rw [List.getElem?_set_ne h, ih]
      have e : j ∈ v :: vs ↔ j ∈ vs := by simp [Ne.symm h]
      simp only [e]
theorem wipe_eq {σ σ' : L2.St} {vs : List Nat} (hl : σ'.length = σ.length) (h : ∀ j, j ∉ vs → σ'[j]? = σ[j]?) : L2.wipe σ' vs = L2.wipe σ vs := by
  apply List.ext_getElem?
  intro j
  rw [wipe_at, wipe_at, hl]
  by_cases z : j ∈ vs
  · by_cases y : j < σ.length
    · simp [z, y]
    · rw [if_neg (fun w => y w.2), if_neg (fun w => y w.2), List.getElem?_eq_none (by omega), List.getElem?_eq_none (by omega)]
  · rw [if_neg (fun w => z w.1), if_neg (fun w => z w.1)]; exact h j z
theorem wipe_wipe (σ : L2.St) (vs : List Nat) : L2.wipe (L2.wipe σ vs) vs = L2.wipe σ vs := wipe_eq (L2.wipe_length σ vs) fun j hj => by rw [wipe_at, if_neg fun w => hj w.1]
theorem wipe_slots {F H : Hp} {σ : L2.St} {S : List Slot} {T : Cnt} (st : St' G F H σ S T) : ∀ vs : List Nat, (∀ v, v ∈ vs → v ∉ G.pk) → ∃ T', St' G F H (L2.wipe σ vs) (wipeS S vs) T' ∧ ∀ a, T' a ≤ T a
  | [], _ => ⟨T, st, fun a => Nat.le_refl _⟩
  | v :: vs, h => by
    obtain ⟨T1, st1, l1⟩ := wipe_slots st vs fun x hx => h x (List.mem_cons_of_mem _ hx)
    obtain ⟨T2, st2, l2⟩ := st1.drop (i := v) (h v List.mem_cons_self) none
    exact ⟨T2, st2, fun a => Nat.le_trans (l2 a) (l1 a)⟩
/-- the block's own slots as they were ahead -/
theorem back_slots {F F0 H H0 : Hp} {σ : L2.St} {S0 : List Slot} {T0 : Cnt} (st0 : St' G F0 H0 σ S0 T0) (sF : Same F0 F) : ∀ {vs : List Nat} {S : List Slot} {T : Cnt}, vs.all (fzAt S0) = true → noDup vs = true → St' G F H (L2.wipe σ vs) S T → ∃ T', St' G F H σ (backS S0 S vs) T' ∧ ∀ a, T' a ≤ T a
  | [], S, T, _, _, st => ⟨T, st, fun a => Nat.le_refl _⟩
  | v :: vs, S, T, h, nd, st => by
    obtain ⟨h1, h2⟩ := Bool.and_eq_true_iff.mp (show (fzAt S0 v && vs.all (fzAt S0)) = true from h)
    obtain ⟨n1, n2⟩ := Bool.and_eq_true_iff.mp (show (!vs.contains v && noDup vs) = true from nd)
    have nv : v ∉ vs := by simpa using n1
    have lS : S.length = σ.length := by rw [← st.sl.len, L2.wipe_length]
    have l0 : σ.length = S0.length := st0.sl.len
    cases e : S0[v]? with
    | none => unfold fzAt at h1; rw [e] at h1; cases h1
    | some s0 =>
      have hv : v < S0.length := (List.getElem?_eq_some_iff.mp e).1
      have gd : S0.getD v none = s0 := by rw [List.getD_eq_getElem?_getD, e]; rfl
      obtain ⟨x, f, Tr, ht, hx, ho, back⟩ := st.sl.at (i := v) (List.getElem?_eq_getElem (by omega))
      obtain ⟨x0, f0, Tr0, _, hx0, ho0, _⟩ := st0.sl.at (i := v) e
      have ok : SlotOk G F H x0 s0 nil0 := by
        unfold fzAt at h1
        rw [e] at h1
        cases ho0 with
        | no => exact .no _
        | @yes k1 v1 d1 f1 o =>
          cases k1 with
          | fz => cases o with | fz r => exact .yes (.fz (r.mono sF))
          | _ => cases h1
      have q := back F H x0 s0 nil0 (Same.refl F) (fun _ _ _ h => h) ok
      have e2 : (L2.wipe σ (v :: vs)).set v x0 = L2.wipe σ vs := by
        show ((L2.wipe σ vs).set v none).set v x0 = _
        rw [List.set_set]
        have z : (L2.wipe σ vs)[v]? = some x0 := by rw [wipe_at, if_neg fun w => nv w.1]; exact hx0
        obtain ⟨hi, q1⟩ := List.getElem?_eq_some_iff.mp z
        rw [← q1, List.set_getElem_self]
      rw [e2] at q
      have st2 : St' G F H (L2.wipe σ vs) (S.set v s0) (add nil0 Tr) := ⟨fun j hj => by
        have z := st.pi j hj
        rw [wipe_at] at z ⊢
        by_cases y : j ∈ vs ∧ j < σ.length
        · rw [if_pos ⟨List.mem_cons_of_mem _ y.1, y.2⟩] at z
          rw [if_pos y]; exact z
        · rw [if_neg y]; exact st0.pi j hj, st.sub, q, fun a => by have := ht a; have := st.le a; simp only [add, nil0]; omega, fun a n => by have := ht a; have := st.di a n; simp only [add, nil0]; omega⟩
      obtain ⟨T', st3, l3⟩ := back_slots st0 sF h2 n2 st2
      refine ⟨T', ?_, fun a => by have := l3 a; have := ht a; simp only [add, nil0] at *; omega⟩
      show St' G F H σ (backS S0 (S.set v (S0.getD v none)) vs) T'
      rw [gd]
      exact st3
abbrev W0 : WX := fun _ _ _ _ => False
theorem den_lc {wi : TI} {it : It} {tg : Tg} {vs : List Nat} {c : T} {e : E} (hpn : ∀ v, v ∈ vs → v ∉ G.pk) (hi : DenI G W wi it) : DenE G W (tLc wi (gG G tg) (tT G W0 c) (tE G W0 e) vs) (eLc it tg vs c e) := fun F H σ S T Q st z => by
  refine hi F H σ S T _ st (PR.bind z fun ds S0 y => ?_)
  intro J F1 H1 T1 s1 st1 ⟨Y, w, hY⟩ L hL
  by_cases hc : (vs.all (fzAt S0) && noDup vs && tg.sl.all vs.contains) = true
  case neg => rw [if_neg hc] at y; exact y.elim
  rw [if_pos hc] at y
  obtain ⟨hc1, hc3⟩ := Bool.and_eq_true_iff.mp hc
  obtain ⟨hc1, hc2⟩ := Bool.and_eq_true_iff.mp hc1
  have tgv : ∀ j, j ∈ tg.sl → j ∈ vs := fun j hj => by simpa using List.all_eq_true.mp hc3 j hj
  -- what the loop is to reach
  let Fin : R (List D) → Prop := fun r => match r with
    | .ok acc S' => KE G F H σ T Q (.li .fz, .lst acc) (backS S0 S' vs)
    | _ => False
  have y : Fin (cLoop tg vs c e ds [] (wipeS S0 vs)) := by
    cases q : cLoop tg vs c e ds [] (wipeS S0 vs) with
    | ok acc S' => rw [q] at y; exact y
    | exc x S' => rw [q] at y; exact y
    | bad => rw [q] at y; exact y
  obtain ⟨stN, sN, leN, fN⟩ := st1.newT (o := .lst []) hL
  obtain ⟨Tw, stw, lw⟩ := wipe_slots stN vs hpn
  have sB : Step F H T F1 (upd H1 L (.lst [])) (add Tw (one L)) := (s1.trans sN).less fun a => by have := lw a; simp only [add]; omega
  have tL : T1 L = 0 := by have := leN L; simp only [one, if_pos] at this; omega
  let Inv (i : Nat) (H' : Hp) : Prop := ∃ F' S' T' av acc, St' G F' H' (L2.wipe σ vs) S' T' ∧ Step F H T F' H' (add T' (one L)) ∧ Same F1 F' ∧ H' L = some (.lst av) ∧ Reps G F' av acc ∧ T' L = 0 ∧ F' L = none ∧ Fin (cLoop tg vs c e (ds.drop i) acc S')
  refine L2.lc_it w Inv ⟨F1, wipeS S0 vs, Tw, [], [], stw, sB, Same.refl F1, upd_same, .nil, by have := lw L; omega, fN, y⟩ (fun i H' _ ⟨F', S', T', av, acc, st', _, sf, _⟩ => sf.trans st'.sub) ?_ ?_
  · rintro i x H2 H3 hi' ⟨F2, S2, T2, av, acc, st2, s2, sf2, hl2, ra2, t2, f2, p⟩ hy
    have yd := hY i H2 x H3 ds[i] (List.getElem?_eq_getElem hi') hy
    rw [List.drop_eq_getElem_cons hi'] at p
    unfold cLoop at p
    cases ep : tg.put ds[i] S2 with
    | none => rw [ep] at p; exact p.elim
    | some S3 =>
      rw [ep] at p
      have p : Fin ((c S3).bind fun b => if b then M.bind (eDat e) fun y S => if acc.length < sizeMax then cLoop tg vs c e (ds.drop (i + 1)) (acc ++ [y]) (wipeS S vs) else .bad else fun S => cLoop tg vs c e (ds.drop (i + 1)) acc (wipeS S vs)) := p
      have turn : ∀ F3 H3, Step F H T F3 H3 (add T2 (one L)) → St' G F3 H3 (L2.wipe σ vs) S2 T2 → Same F1 F3 → H3 L = some (.lst av) → Reps G F3 av acc → F3 L = none → Rep G F3 x ds[i] →
          gG G tg x (L2.wipe σ vs) H3 fun σ2 H2 => L2.wipe σ2 vs = L2.wipe σ vs ∧ tT G W0 c σ2 H2 fun b H3 => if b = true then tE G W0 e σ2 H3 fun y H4 => ∃ acc, H4 L = some (.lst acc) ∧ acc.length < sizeLine ∧ Inv (i + 1) (upd H4 L (.lst (acc ++ [y]))) else Inv (i + 1) H3 := by
        intro F3 H3 s3 st3 sf3 hl3 ra3 f3 r3
        refine ⟨F3, S2, T2, ds[i], S3, st3, r3, ep, fun σ4 T4 st4 l4 a4 => ?_⟩
        have lens : σ4.length = σ.length := by
          have a := st4.sl.len
          have : ∀ (t : Tg) (d : D) (S S' : List Slot), t.put d S = some S' → S'.length = S.length := by
            intro t
            apply Tg.rec (motive_1 := fun t => ∀ (d : D) (S S' : List Slot), t.put d S = some S' → S'.length = S.length) (motive_2 := fun ts => ∀ (d : List D) (S S' : List Slot), Tg.puts ts d S = some S' → S'.length = S.length)
            · intro i d S S' h
              unfold Tg.put at h
              split at h
              · cases h; simp
              · cases h
            · intro is ih d S S' h
              unfold Tg.put at h
              split at h
              · exact ih _ _ _ h
              · cases h
            · intro d S S' h
              cases d with
              | nil => unfold Tg.puts at h; cases h; rfl
              | cons a b => unfold Tg.puts at h; cases h
            · intro t ts i1 i2 d S S' h
              cases d with
              | nil => unfold Tg.puts at h; cases h
              | cons a b =>
                unfold Tg.puts at h
                cases q : Tg.put t a S with
                | none => rw [q] at h; cases h
                | some S1 => rw [q] at h; exact (i2 _ _ _ h).trans (i1 _ _ _ q)
          have b := this tg ds[i] _ _ ep
          have c := st3.sl.len
          rw [L2.wipe_length] at c
          omega
        refine ⟨(wipe_eq (σ := L2.wipe σ vs) (by rw [L2.wipe_length]; exact lens) fun j hj => a4 j fun z => hj (tgv j z)).trans (wipe_wipe σ vs), ?_⟩
        have hTz : ∀ a, T4 a ≤ T2 a := l4
        have s4 : Step F H T F3 H3 (add T4 (one L)) := s3.less fun a => by have := hTz a; simp only [add]; omega
        have fr : ∀ {F5 H5 : Hp} {T5 : Cnt}, Step F3 H3 T4 F5 H5 T5 → Step F H T F5 H5 (add T5 (one L)) ∧ T5 L = 0 ∧ H5 L = some (.lst av) ∧ F5 L = none := by
          intro F5 H5 T5 s5
          have tl : ∀ a, T4 a + one L a ≤ 1 := fun a => by
            unfold one
            split
            · rename_i q; have := hTz a; rw [q] at this ⊢; omega
            · have := st4.le a; omega
          have oh : ∀ a, one L a ≠ 0 → H3 a ≠ none := fun a n => by
            unfold one at n
            split at n
            · rename_i q; rw [q, hl3]; simp
            · exact absurd rfl n
          obtain ⟨b1, b2, b3⟩ := s5.frame tl oh
          have oL : one L L ≠ 0 := by simp [one]
          refine ⟨s4.trans b1, b2 L oL, b3 L _ oL hl3, ?_⟩
          cases q : F5 L with
          | none => rfl
          | some o =>
            rcases s5.nF L f3 (by rw [q]; simp) with z | z | z
            · rw [hl3] at z; cases z
            · have := hTz L; omega
            · rw [hl3] at z; rcases z with ⟨_, z⟩ | ⟨_, _, z⟩ <;> cases z
        refine ⟨F3, S3, T4, st4, ?_⟩
        cases ec : c S3 with
        | bad => rw [ec] at p; exact p.elim
        | exc x S5 => rw [ec] at p; exact p.elim
        | ok b S5 =>
          rw [ec] at p
          intro F5 H5 T5 s5 st5
          obtain ⟨g1, g2, g3, g4⟩ := fr s5
          have wback : ∀ {F6 H6 T6 S6}, St' G F6 H6 σ4 S6 T6 → ∃ T7, St' G F6 H6 (L2.wipe σ vs) (wipeS S6 vs) T7 ∧ ∀ a, T7 a ≤ T6 a := fun {F6 H6 T6 S6} st6 => by
            obtain ⟨T7, st7, l7⟩ := wipe_slots st6 vs hpn
            have ew : L2.wipe σ4 vs = L2.wipe σ vs := (wipe_eq (σ := L2.wipe σ vs) (by rw [L2.wipe_length]; exact lens) fun j hj => a4 j fun z => hj (tgv j z)).trans (wipe_wipe σ vs)
            rw [ew] at st7
            exact ⟨T7, st7, l7⟩
          cases b with
          | false =>
            obtain ⟨T7, st7, l7⟩ := wback st5
            exact ⟨F5, wipeS S5 vs, T7, av, acc, st7, g1.less fun a => by have := l7 a; simp only [add]; omega, sf3.trans s5.sF, g3, ra3.mono s5.sF, by have := l7 L; omega, g4, p⟩
          | true =>
            have p : Fin ((eDat e S5).bind fun y S => if acc.length < sizeMax then cLoop tg vs c e (ds.drop (i + 1)) (acc ++ [y]) (wipeS S vs) else .bad) := p
            refine ⟨F5, S5, T5, st5, ?_⟩
            cases ee : e S5 with
            | bad => unfold eDat M.bind at p; rw [ee] at p; exact p.elim
            | exc x S6 => unfold eDat M.bind at p; rw [ee] at p; exact p.elim
            | ok kd S6 =>
              obtain ⟨kk, dd⟩ := kd
              unfold eDat M.bind at p
              rw [ee] at p
              have p : Fin (if acc.length < sizeMax then cLoop tg vs c e (ds.drop (i + 1)) (acc ++ [dd]) (wipeS S6 vs) else .bad) := p
              by_cases hz : acc.length < sizeMax
              · rw [if_pos hz] at p
                intro v F6' H6 T6 f6 s6' st6' o6 le6 di6
                obtain ⟨F6, s6, st6, r6, _⟩ := freeze_core s6' st6' o6 le6 di6
                obtain ⟨k1, k2, k3, k4⟩ := fr (s5.trans s6)
                obtain ⟨T7, st7, l7⟩ := wback st6
                have ra6 : Reps G F6 av acc := (ra3.mono s5.sF).mono s6.sF
                have t7 : T7 L = 0 := by have := l7 L; omega
                refine ⟨av, k3, by rw [ra6.len]; exact hz, F6, wipeS S6 vs, T7, av ++ [v], acc ++ [dd], ⟨st7.pi, fun a u ea => ?_, st7.sl.mono (Same.refl F6) fun a u n ea => ?_, st7.le, st7.di⟩, ?_, (sf3.trans s5.sF).trans s6.sF, upd_same, ?_, t7, k4, p⟩
                · rw [upd_ne (fun q => by rw [q, k4] at ea; cases ea)]; exact st7.sub _ _ ea
                · rw [upd_ne (fun q => n (by rw [q]; exact t7))]; exact ea
                · refine (k1.less (T2 := add T7 (one L)) fun a => by have := l7 a; simp only [add]; omega).trans (Step.put ?_)
                  simp [add, one]
                · clear p
                  have : ∀ {xs : List V} {ys : List D}, Reps G F6 xs ys → Reps G F6 (xs ++ [v]) (ys ++ [dd]) := by
                    intro xs
                    induction xs with
                    | nil => intro ys h; cases h; exact .cons r6 .nil
                    | cons a xs ih => intro ys h; cases h with | cons h1 h2 => exact .cons h1 (ih h2)
                  exact this ra6
              · rw [if_neg hz] at p; exact p.elim
      rcases yd with ⟨e1, r⟩ | ⟨pp, vv, dd, e1, hp, e2, e3, r⟩
      · subst e1
        exact turn F2 H3 s2 st2 sf2 hl2 ra2 f2 (r.mono sf2)
      · subst e1 e2
        obtain ⟨st3, s3⟩ := st2.newF (o := .tup vv) hp
        have np : L ≠ pp := ne_of_none hl2 hp
        have tp : T2 pp = 0 := Decidable.byContradiction fun n => st2.there pp n hp
        have s3' : Step F2 H2 (add T2 (one L)) (upd F2 pp (.tup vv)) (upd H2 pp (.tup vv)) (add T2 (one L)) := Step.newF hp st2.sub (by simp only [add, one, if_neg (Ne.symm np)]; omega)
        refine turn _ _ (s2.trans s3') st3 (sf2.trans s3.sF) (by rw [upd_ne np]; exact hl2) (ra2.mono s3.sF) (by rw [upd_ne np]; exact f2) ?_
        rw [e3]
        exact .tup (.inl (.inl upd_same)) ((r.mono sf2).mono s3.sF)
  · rintro H2 ⟨F2, S2, T2, av, acc, st2, s2, sf2, hl2, ra2, t2, f2, p⟩
    rw [List.drop_length] at p
    have p : KE G F H σ T Q (.li .fz, .lst acc) (backS S0 S2 vs) := p
    obtain ⟨T3, st3, l3⟩ := back_slots st1 sf2 hc1 hc2 st2
    refine p (.ref L) F2 H2 T3 (add (one L) nil0) (s2.less fun a => by have := l3 a; simp only [add, nil0]; omega) st3 (.li hl2 (owns_fz ra2)) (fun a => ?_) fun a n => ?_
    · have l := l3 a
      simp only [add, nil0, one]
      split
      · rename_i q; rw [q] at l ⊢; omega
      · have := st2.le a; omega
    · simp only [add, nil0, one]
      split
      · rename_i q; rw [q] at n; exact absurd f2 n
      · rfl
theorem pins_ok {own : List (PySem.Str × Nat)} (h : (own.map (·.2)).all (fun v => !G.pk.contains v) = true) : ∀ v, v ∈ own.map (·.2) → v ∉ G.pk := fun v hv => pin_ok (by simpa using List.all_eq_true.mp h v hv)
theorem tr_lc {elt tg iter : Expr} {ifs : List Expr} {scope : Scope} {own : List (PySem.Str × Nat)} {pos : Pos} {it : It} {t : Tg} {c : T} {e : E} (C : Cok X G W k) (hi : TrI X G W tg iter it) (ok : BlkOk X.N X.env.scope scope own)
    (hg : ∀ (s : Shared) (H : Hp) (C : Addr) (cl : List (PySem.Str × Addr)) (fp : List Addr), TrG (X.blk s H scope (compEnvC scope cl C X.env) fp) G tg t)
    (ht : ∀ (s : Shared) (H : Hp) (C : Addr) (cl : List (PySem.Str × Addr)) (fp : List Addr), Cok (X.blk s H scope (compEnvC scope cl C X.env) fp) G W0 k → TrTs (X.blk s H scope (compEnvC scope cl C X.env) fp) G W0 ifs c)
    (he : ∀ (s : Shared) (H : Hp) (C : Addr) (cl : List (PySem.Str × Addr)) (fp : List Addr), Cok (X.blk s H scope (compEnvC scope cl C X.env) fp) G W0 k → TrE (X.blk s H scope (compEnvC scope cl C X.env) fp) G W0 elt e) (hs : ∀ x, foldedSetIterable iter X.env x = pure x := by intro _; rfl) (hpn : (own.map (·.2)).all (fun v => !G.pk.contains v) = true := by rfl) :
    TrE X G W (.ListComp elt [⟨tg, iter, ifs, 0⟩] scope pos) (eLc it t (own.map (·.2)) c e) := by
  obtain ⟨wi, p, d⟩ := hi
  have cb : ∀ (s : Shared) (H : Hp) (A : Addr) (cl : List (PySem.Str × Addr)) (fp : List Addr), Cok (X.blk s H scope (compEnvC scope cl A X.env) fp) G W0 k := fun s H A cl fp => ⟨C.hK, takesN0, PassesOwn.never, C.calm, C.room, C.nd⟩
  exact ⟨_, pe_lc C.calm C.nd p ok (fun s H A cl fp => (hg s H A cl fp).can) (fun s H A cl fp => ht s H A cl fp (cb s H A cl fp)) (fun s H A cl fp => (he s H A cl fp (cb s H A cl fp)).can) hs, den_lc (pins_ok hpn) d⟩
/-- name = [..] on one line -/
theorem tr_setLc (i : Nat) {y : PySem.Str} {py : Pos} {elt tg iter : Expr} {ifs : List Expr} {scope : Scope} {own : List (PySem.Str × Nat)} {pos spos : Pos} {it : It} {t : Tg} {c : T} {e : E} (C : Cok X G W k) (hi : TrI X G W tg iter it) (ok : BlkOk X.N X.env.scope scope own)
    (hg : ∀ (s : Shared) (H : Hp) (C : Addr) (cl : List (PySem.Str × Addr)) (fp : List Addr), TrG (X.blk s H scope (compEnvC scope cl C X.env) fp) G tg t)
    (ht : ∀ (s : Shared) (H : Hp) (C : Addr) (cl : List (PySem.Str × Addr)) (fp : List Addr), Cok (X.blk s H scope (compEnvC scope cl C X.env) fp) G W0 k → TrTs (X.blk s H scope (compEnvC scope cl C X.env) fp) G W0 ifs c)
    (he : ∀ (s : Shared) (H : Hp) (C : Addr) (cl : List (PySem.Str × Addr)) (fp : List Addr), Cok (X.blk s H scope (compEnvC scope cl C X.env) fp) G W0 k → TrE (X.blk s H scope (compEnvC scope cl C X.env) fp) G W0 elt e)
    (hsw : swapsWith (.ListComp elt [⟨tg, iter, ifs, 0⟩] scope pos) (some (.Name y py)) spos.line X.env = pure true)
    (hy : X.N[i]? = some y := by rfl) (hyl : X.env.scope.names.lookup y = some .local := by rfl) (hs : ∀ x, foldedSetIterable iter X.env x = pure x := by intro _; rfl) (hpn : (own.map (·.2)).all (fun v => !G.pk.contains v) = true := by rfl) (hp : G.pk.contains i = false := by rfl) :
    TrS X G W (.Assign [.Name y py] (.ListComp elt [⟨tg, iter, ifs, 0⟩] scope pos) spos) (sSet i (eLc it t (own.map (·.2)) c e)) := by
  obtain ⟨wi, p, d⟩ := hi
  have cb : ∀ (s : Shared) (H : Hp) (A : Addr) (cl : List (PySem.Str × Addr)) (fp : List Addr), Cok (X.blk s H scope (compEnvC scope cl A X.env) fp) G W0 k := fun s H A cl fp => ⟨C.hK, takesN0, PassesOwn.never, C.calm, C.room, C.nd⟩
  refine ⟨_, ps_setLc C.calm C.nd hy hyl hsw p ok (fun s H A cl fp => (hg s H A cl fp).can) (fun s H A cl fp => ht s H A cl fp (cb s H A cl fp)) (fun s H A cl fp => (he s H A cl fp (cb s H A cl fp)).can) hs, fun F H σ S T D st z => den_lc (W := W) (pins_ok hpn) d F H σ S T _ st (PRs.bind z fun kd S1 y => ?_)⟩
  obtain ⟨kk, dd⟩ := kd
  intro v F' H' T' f s' st' o le di
  show D.nx (σ.set i (some v)) H'
  have y : PRs G W F H T (KS G F H T D) (if i < S1.length then .ok .nx (S1.set i (some (kk, dd))) else .bad) := y
  by_cases hl : i < S1.length
  · rw [if_pos hl] at y
    obtain ⟨T2, st2, l2⟩ := st'.set hl (pin_ok hp) o le di
    exact (show KS G F H T D .nx _ from y) _ F' H' T2 (s'.less l2) st2
  · rw [if_neg hl] at y; exact y.elim
end
end TB

namespace TB
open PySem PyProof.Rows L2
/-! ### what a function promises -/
inductive Args (G : Cfg) (F H : Hp) : List KD → List V → Cnt → Prop
  | nil : Args G F H [] [] nil0
  | cons {k : Kd} {d : D} {v : V} {as : List KD} {vs : List V} {f g : Cnt} : Own G F H k v d f → Args G F H as vs g → Args G F H ((k, d) :: as) (v :: vs) (add f g)
/-- the owned arguments behind the call -/
inductive Outs (G : Cfg) (F H : Hp) : List KD → List V → List KD → Cnt → Prop
  | nil : Outs G F H [] [] [] nil0
  | skip {k : Kd} {d : D} {v : V} {as : List KD} {vs : List V} {os : List KD} {g : Cnt} : k.isF = true → Outs G F H as vs os g → Outs G F H ((k, d) :: as) (v :: vs) os g
  | own {k k' : Kd} {d d' : D} {v : V} {as : List KD} {vs : List V} {os : List KD} {f g : Cnt} : k.isF = false → k'.isF = false → Own G F H k' v d' f → Outs G F H as vs os g → Outs G F H ((k, d) :: as) (v :: vs) ((k', d') :: os) (add f g)
def spF (G : Cfg) (n : Nat) (fn : Fn) : Sp := fun vs H Q E => ∃ F T as, vs.length = n ∧ Same F H ∧ Args G F H as vs T ∧ (∀ a, T a ≤ 1) ∧ (∀ a, F a ≠ none → T a = 0) ∧ match fn as with
  | .ret r os => ∀ v F' H' T' f, Step F H T F' H' (add T' f) → Same F' H' → Outs G F' H' as vs os T' → Own G F' H' r.1 v r.2 f → (∀ a, T' a + f a ≤ 1) → (∀ a, F' a ≠ none → T' a + f a = 0) → Q v H'
  | .exc x os => ∀ cls dx F' H' T', Step F H T F' H' T' → Same F' H' → Outs G F' H' as vs os T' → (∀ a, T' a ≤ 1) → (∀ a, F' a ≠ none → T' a = 0) → ExcR G x cls dx H' → E cls dx H'
  | .bad => False
theorem Args.len {G : Cfg} {F H : Hp} {as : List KD} {vs : List V} {T : Cnt} (h : Args G F H as vs T) : as.length = vs.length := by
  induction h with
  | nil => rfl
  | cons _ _ ih => simp [ih]
theorem slots_none {G : Cfg} {F H : Hp} : ∀ n, Slots G F H (List.replicate n none) (List.replicate n none) nil0
  | 0 => .nil
  | n + 1 => by
    have : Slots G F H (none :: List.replicate n none) (none :: List.replicate n none) (add nil0 nil0) := .cons (.no none) (slots_none n)
    exact this
theorem Args.slots {G : Cfg} {F H : Hp} {as : List KD} {vs : List V} {T : Cnt} (h : Args G F H as vs T) (n : Nat) : Slots G F H (vs.map some ++ List.replicate n none) (as.map some ++ List.replicate n none) T := by
  induction h with
  | nil => exact slots_none n
  | cons o _ ih => exact .cons (.yes o) ih
theorem outs_of {G : Cfg} {F H : Hp} : ∀ {as : List KD} {vs : List V} {S : List Slot} {σ : L2.St} {T : Cnt} {os : List KD} (i : Nat), Slots G F H σ S T → (∀ j (h : j < vs.length), (match as[j]? with | some a => a.1.isF = false | none => False) → σ[j]? = some (some vs[j])) →
    as.length = vs.length → outsOf as S = some os → ∃ T', Outs G F H as vs os T' ∧ ∀ a, T' a ≤ T a
  | [], [], _, _, _, _, _, _, _, _, e => by
    unfold outsOf at e; cases e; exact ⟨nil0, .nil, fun a => Nat.zero_le _⟩
  | [], _ :: _, _, _, _, _, _, _, _, hl, _ => by simp at hl
  | _ :: _, [], _, _, _, _, _, _, _, hl, _ => by simp at hl
  | (k, d) :: as, v :: vs, S, σ, T, os, i, hs, hp, hl, e => by
    cases hs with
    | nil => unfold outsOf at e; cases e
    | @cons w s f g σ S h1 h2 =>
      unfold outsOf at e
      have hl' : as.length = vs.length := by simpa using hl
      have hp' : ∀ j (h : j < vs.length), (match as[j]? with | some a => a.1.isF = false | none => False) → σ[j]? = some (some vs[j]) := fun j h z => by
        have := hp (j + 1) (by simp; omega) (by simpa using z)
        simpa using this
      cases hk : k.isF with
      | true =>
        rw [hk, if_pos rfl] at e
        obtain ⟨T', o, l⟩ := outs_of (i + 1) h2 hp' hl' e
        exact ⟨T', .skip hk o, fun a => by have := l a; simp only [add]; omega⟩
      | false =>
        rw [hk, if_neg (by simp)] at e
        cases s with
        | none => cases e
        | some kd =>
          obtain ⟨k', d'⟩ := kd
          cases hk' : k'.isF with
          | true => simp [hk'] at e
          | false =>
            simp only [hk', Bool.false_eq_true, if_false] at e
            cases e2 : outsOf as S with
            | none => rw [e2] at e; cases e
            | some os2 =>
              rw [e2] at e
              cases e
              obtain ⟨T', o, l⟩ := outs_of (i + 1) h2 hp' hl' e2
              cases h1 with
              | @yes k1 v1 d1 f1 ow =>
                have := hp 0 (by simp) (by simpa using hk)
                have ev : v1 = v := by simpa using this
                subst ev
                exact ⟨add f T', .own hk hk' ow o, fun a => by have := l a; simp only [add]; omega⟩
theorem pinned_at : ∀ {pk : List Nat} {as : List KD} {i : Nat}, pinned pk i as = true → ∀ j, (match as[j]? with | some a => a.1.isF = false | none => False) → i + j ∈ pk
  | _, [], _, _, j, z => by simp at z
  | pk, (k, d) :: as, i, h, 0, z => by
    unfold pinned at h
    obtain ⟨h1, _⟩ := Bool.and_eq_true_iff.mp h
    have z : k.isF = false := by simpa using z
    rw [z, Bool.false_or] at h1
    simpa using h1
  | pk, (k, d) :: as, i, h, j + 1, z => by
    unfold pinned at h
    obtain ⟨_, h2⟩ := Bool.and_eq_true_iff.mp h
    have := pinned_at h2 j (by simpa using z)
    rw [show i + (j + 1) = i + 1 + j by omega]; exact this
/-- the pins of a body: the slots pk hold what they held at the start -/
def pinG (G : Cfg) (pk : List Nat) (σ : L2.St) : Cfgx := { G with pk := pk, pv := fun i => (σ[i]?).getD none }
abbrev cxF (P : Program) (w : World) (K : PySem.W.Frag) (mg : PySem.Str → Option Value) (base : Heap) (N : List PySem.Str) (qual : PySem.Str) (scope : Scope) (f : Addr) (cd : Value) (A : Around) (outer : List Env) (s : Shared) (H : Hp) (E : XK) : Cx := cxOf (L2N.CX P w) P w K mg base N qual scope f cd A outer s H E
theorem cok_fn {P : Program} {w : World} {G : Cfg} {mg : PySem.Str → Option Value} {base : Heap} {N : List PySem.Str} {qual : PySem.Str} {scope : Scope} {f : Addr} {cd : Value} {A : Around} {outer : List Env} {s : Shared} {H : Hp} {E : XK} {k : Nat} {pk : List Nat} {σ : L2.St} (hk : scope.kind = .function) (nd : N.Nodup) (hr : Room k (A.deeper (envOfC qual scope s.heap.objs.size f cd))) :
    Cok (cxF P w G.K mg base N qual scope f cd A outer s H E) (pinG G pk σ) (fun cls d _ H' => E cls d H') k :=
  ⟨rfl, L2N.takes_of rfl rfl rfl rfl, passes_of rfl, rfl, hr, nd⟩
/-- THE RULE of a def -/
theorem fn_ok {P : Program} {w : World} {G : Cfg} {mg : PySem.Str → Option Value} {base : Heap} {x qual : PySem.Str} {params : Arguments} {body : List Stmt} {scope : Scope} {dvs : List V} {kws : List (PySem.Str × V)} {f : Addr} {fd : FuncData} {N ps : List PySem.Str} {k : Nat} {m : St} (pk : List Nat)
    (FD : FunD G.K x qual params body scope dvs kws f fd) (S : FnScope N ps scope) (hpk : pk.all (· < ps.length) = true)
    (hb : ∀ (cdv : Value) (A : Around) (outer : List Env) (s : Shared) (H : Hp) (E : XK) (σ : L2.St), Cok (cxF P w G.K mg base N qual scope f cdv A outer s H E) (pinG G pk σ) (fun cls d _ H' => E cls d H') k → TrSs (cxF P w G.K mg base N qual scope f cdv A outer s H E) (pinG G pk σ) (fun cls d _ H' => E cls d H') body m) :
    FnOk P w G.K mg base (L2N.CX P w) (k + 1) f fd ps (spF G ps.length (runF N.length pk m)) := by
  refine FD.ok S (fun vs H Q E ⟨F, T, as, h, _⟩ => h) fun cdv A outer s H vs Q E hr ⟨F, T, as, hl, sub, ar, le, di, h⟩ => ?_
  obtain ⟨t, p, d⟩ := hb cdv A outer s H E (L2.start N vs) (cok_fn S.kind S.nd hr)
  refine ⟨t, p, ?_⟩
  have hal := ar.len
  unfold runF at h
  by_cases hp : pinned pk 0 as = true
  case neg => rw [if_neg hp] at h; exact h.elim
  rw [if_pos hp] at h
  have st : St' (pinG G pk (L2.start N vs)) F H (L2.start N vs) (as.map some ++ List.replicate (N.length - as.length) none) T := by
    refine ⟨fun i hi => ?_, sub, ?_, le, di⟩
    · have hlt : i < ps.length := by simpa using List.all_eq_true.mp hpk i hi
      have : (L2.start N vs)[i]? = some (some (vs[i]'(by omega))) := by
        unfold L2.start
        rw [List.getElem?_append_left (by simp; omega)]
        simp [hl, hlt]
      show (L2.start N vs)[i]? = some (((L2.start N vs)[i]?).getD none)
      rw [this]; rfl
    · unfold L2.start
      rw [← hal]
      exact ar.slots _
  have pinv : ∀ {F' H' : Hp} {σ' : L2.St} {S' : List Slot} {T' : Cnt}, St' (pinG G pk (L2.start N vs)) F' H' σ' S' T' → ∀ j (h : j < vs.length), (match as[j]? with | some a => a.1.isF = false | none => False) → σ'[j]? = some (some vs[j]) := fun st' j hj z => by
    have q := pinned_at hp j z
    rw [Nat.zero_add] at q
    have y := st'.pi j q
    rw [y]
    show some (((L2.start N vs)[j]?).getD none) = _
    unfold L2.start
    rw [List.getElem?_append_left (by simpa using hj)]
    simp [hj]
  refine d F H (L2.start N vs) _ T { nx := fun _ H' => Q .non H', rt := Q } st ?_
  cases e : m (as.map some ++ List.replicate (N.length - as.length) none) with
  | bad => rw [e] at h; exact h.elim
  | exc x S' =>
    rw [e] at h
    intro σ' cls dx F' H' T' s' st' ex
    cases eo : outsOf as S' with
    | none => simp only [eo] at h
    | some os =>
      simp only [eo] at h
      obtain ⟨T2, o2, l2⟩ := outs_of 0 st'.sl (pinv st') hal eo
      exact h cls dx F' H' T2 (s'.less l2) st'.sub o2 (fun a => Nat.le_trans (l2 a) (st'.le a)) (fun a n => by have := st'.di a n; have := l2 a; omega) ex
  | ok fl S' =>
    rw [e] at h
    cases fl with
    | bk => exact h.elim
    | ct => exact h.elim
    | nx =>
      have h : match frOf as (.fz, .non) S' with | .ret r os => _ | .exc x os => _ | .bad => False := h
      intro σ' F' H' T' s' st'
      unfold frOf at h
      cases eo : outsOf as S' with
      | none => simp only [eo] at h
      | some os =>
        simp only [eo] at h
        obtain ⟨T2, o2, l2⟩ := outs_of 0 st'.sl (pinv st') hal eo
        exact h .non F' H' T2 nil0 (s'.less l2) st'.sub o2 (.fz .non) (fun a => by have := l2 a; have := st'.le a; simp only [nil0]; omega) fun a n => by have := st'.di a n; have := l2 a; simp only [nil0]; omega
    | rt r =>
      have h : match frOf as r S' with | .ret r os => _ | .exc x os => _ | .bad => False := h
      intro v σ' F' H' T' f' s' st' o lo dd
      unfold frOf at h
      cases eo : outsOf as S' with
      | none => simp only [eo] at h
      | some os =>
        simp only [eo] at h
        obtain ⟨T2, o2, l2⟩ := outs_of 0 st'.sl (pinv st') hal eo
        exact h v F' H' T2 f' (s'.less fun a => by have := l2 a; simp only [add]; omega) st'.sub o2 o (fun a => by have := l2 a; have := lo a; omega) fun a n => by have := st'.di a n; have := dd a n; have := l2 a; omega
end TB

namespace TB
open PySem PyProof.Rows L2
/-! ### calls -/
inductive AVs (G : Cfg) (F H : Hp) (σ : L2.St) : List AV → List V → Cnt → Prop
  | nil : AVs G F H σ [] [] nil0
  | v {d : D} {x : V} {as : List AV} {vs : List V} {g : Cnt} : Rep G F x d → AVs G F H σ as vs g → AVs G F H σ (.v d :: as) (x :: vs) g
  | o {kd : KD} {x : V} {as : List AV} {vs : List V} {f g : Cnt} : kd.1.isF = false → Own G F H kd.1 x kd.2 f → AVs G F H σ as vs g → AVs G F H σ (.o kd :: as) (x :: vs) (add f g)
  | b {i : Nat} {x : V} {as : List AV} {vs : List V} {g : Cnt} : σ[i]? = some (some x) → AVs G F H σ as vs g → AVs G F H σ (.b i :: as) (x :: vs) g
theorem AVs.mono {G : Cfg} {F F' H H' : Hp} {σ : L2.St} {as : List AV} {vs : List V} {f : Cnt} (e : Same F F') (h : AVs G F H σ as vs f) (m : ∀ a o, f a ≠ 0 → H a = some o → H' a = some o) : AVs G F' H' σ as vs f := by
  induction h with
  | nil => exact .nil
  | v r _ ih => exact .v (r.mono e) (ih m)
  | o k o _ ih => exact .o k (o.mono e fun a u n => m a u (by simp only [add]; omega)) (ih fun a u n => m a u (by simp only [add]; omega))
  | b x _ ih => exact .b x (ih m)
theorem AVs.there {G : Cfg} {F H : Hp} {σ : L2.St} {as : List AV} {vs : List V} {f : Cnt} (h : AVs G F H σ as vs f) (a : Addr) (n : f a ≠ 0) : H a ≠ none := by
  induction h with
  | nil => exact absurd rfl n
  | v _ _ ih => exact ih n
  | @o _ _ _ _ f g _ o _ ih =>
    by_cases q : f a = 0
    · exact ih (by simp only [add] at n; omega)
    · exact o.there a q
  | b _ _ ih => exact ih n
def KAr (G : Cfgx) (F H : Hp) (σ : L2.St) (T : Cnt) (Q : List V → Hp → Prop) (as : List AV) (S' : List Slot) : Prop :=
  ∀ vs F' H' T' f, Step F H T F' H' (add T' f) → St' G F' H' σ S' T' → AVs G F' H' σ as vs f → (∀ a, T' a + f a ≤ 1) → (∀ a, F' a ≠ none → f a = 0) → Q vs H'
def DenAr (G : Cfgx) (W : WX) (t : TA) (m : M (List AV)) : Prop := ∀ F H σ S T Q, St' G F H σ S T → PR G W F H σ T (KAr G F H σ T Q) (m S) → t σ H Q
def TrAr (X : Cx) (G : Cfgx) (W : WX) (es : List Expr) (as : List Ar) : Prop := ∃ t, PA X es t ∧ DenAr G W t (arEv as)
section
variable {X : Cx} {G : Cfgx} {W : WX} {k : Nat}
theorem tar_nil : TrAr X G W [] [] := ⟨_, pa_nil, fun F H σ S T Q st p => (show KAr G F H σ T Q [] S from p) [] F H T nil0 ((Step.refl F H T).castR fun a => rfl) st .nil (fun a => st.le a) fun _ _ => rfl⟩
theorem tar_v {e : Expr} {es : List Expr} {m : E} {ms : List Ar} (h : TrE X G W e m) (r : TrAr X G W es ms) (hs : starEach (e :: es) X.env = (false, eval e X.env) :: starEach es X.env := by rfl) : TrAr X G W (e :: es) (.v m :: ms) := by
  obtain ⟨t, hp, hd⟩ := h
  obtain ⟨u, hq, hu⟩ := r
  refine ⟨_, pa_cons hp hq hs, fun F H σ S T Q st p => ?_⟩
  have p : PR G W F H σ T (KAr G F H σ T Q) ((eDat m S).bind fun d => M.bind (arEv ms) fun r => M.pure (.v d :: r)) := p
  refine hd.dat F H σ S T _ st (PR.bind p fun d S1 q => ?_)
  intro v F1 H1 T1 s1 st1 r1
  refine hu F1 H1 σ S1 T1 _ st1 (PR.bind (PR.re s1 (fun _ _ h => h) q) fun ds S2 q2 => ?_)
  intro vs F2 H2 T2 f2 s2 st2 r2 le2 di2
  have q2 : KAr G F H σ T Q (.v d :: ds) S2 := q2
  exact q2 (v :: vs) F2 H2 T2 f2 (s1.trans s2) st2 (.v (r1.mono s2.sF) r2) le2 di2
theorem tar_o {e : Expr} {es : List Expr} {m : E} {ms : List Ar} (h : TrE X G W e m) (r : TrAr X G W es ms) (hs : starEach (e :: es) X.env = (false, eval e X.env) :: starEach es X.env := by rfl) : TrAr X G W (e :: es) (.o m :: ms) := by
  obtain ⟨t, hp, hd⟩ := h
  obtain ⟨u, hq, hu⟩ := r
  refine ⟨_, pa_cons hp hq hs, fun F H σ S T Q st p => ?_⟩
  have p : PR G W F H σ T (KAr G F H σ T Q) ((m S).bind fun kd => M.bind (arEv ms) fun r => if kd.1.isF then fun _ => .bad else M.pure (.o kd :: r)) := p
  refine hd F H σ S T _ st (PR.bind p fun kd S1 q => ?_)
  intro v F1 H1 T1 f1 s1 st1 o1 le1 di1
  refine hu F1 H1 σ S1 T1 _ st1 (PR.bind (PR.re (s1.less (T2 := T1) fun a => by simp only [add]; omega) (fun _ _ h => h) q) fun ds S2 q2 => ?_)
  intro vs F2 H2 T2 f2 s2 st2 r2 le2 di2
  cases hk : kd.1.isF with
  | true => rw [hk, if_pos rfl] at q2; exact q2.elim
  | false =>
    rw [hk, if_neg (by simp)] at q2
    have q2 : KAr G F H σ T Q (.o kd :: ds) S2 := q2
    have th : ∀ a, f1 a ≠ 0 → H1 a ≠ none := fun a n => o1.there a n
    obtain ⟨b1, b2, b3⟩ := s2.frame le1 th
    refine q2 (v :: vs) F2 H2 T2 (add f1 f2) (s1.trans (b1.castR fun a => by simp only [add]; omega)) st2 (.o hk (o1.mono s2.sF b3) r2) (fun a => ?_) fun a n => ?_
    · by_cases z : f1 a = 0
      · have := le2 a; simp only [add]; omega
      · have y := b2 a z; have := le1 a; simp only [add] at y ⊢; omega
    · by_cases z : f1 a = 0
      · have := di2 a n; simp only [add]; omega
      · have y := b2 a z
        exfalso
        by_cases w : F1 a = none
        · rcases s2.nF a w n with u | u | u
          · exact th a z u
          · have := le1 a; omega
          · exact o1.noT a z u
        · exact z (di1 a w)
theorem tar_b (i : Nat) {x : PySem.Str} {pos : Pos} {es : List Expr} {ms : List Ar} (r : TrAr X G W es ms) (hN : X.N[i]? = some x := by rfl) (hv : Vis X.env.scope x := by first | exact Or.inl rfl | exact Or.inr (Or.inl rfl) | exact Or.inr (Or.inr rfl)) (hd : (x == ("__debug__" : PySem.Str)) = false := by decide)
    (hcd : (x == ("__classdict__" : PySem.Str)) = false := by decide) (hs : starEach (.Name x pos :: es) X.env = (false, eval (.Name x pos) X.env) :: starEach es X.env := by rfl) : TrAr X G W (.Name x pos :: es) (.b i :: ms) := by
  obtain ⟨u, hq, hu⟩ := r
  refine ⟨_, pa_cons (pe_var hN hv hd hcd) hq hs, fun F H σ S T Q st p => ?_⟩
  unfold arEv at p
  cases e : S[i]? with
  | none => simp only [e] at p; exact p.elim
  | some s =>
    cases s with
    | none => simp only [e] at p; exact p.elim
    | some kd =>
      simp only [e] at p
      obtain ⟨kk, d⟩ := kd
      obtain ⟨v, f, hv, _⟩ := st.sl.var e
      have p : PR G W F H σ T (KAr G F H σ T Q) ((arEv ms S).bind fun r => M.pure (.b i :: r)) := p
      refine ⟨v, hv, hu F H σ S T _ st (PR.bind p fun ds S2 q2 => ?_)⟩
      intro vs F2 H2 T2 f2 s2 st2 r2 le2 di2
      exact (show KAr G F H σ T Q (.b i :: ds) S2 from q2) (v :: vs) F2 H2 T2 f2 s2 st2 (.b hv r2) le2 di2
end
/-- which arguments are owned -/
inductive AKs : List AV → List KD → Prop
  | nil : AKs [] []
  | v {d : D} {as : List AV} {ks : List KD} : AKs as ks → AKs (.v d :: as) ((.fz, d) :: ks)
  | o {kd : KD} {as : List AV} {ks : List KD} : kd.1.isF = false → AKs as ks → AKs (.o kd :: as) (kd :: ks)
  | b {i : Nat} {kd : KD} {as : List AV} {ks : List KD} : kd.1.isF = false → AKs as ks → AKs (.b i :: as) (kd :: ks)
theorem ar_in {G : Cfg} {F H : Hp} {σ : L2.St} {avs : List AV} {vs : List V} {f : Cnt} (h : AVs G F H σ avs vs f) : ∀ {S S1 : List Slot} {T : Cnt} {ks : List KD}, Slots G F H σ S T → arIn avs S = some (ks, S1) →
    ∃ Ta Tr, Args G F H ks vs Ta ∧ Slots G F H σ S1 Tr ∧ AKs avs ks ∧ ∀ a, Ta a + Tr a ≤ T a + f a := by
  induction h with
  | nil =>
    intro S S1 T ks st e
    unfold arIn at e
    cases e
    exact ⟨nil0, T, .nil, st, .nil, fun a => by simp only [nil0]; omega⟩
  | @v d x as vs g r _ ih =>
    intro S S1 T ks st e
    unfold arIn at e
    cases e1 : arIn as S with
    | none => rw [e1] at e; cases e
    | some q =>
      rw [e1] at e
      cases e
      obtain ⟨Ta, Tr, h1, h2, h3, h4⟩ := ih st e1
      exact ⟨add nil0 Ta, Tr, .cons (.fz r) h1, h2, .v h3, fun a => by have := h4 a; simp only [add, nil0]; omega⟩
  | @o kd x as vs f g hk o _ ih =>
    intro S S1 T ks st e
    unfold arIn at e
    cases e1 : arIn as S with
    | none => rw [e1] at e; cases e
    | some q =>
      rw [e1] at e
      cases e
      obtain ⟨Ta, Tr, h1, h2, h3, h4⟩ := ih st e1
      exact ⟨add f Ta, Tr, .cons o h1, h2, .o hk h3, fun a => by have := h4 a; simp only [add]; omega⟩
  | @b i x as vs g hx _ ih =>
    intro S S1 T ks st e
    unfold arIn at e
    cases es : S[i]? with
    | none => simp only [es] at e; cases e
    | some s =>
      cases s with
      | none => simp only [es] at e; cases e
      | some kd =>
        simp only [es] at e
        cases hk : kd.1.isF with
        | true => rw [hk, if_pos rfl] at e; cases e
        | false =>
          rw [hk, if_neg (by simp)] at e
          obtain ⟨v0, f0, T0, ht, hv, ho, back⟩ := st.at es
          cases e1 : arIn as (S.set i none) with
          | none => rw [e1] at e; cases e
          | some q =>
            rw [e1] at e
            cases e
            have st2 := back F H (some x) none nil0 (Same.refl F) (fun _ _ _ h => h) (.no _)
            have e2 : σ.set i (some x) = σ := by
              obtain ⟨hi, q1⟩ := List.getElem?_eq_some_iff.mp hx
              rw [← q1, List.set_getElem_self]
            rw [e2] at st2
            obtain ⟨Ta, Tr, h1, h2, h3, h4⟩ := ih st2 e1
            rw [hx] at hv
            cases hv
            cases ho with
            | yes o => exact ⟨add f0 Ta, Tr, .cons o h1, h2, .b hk h3, fun a => by have := h4 a; have := ht a; simp only [add, nil0] at *; omega⟩
theorem ar_out {G : Cfg} {F H F0 H0 : Hp} {σ : L2.St} {avs : List AV} {vs : List V} {f : Cnt} (h : AVs G F0 H0 σ avs vs f) : ∀ {S1 S2 : List Slot} {Tr To : Cnt} {ks os : List KD}, AKs avs ks → Outs G F H ks vs os To → Slots G F H σ S1 Tr → arOut avs os S1 = some S2 →
    ∃ T2, Slots G F H σ S2 T2 ∧ ∀ a, T2 a ≤ To a + Tr a := by
  induction h with
  | nil =>
    intro S1 S2 Tr To ks os ak ou st e
    cases ak
    cases ou
    unfold arOut at e
    cases e
    exact ⟨Tr, st, fun a => by simp only [nil0]; omega⟩
  | v r _ ih =>
    intro S1 S2 Tr To ks os ak ou st e
    cases ak with
    | v ak =>
      cases ou with
      | skip _ ou => unfold arOut at e; exact ih ak ou st e
      | own h => cases h
  | o hk o _ ih =>
    intro S1 S2 Tr To ks os ak ou st e
    cases ak with
    | o hk ak =>
      cases ou with
      | skip h _ => rw [hk] at h; cases h
      | own _ _ o2 ou =>
        unfold arOut at e
        obtain ⟨T2, s2, l2⟩ := ih ak ou st e
        exact ⟨T2, s2, fun a => by have := l2 a; simp only [add]; omega⟩
  | @b i x as vs g hx _ ih =>
    intro S1 S2 Tr To ks os ak ou st e
    cases ak with
    | b hk ak =>
      cases ou with
      | skip h _ => rw [hk] at h; cases h
      | @own _ k' _ d' _ _ _ _ f1 g1 _ hk' o2 ou =>
        unfold arOut at e
        by_cases hi : i < S1.length
        · obtain ⟨v0, f0, T0, ht, hv, ho, back⟩ := st.at (List.getElem?_eq_getElem hi)
          have st2 := back F H (some x) (some (k', d')) f1 (Same.refl F) (fun _ _ _ h => h) (.yes o2)
          have e2 : σ.set i (some x) = σ := by
            obtain ⟨hi, q1⟩ := List.getElem?_eq_some_iff.mp hx
            rw [← q1, List.set_getElem_self]
          rw [e2] at st2
          obtain ⟨T2, s2, l2⟩ := ih ak ou st2 e
          exact ⟨T2, s2, fun a => by have := l2 a; have := ht a; simp only [add] at *; omega⟩
        · rw [List.set_eq_of_length_le (by omega)] at e
          obtain ⟨T2, s2, l2⟩ := ih ak ou st e
          exact ⟨T2, s2, fun a => by have := l2 a; simp only [add]; omega⟩
/-- the arguments stand, the callee is asked, what it leaves comes back -/
theorem call_core {G : Cfgx} {W : WX} {F H F1 H1 : Hp} {σ : L2.St} {T T1 f : Cnt} {S1 : List Slot} {avs : List AV} {vs : List V} {Q : VK} {fn : Fn} {n : Nat} (hn : ∀ ks, AKs avs ks → vs.length = n)
    (s1 : Step F H T F1 H1 (add T1 f)) (st1 : St' G F1 H1 σ S1 T1) (av : AVs G F1 H1 σ avs vs f) (le1 : ∀ a, T1 a + f a ≤ 1) (di1 : ∀ a, F1 a ≠ none → f a = 0)
    (h : PR G W F H σ T (KE G F H σ T Q) (match arIn avs S1 with
      | none => .bad
      | some (ks, S1) => match fn ks with
        | .ret r os => (match arOut avs os S1 with | some S2 => .ok r S2 | none => .bad)
        | .exc x os => (match arOut avs os S1 with | some S2 => .exc x S2 | none => .bad)
        | .bad => .bad)) : spF G n fn vs H1 Q (WE W σ) := by
  cases e : arIn avs S1 with
  | none => rw [e] at h; exact h.elim
  | some q =>
    obtain ⟨ks, S2⟩ := q
    rw [e] at h
    obtain ⟨Ta, Tr, h1, h2, h3, h4⟩ := ar_in av st1.sl e
    have le : ∀ a, Ta a + Tr a ≤ 1 := fun a => Nat.le_trans (h4 a) (le1 a)
    have di : ∀ a, F1 a ≠ none → Ta a + Tr a = 0 := fun a n => by have := h4 a; have := st1.di a n; have := di1 a n; omega
    have th : ∀ a, Tr a ≠ 0 → H1 a ≠ none := fun a n => h2.there a n
    have nt : ∀ a, Tr a ≠ 0 → ¬ TupAt (H1 a) := fun a n => h2.noT a n
    have base : Step F H T F1 H1 (add Ta Tr) := s1.less fun a => by have := h4 a; simp only [add]; omega
    refine ⟨F1, Ta, ks, hn ks h3, st1.sub, h1, fun a => by have := le a; omega, fun a n => by have := di a n; omega, ?_⟩
    cases hf : fn ks with
    | bad => simp only [hf] at h; exact h.elim
    | ret r os =>
      simp only [hf] at h
      cases ho : arOut avs os S2 with
      | none => simp only [ho] at h; exact h.elim
      | some S3 =>
        simp only [ho] at h
        have h : KE G F H σ T Q r S3 := h
        intro v F2 H2 To f2 s2 sub2 ou o2 le2 di2
        obtain ⟨b1, b2, b3⟩ := s2.frame le th
        obtain ⟨T3, sl3, l3⟩ := ar_out av h3 ou (h2.mono s2.sF b3) ho
        have tz : ∀ a, Tr a ≠ 0 → To a = 0 ∧ f2 a = 0 := fun a n => by have := b2 a n; simp only [add] at this; omega
        have fz : ∀ a, Tr a ≠ 0 → F2 a = none := fun a n => Decidable.byContradiction fun w => by
          by_cases u : F1 a = none
          · rcases s2.nF a u w with z | z | z
            · exact th a n z
            · have := le a; omega
            · exact nt a n z
          · have := di a u; omega
        have le3 : ∀ a, T3 a + f2 a ≤ 1 := fun a => by
          have := l3 a
          by_cases z : Tr a = 0
          · have := le2 a; omega
          · have := tz a z; have := le a; omega
        refine h v F2 H2 T3 f2 (base.trans (b1.less fun a => by have := l3 a; simp only [add]; omega)) ⟨st1.pi, sub2, sl3, fun a => by have := le3 a; omega, fun a n => ?_⟩ o2 le3 fun a n => by have := di2 a n; omega
        have := l3 a
        by_cases z : Tr a = 0
        · have := di2 a n; omega
        · exact absurd (fz a z) n
    | exc x os =>
      simp only [hf] at h
      cases ho : arOut avs os S2 with
      | none => simp only [ho] at h; exact h.elim
      | some S3 =>
        simp only [ho] at h
        have h : PX G W F H σ T x S3 := h
        intro cls dx F2 H2 To s2 sub2 ou le2 di2 ex
        obtain ⟨b1, b2, b3⟩ := s2.frame le th
        obtain ⟨T3, sl3, l3⟩ := ar_out av h3 ou (h2.mono s2.sF b3) ho
        have tz : ∀ a, Tr a ≠ 0 → To a = 0 := fun a n => b2 a n
        have fz : ∀ a, Tr a ≠ 0 → F2 a = none := fun a n => Decidable.byContradiction fun w => by
          by_cases u : F1 a = none
          · rcases s2.nF a u w with z | z | z
            · exact th a n z
            · have := le a; omega
            · exact nt a n z
          · have := di a u; omega
        refine h cls dx F2 H2 T3 (base.trans (b1.less fun a => by have := l3 a; simp only [add]; omega)) ⟨st1.pi, sub2, sl3, fun a => ?_, fun a n => ?_⟩ ex
        · have := l3 a
          by_cases z : Tr a = 0
          · have := le2 a; omega
          · have := tz a z; have := le a; omega
        · have := l3 a
          by_cases z : Tr a = 0
          · have := di2 a n; omega
          · exact absurd (fz a z) n
theorem avs_len {G : Cfg} {F H : Hp} {σ : L2.St} {avs : List AV} {vs : List V} {f : Cnt} (h : AVs G F H σ avs vs f) : vs.length = avs.length := by
  induction h with
  | nil => rfl
  | v _ _ ih => simp [ih]
  | o _ _ _ ih => simp [ih]
  | b _ _ ih => simp [ih]
theorem arEv_len : ∀ (as : List Ar) (S S' : List Slot) (avs : List AV), arEv as S = .ok avs S' → avs.length = as.length
  | [], S, S', avs, h => by unfold arEv at h; cases h; rfl
  | .v e :: as, S, S', avs, h => by
    unfold arEv at h
    have h : (eDat e S).bind (fun d => M.bind (arEv as) fun r => M.pure (.v d :: r)) = .ok avs S' := h
    cases q : eDat e S with
    | ok d S1 =>
      rw [q] at h
      have h : (arEv as S1).bind (fun r => M.pure (.v d :: r)) = .ok avs S' := h
      cases q1 : arEv as S1 with
      | ok r S2 => rw [q1] at h; cases h; simp [arEv_len as _ _ _ q1]
      | exc x S2 => rw [q1] at h; cases h
      | bad => rw [q1] at h; cases h
    | exc x S1 => rw [q] at h; cases h
    | bad => rw [q] at h; cases h
  | .o e :: as, S, S', avs, h => by
    unfold arEv at h
    have h : (e S).bind (fun kd => M.bind (arEv as) fun r => if kd.1.isF then fun _ => .bad else M.pure (.o kd :: r)) = .ok avs S' := h
    cases q : e S with
    | ok kd S1 =>
      rw [q] at h
      have h : (arEv as S1).bind (fun r => if kd.1.isF then fun _ => .bad else M.pure (.o kd :: r)) = .ok avs S' := h
      cases q1 : arEv as S1 with
      | ok r S2 =>
        rw [q1] at h
        have h : (if kd.1.isF then (fun _ => .bad : M (List AV)) else M.pure (.o kd :: r)) S2 = .ok avs S' := h
        cases hk : kd.1.isF with
        | true => rw [hk, if_pos rfl] at h; cases h
        | false => rw [hk, if_neg (by simp)] at h; cases h; simp [arEv_len as _ _ _ q1]
      | exc x S2 => rw [q1] at h; cases h
      | bad => rw [q1] at h; cases h
    | exc x S1 => rw [q] at h; cases h
    | bad => rw [q] at h; cases h
  | .b i :: as, S, S', avs, h => by
    unfold arEv at h
    cases e : S[i]? with
    | none => simp only [e] at h; cases h
    | some s =>
      cases s with
      | none => simp only [e] at h; cases h
      | some kd =>
        simp only [e] at h
        have h : (arEv as S).bind (fun r => M.pure (.b i :: r)) = .ok avs S' := h
        cases q1 : arEv as S with
        | ok r S2 => rw [q1] at h; cases h; simp [arEv_len as _ _ _ q1]
        | exc x S2 => rw [q1] at h; cases h
        | bad => rw [q1] at h; cases h
section
variable {X : Cx} {G : Cfgx} {W : WX} {k : Nat}
theorem den_call {fn : Fn} {n : Nat} {ms : List Ar} {t : TA} (hn : ms.length = n) (h : DenAr G W t (arEv ms)) : DenE G W (tCallS (spF G n fn) (WE W) t) (eCall fn ms) := fun F H σ S T Q st p => by
  refine h F H σ S T _ st ?_
  have p : PR G W F H σ T (KE G F H σ T Q) ((arEv ms S).bind _) := p
  cases e : arEv ms S with
  | bad => rw [e] at p; exact p.elim
  | exc x S1 => rw [e] at p; exact p
  | ok avs S1 =>
    rw [e] at p
    intro vs F1 H1 T1 f s1 st1 av le1 di1
    exact call_core (fun ks _ => by rw [avs_len av, arEv_len ms S S1 avs e, hn]) s1 st1 av le1 di1 p
theorem tr_call {fn : Fn} {f : Addr} {fd : FuncData} {ps : List PySem.Str} {x : PySem.Str} {p pos : Pos} {e : Expr} {es : List Expr} {ms : List Ar} (C : Cok X G W k) (F : FnOk X.prog X.w X.K X.mg X.base (L2N.CX X.prog X.w) k f fd ps (spF G ps.length fn)) (hm : X.mg x = some (.ref f)) (hk : PySem.W.keepIn X.K (.ref f) = true) (hb : Binds X.K fd ps [])
    (ha : TrAr X G W (e :: es) ms) (hn : ms.length = ps.length := by rfl) (hg : Gl X x := by rfl) (hdb : (x == ("__debug__" : PySem.Str)) = false := by decide) (he : starEach (e :: es) X.env = (false, eval e X.env) :: starEach es X.env := by rfl) (hpl : (backTo pos (starEach es X.env)).any (·.1) = false := by rfl) :
    TrE X G W (.Call (.Name x p) (e :: es) [] pos) (eCall fn ms) := by
  obtain ⟨t, pa, da⟩ := ha
  exact ⟨_, pe_callS F C.room hg hm hk hb (fun σ => L2N.passAt C.tk σ) pa hdb he hpl, den_call hn da⟩
end
end TB

namespace TB
open PySem PyProof.Rows L2
theorem orR {X : Cx} {f : Value → Value → Sem Value} {r r' : R2} (h : OpR X f r) (h' : OpR X f r') : OpR X f (fun x y H Q => r x y H Q ∨ r' x y H Q) := by
  intro pins s σ H x y v u Q I rx ry q
  rcases q with q | q
  · exact h pins s σ H x y v u Q I rx ry q
  · exact h' pins s σ H x y v u Q I rx ry q
theorem sl_eq : sizeLine = sizeMax := rfl
theorem str_len (z : PySem.Str) : z.length = z.cps.toList.length := by simp [PySem.Str.length]
section
variable {X : Cx} {G : Cfgx} {W : WX} {k : Nat} {F H : Hp} {σ : L2.St} {S : List Slot} {T : Cnt}
theorem rep_tupN {F F' : Hp} {p : Addr} {vs : List V} {ds : List D} (e : F' p = some (.tup vs)) (r : Reps G F' vs ds) : Rep G F' (.ref p) (.tup ds) := .tup (.inl (.inl e)) r
/-- a new tuple of what is represented -/
theorem KE.newT {Q : VK} {vs : List V} {ds : List D} {S : List Slot} (h : KE G F H σ T Q (.fz, .tup ds) S) (st : St' G F H σ S T) (r : Reps G F vs ds) (p : Addr) (hp : H p = none) : Q (.ref p) (upd H p (.tup vs)) :=
  KE.newF h st (fun p => by
    by_cases n : F p = none
    · exact .inl (.tup (.inl (.inl upd_same)) (r.mono fun a u e => by rw [upd_ne (ne_of_none e n)]; exact e))
    · exact .inr n) p hp
theorem Reps.app {F : Hp} : ∀ {xs ys : List V} {as bs : List D}, Reps G F xs as → Reps G F ys bs → Reps G F (xs ++ ys) (as ++ bs)
  | _, _, _, _, .nil, h => h
  | _, _, _, _, .cons r s, h => .cons r (Reps.app s h)
theorem Reps.get {F : Hp} : ∀ {xs : List V} {as : List D} {n : Nat} {d : D}, Reps G F xs as → as[n]? = some d → ∃ v, xs[n]? = some v ∧ Rep G F v d
  | _, _, n, d, .nil, h => by simp at h
  | _, _, 0, d, .cons r s, h => by
    have e := Option.some.inj (show some _ = some d from h)
    exact ⟨_, rfl, e ▸ r⟩
  | _, _, n + 1, d, .cons r s, h => by
    obtain ⟨v, h1, h2⟩ := Reps.get (n := n) s (by simpa using h)
    exact ⟨v, by simpa using h1, h2⟩
theorem Reps.drop {F : Hp} : ∀ {xs : List V} {as : List D} (n : Nat), Reps G F xs as → Reps G F (xs.drop n) (as.drop n)
  | _, _, 0, h => h
  | _, _, _ + 1, .nil => .nil
  | _, _, n + 1, .cons _ s => Reps.drop n s
theorem Reps.take {F : Hp} : ∀ {xs : List V} {as : List D} (n : Nat), Reps G F xs as → Reps G F (xs.take n) (as.take n)
  | _, _, 0, h => .nil
  | _, _, _ + 1, .nil => .nil
  | _, _, n + 1, .cons r s => .cons r (Reps.take n s)
theorem Reps.rep {F : Hp} {xs : List V} {as : List D} (h : Reps G F xs as) : ∀ n : Nat, Reps G F (List.replicate n xs).flatten (List.replicate n as).flatten
  | 0 => by simp; exact .nil
  | n + 1 => by simp only [List.replicate_succ, List.flatten_cons]; exact h.app (h.rep n)
theorem Reps.set {F : Hp} {v : V} {d : D} (r : Rep G F v d) : ∀ {xs : List V} {as : List D} (n : Nat), Reps G F xs as → Reps G F (xs.set n v) (as.set n d)
  | _, _, _, .nil => .nil
  | _, _, 0, .cons _ s => .cons r s
  | _, _, n + 1, .cons q s => .cons q (Reps.set r n s)
theorem Reps.erase {F : Hp} : ∀ {xs : List V} {as : List D} (n : Nat), Reps G F xs as → Reps G F (xs.eraseIdx n) (as.eraseIdx n)
  | _, _, _, .nil => .nil
  | _, _, 0, .cons _ s => s
  | _, _, n + 1, .cons q s => .cons q (Reps.erase n s)
theorem Reps.ins {F : Hp} {v : V} {d : D} (r : Rep G F v d) : ∀ {xs : List V} {as : List D} (n : Nat), Reps G F xs as → Reps G F (xs.insertIdx n v) (as.insertIdx n d)
  | _, _, 0, h => by simp only [List.insertIdx_zero]; exact .cons r h
  | _, _, n + 1, .nil => by simp; exact .nil
  | _, _, n + 1, .cons q s => by simp only [List.insertIdx_succ_cons]; exact .cons q (Reps.ins r n s)
theorem Reps.rev {F : Hp} : ∀ {xs : List V} {as : List D}, Reps G F xs as → Reps G F xs.reverse as.reverse
  | _, _, .nil => .nil
  | _, _, .cons r s => by simp only [List.reverse_cons]; exact (Reps.rev s).app (.cons r .nil)

/-! ### + - * // % ** -/
theorem cls_add (hK : X.K = G.K) : ∃ r, OpR X (binaryOp .Add) r ∧ S2 G r fAdd := by
  refine ⟨_, orR op_add (orR op_add_str (orR op_cat op_catA)), fun F H σ S T x y dx dy kd Q st rx ry e k => ?_⟩
  cases rx <;> cases ry <;> simp only [fAdd, kz, reduceCtorEq] at e
  · cases e; exact .inl ⟨_, _, rfl, rfl, KE.val k st (.int _)⟩
  · rename_i z w
    split at e
    · rename_i hz
      cases e
      refine .inr (.inl ⟨z, w, rfl, rfl, by rw [str_len, str_len]; exact hz, KE.val k st ?_⟩)
      have := Rep.str (G := G) (F := F) (z ++ w)
      have e2 : (z ++ w).cps.toList = z.cps.toList ++ w.cps.toList := by
        show (z.cps ++ w.cps).toList = _
        simp
      rw [e2] at this
      exact this
    · cases e
  · rename_i a xs as h1 r1 b ys bs h2 r2
    split at e
    · rename_i hz
      cases e
      refine .inr (.inr (.inr ⟨a, b, xs, ys, rfl, rfl, hK ▸ same_t st.sub h1, hK ▸ same_t st.sub h2, by rw [r1.len, r2.len]; exact hz, fun q => ?_, fun q1 q2 => ?_, fun q1 q2 p hp => ?_⟩))
      · subst q
        cases r1
        exact KE.val k st (.tup h2 r2)
      · subst q2
        cases r2
        rw [List.append_nil] at k
        exact KE.val k st (.tup h1 r1)
      · exact KE.newT k st (r1.app r2) p hp
    · cases e
  · rename_i a xs as h1 r1 b ys bs h2 r2
    split at e
    · rename_i hz
      cases e
      exact .inr (.inr (.inl ⟨a, b, xs, ys, rfl, rfl, st.sub _ _ h1, st.sub _ _ h2, by rw [r1.len, r2.len]; exact hz, fun p hp => KE.newL k st (r1.app r2) p hp⟩))
    · cases e
theorem cls_sub : ∃ r, OpR X (binaryOp .Sub) r ∧ S2 G r fSub := by
  refine ⟨_, op_sub, fun F H σ S T x y dx dy kd Q st rx ry e k => ?_⟩
  cases rx <;> cases ry <;> simp only [fSub, kz, reduceCtorEq] at e
  cases e; exact ⟨_, _, rfl, rfl, KE.val k st (.int _)⟩
theorem log_small {i : Int} (h : small i) : i.natAbs.log2 < 1000 := PySem.Flt.log2_lt_of (by decide) (Nat.lt_of_lt_of_le h (by decide +kernel))
theorem cls_mul (hK : X.K = G.K) : ∃ r, OpR X (binaryOp .Mult) r ∧ S2 G r fMul := by
  refine ⟨_, orR op_mulW (orR op_rep op_repT), fun F H σ S T x y dx dy kd Q st rx ry e k => ?_⟩
  cases rx <;> cases ry <;> simp only [fMul, kz, reduceCtorEq] at e
  · split at e
    · rename_i hz
      cases e
      exact .inl ⟨_, _, rfl, rfl, by have := log_small hz.1; have := log_small hz.2; unfold CMulW; omega, KE.val k st (.int _)⟩
    · cases e
  · rename_i a xs as h1 r1 j
    split at e
    · rename_i hz
      cases e
      refine .inr (.inr ⟨a, j, xs, rfl, rfl, hK ▸ same_t st.sub h1, fun q => ?_, hz.2.1, by have := hz.2.2.1; omega, by rw [r1.len]; exact hz.2.2.2, fun p hp => KE.newT k st (r1.rep _) p hp⟩)
      subst q
      cases r1
      exact hz.1 rfl
    · cases e
  · rename_i a xs as h1 r1 j
    split at e
    · rename_i hz
      cases e
      refine .inr (.inl ⟨a, j, xs, rfl, rfl, st.sub _ _ h1, by omega, by omega, ?_, fun p hp => KE.newL k st (r1.rep _) p hp⟩)
      rw [r1.len]
      have : as.length * j.toNat ≤ 1000 * 1000 := Nat.mul_le_mul hz.2.2 (by omega)
      have : sizeLine = 16777216 := rfl
      omega
    · cases e
theorem cls_mod : ∃ r, OpR X (binaryOp .Mod) r ∧ S2 G r fMod := by
  refine ⟨_, op_mod, fun F H σ S T x y dx dy kd Q st rx ry e k => ?_⟩
  cases rx <;> cases ry <;> simp only [fMod, kz, reduceCtorEq] at e
  split at e
  · rename_i hz; cases e; exact ⟨_, _, rfl, rfl, hz, KE.val k st (.int _)⟩
  · cases e
theorem cls_div : ∃ r, OpR X (binaryOp .FloorDiv) r ∧ S2 G r fDiv := by
  refine ⟨_, op_fdivW, fun F H σ S T x y dx dy kd Q st rx ry e k => ?_⟩
  cases rx <;> cases ry <;> simp only [fDiv, kz, reduceCtorEq] at e
  split at e
  · rename_i hz; cases e; exact ⟨_, _, rfl, rfl, ⟨hz.1, by have := log_small hz.2; omega⟩, KE.val k st (.int _)⟩
  · cases e
theorem cls_pow : ∃ r, OpR X (binaryOp .Pow) r ∧ S2 G r fPow := by
  refine ⟨_, op_pow, fun F H σ S T x y dx dy kd Q st rx ry e k => ?_⟩
  cases rx <;> cases ry <;> simp only [fPow, kz, reduceCtorEq] at e
  split at e
  · rename_i hz; cases e; exact ⟨_, _, rfl, rfl, ⟨hz.1, by have := hz.2.1; omega, hz.2.2⟩, KE.val k st (.int _)⟩
  · cases e
/-! ### order -/
theorem cls_lt : ∃ r, OpR X (compareOp .Lt) r ∧ S2 G r fLt := by
  refine ⟨_, orR op_lt op_lt_str, fun F H σ S T x y dx dy kd Q st rx ry e k => ?_⟩
  cases rx <;> cases ry <;> simp only [fLt, kz, reduceCtorEq] at e <;> cases e
  · exact .inl ⟨_, _, rfl, rfl, KE.val k st (.bl _)⟩
  · exact .inr ⟨_, _, rfl, rfl, KE.val k st (.bl _)⟩
theorem cls_le : ∃ r, OpR X (compareOp .LtE) r ∧ S2 G r fLe := by
  refine ⟨_, orR op_le op_le_str, fun F H σ S T x y dx dy kd Q st rx ry e k => ?_⟩
  cases rx <;> cases ry <;> simp only [fLe, kz, reduceCtorEq] at e <;> cases e
  · exact .inl ⟨_, _, rfl, rfl, KE.val k st (.bl _)⟩
  · exact .inr ⟨_, _, rfl, rfl, KE.val k st (.bl _)⟩
theorem cls_gt : ∃ r, OpR X (compareOp .Gt) r ∧ S2 G r fGt := by
  refine ⟨_, orR op_gt op_gt_str, fun F H σ S T x y dx dy kd Q st rx ry e k => ?_⟩
  cases rx <;> cases ry <;> simp only [fGt, kz, reduceCtorEq] at e <;> cases e
  · exact .inl ⟨_, _, rfl, rfl, KE.val k st (.bl _)⟩
  · exact .inr ⟨_, _, rfl, rfl, KE.val k st (.bl _)⟩
theorem cls_ge : ∃ r, OpR X (compareOp .GtE) r ∧ S2 G r fGe := by
  refine ⟨_, orR op_ge op_ge_str, fun F H σ S T x y dx dy kd Q st rx ry e k => ?_⟩
  cases rx <;> cases ry <;> simp only [fGe, kz, reduceCtorEq] at e <;> cases e
  · exact .inl ⟨_, _, rfl, rfl, KE.val k st (.bl _)⟩
  · exact .inr ⟨_, _, rfl, rfl, KE.val k st (.bl _)⟩
/-! ### x[i] -/
theorem atI_of {α : Type} {xs : List α} {i : Int} {n : Nat} {v : α} (h : normIx xs.length i = some n) (e : xs[n]? = some v) : atI xs i = some v := by
  have h2 : ixN xs.length i = some n := h
  unfold atI
  rw [h2]; exact e
theorem cls_ix (hK : X.K = G.K) : ∃ r, IxR X r ∧ S2 G r fIx := by
  refine ⟨_, ix_seq, fun F H σ S T x y dx dy kd Q st rx ry e k => ?_⟩
  cases rx <;> cases ry <;> simp only [fIx, kz, reduceCtorEq] at e
  · rename_i z i
    split at e
    · rename_i hz
      cases h1 : normIx z.cps.toList.length i with
      | none => rw [h1] at e; cases e
      | some n =>
        rw [h1] at e
        have e : (z.cps.toList[n]?.bind fun c => some ((Kd.fz, D.str [c]) : KD)) = some kd := e
        cases h2 : z.cps.toList[n]? with
        | none => rw [h2] at e; cases e
        | some c =>
          rw [h2] at e
          cases e
          exact .inr (.inr ⟨z, i, c, rfl, rfl, by rw [str_len]; exact hz, atI_of h1 h2, KE.val k st (.str ⟨#[c]⟩)⟩)
    · cases e
  · rename_i a xs as h1 r1 i
    cases h2 : normIx as.length i with
    | none => rw [h2] at e; cases e
    | some n =>
      rw [h2] at e
      have e : (as[n]?.bind fun d => some ((Kd.fz, d) : KD)) = some kd := e
      cases h3 : as[n]? with
      | none => rw [h3] at e; cases e
      | some d =>
        rw [h3] at e
        cases e
        obtain ⟨v, h4, h5⟩ := r1.get h3
        exact .inr (.inl ⟨a, xs, i, v, rfl, rfl, hK ▸ same_t st.sub h1, atI_of (n := n) (by rw [r1.len]; exact h2) h4, KE.val k st h5⟩)
  · rename_i a ns h1 i
    cases h2 : normIx ns.length i with
    | none => rw [h2] at e; cases e
    | some n =>
      rw [h2] at e
      have e : (ns[n]?.bind fun j => some ((Kd.fz, D.int j) : KD)) = some kd := e
      cases h3 : ns[n]? with
      | none => rw [h3] at e; cases e
      | some j =>
        rw [h3] at e
        cases e
        exact .inl ⟨a, _, i, .int j, rfl, rfl, hK ▸ same_l st.sub h1, atI_of (n := n) (by rw [List.length_map]; exact h2) (by simp [h3]), KE.val k st (.int j)⟩
  · rename_i a xs as h1 r1 i
    cases h2 : normIx as.length i with
    | none => rw [h2] at e; cases e
    | some n =>
      rw [h2] at e
      have e : (as[n]?.bind fun d => some ((Kd.fz, d) : KD)) = some kd := e
      cases h3 : as[n]? with
      | none => rw [h3] at e; cases e
      | some d =>
        rw [h3] at e
        cases e
        obtain ⟨v, h4, h5⟩ := r1.get h3
        exact .inl ⟨a, xs, i, v, rfl, rfl, .inl (.inl (st.sub _ _ h1)), atI_of (n := n) (by rw [r1.len]; exact h2) h4, KE.val k st h5⟩
/-! ### is -/
theorem cls_isN : ∃ r, OpR X (compareOp .Is) r ∧ S2 G r fIsN := by
  refine ⟨_, op_isN, fun F H σ S T x y dx dy kd Q st rx ry e k => ?_⟩
  cases ry <;> simp only [fIsN, kz, reduceCtorEq] at e
  refine ⟨rfl, ?_⟩
  cases rx <;> cases e <;> exact KE.val k st (.bl _)
theorem cls_notN : ∃ r, OpR X (compareOp .IsNot) r ∧ S2 G r fNotN := by
  refine ⟨_, op_notN, fun F H σ S T x y dx dy kd Q st rx ry e k => ?_⟩
  cases ry <;> simp only [fNotN, kz, reduceCtorEq] at e
  refine ⟨rfl, ?_⟩
  cases rx <;> cases e <;> exact KE.val k st (.bl _)
theorem cls_isB : ∃ r, OpR X (compareOp .Is) r ∧ S2 G r fIsB := by
  refine ⟨_, op_isBl, fun F H σ S T x y dx dy kd Q st rx ry e k => ?_⟩
  cases rx <;> cases ry <;> simp only [fIsB, kz, reduceCtorEq] at e
  cases e; exact ⟨_, _, rfl, rfl, KE.val k st (.bl _)⟩
theorem cls_notB : ∃ r, OpR X (compareOp .IsNot) r ∧ S2 G r fNotB := by
  refine ⟨_, op_notBl, fun F H σ S T x y dx dy kd Q st rx ry e k => ?_⟩
  cases rx <;> cases ry <;> simp only [fNotB, kz, reduceCtorEq] at e
  cases e; exact ⟨_, _, rfl, rfl, KE.val k st (.bl _)⟩
/-! ### built-in functions -/
theorem sn1 {r : List V → Hp → VK → Prop} {f : List D → Option KD} : True := trivial
theorem cls_len (hK : X.K = G.K) : ∃ r, CallR X (.builtin "len") r ∧ SN G r fLen := by
  refine ⟨_, call_len, fun F H σ S T xs ds kd Q st rs e k => ?_⟩
  cases rs with
  | nil => simp [fLen] at e
  | cons r1 r2 =>
    cases r2 with
    | cons _ _ => cases r1 <;> simp [fLen] at e
    | nil =>
      cases r1 <;> simp only [fLen, kz, reduceCtorEq] at e
      · rename_i z
        split at e
        · rename_i hz
          cases e
          exact ⟨_, z.length, rfl, ⟨by rw [str_len]; exact hz, rfl⟩, by rw [str_len]; exact KE.val k st (.int _)⟩
        · cases e
      · rename_i a xs as h1 r1
        cases e
        exact ⟨_, as.length, rfl, .inr ⟨_, hK ▸ same_t st.sub h1, by rw [r1.len]⟩, KE.val k st (.int _)⟩
      · rename_i a ns h1
        cases e
        exact ⟨_, ns.length, rfl, .inl ⟨_, hK ▸ same_l st.sub h1, by rw [List.length_map]⟩, KE.val k st (.int _)⟩
      · rename_i a xs as h1 r1
        cases e
        exact ⟨_, as.length, rfl, .inl ⟨_, .inl (.inl (st.sub _ _ h1)), by rw [r1.len]⟩, KE.val k st (.int _)⟩
theorem cls_intB : ∃ r, CallR X (.type "int") r ∧ SN G r fIntB := by
  refine ⟨_, call_int1, fun F H σ S T xs ds kd Q st rs e k => ?_⟩
  cases rs with
  | nil => simp [fIntB] at e
  | cons r1 r2 =>
    cases r2 with
    | cons _ _ => cases r1 <;> simp [fIntB] at e
    | nil =>
      cases r1 <;> simp only [fIntB, kz, reduceCtorEq] at e <;> cases e
      · exact .inr ⟨_, rfl, KE.val k st (.int _)⟩
      · exact .inl ⟨_, rfl, KE.val k st (.int _)⟩
theorem cls_min2 (hc : X.calm = true) : ∃ r, CallR X (.builtin "min") r ∧ SN G r fMin2 := by
  refine ⟨_, call_min2 hc, fun F H σ S T xs ds kd Q st rs e k => ?_⟩
  rcases rs with _ | ⟨r1, _ | ⟨r2, _ | ⟨r3, r4⟩⟩⟩
  · simp [fMin2] at e
  · cases r1 <;> simp [fMin2] at e
  · cases r1 <;> cases r2 <;> simp only [fMin2, kz, reduceCtorEq] at e
    cases e; exact ⟨_, _, rfl, KE.val k st (.int _)⟩
  · cases r1 <;> cases r2 <;> simp [fMin2] at e
theorem cls_max2 (hc : X.calm = true) : ∃ r, CallR X (.builtin "max") r ∧ SN G r fMax2 := by
  refine ⟨_, call_max2 hc, fun F H σ S T xs ds kd Q st rs e k => ?_⟩
  rcases rs with _ | ⟨r1, _ | ⟨r2, _ | ⟨r3, r4⟩⟩⟩
  · simp [fMax2] at e
  · cases r1 <;> simp [fMax2] at e
  · cases r1 <;> cases r2 <;> simp only [fMax2, kz, reduceCtorEq] at e
    cases e; exact ⟨_, _, rfl, KE.val k st (.int _)⟩
  · cases r1 <;> cases r2 <;> simp [fMax2] at e
theorem reps_keys {F : Hp} : ∀ {kvs : List (Key × V)} {ks : List D}, ks = kvs.map (fun p => keyD p.1) → Reps G F (kvs.map fun p => kV p.1) ks
  | [], _, h => by subst h; exact .nil
  | (k, v) :: r, _, h => by
    subst h
    refine .cons ?_ (reps_keys rfl)
    cases k with
    | inl i => exact .int i
    | inr z => exact .str z
theorem cls_list (hK : X.K = G.K) (hc : X.calm = true) : ∃ r, CallR X (.type "list") r ∧ SN G r fList := by
  refine ⟨_, call_list_of.or (call_listD hc), fun F H σ S T xs ds kd Q st rs e k => ?_⟩
  rcases rs with _ | ⟨r1, _ | ⟨r2, r3⟩⟩
  · simp [fList] at e
  · cases r1 <;> simp only [fList, kz, reduceCtorEq] at e <;> cases e
    · rename_i a xs as h1 r1
      exact .inl ⟨a, xs, rfl, .inr (hK ▸ same_t st.sub h1), fun p hp => KE.newL k st r1 p hp⟩
    · rename_i a xs as h1 r1
      exact .inl ⟨a, xs, rfl, .inl (.inl (.inl (st.sub _ _ h1))), fun p hp => KE.newL k st r1 p hp⟩
    · rename_i a kvs kds h1 hk r1
      exact .inr ⟨a, kvs, rfl, same_rd st.sub h1, fun p hp => KE.newL k st (reps_keys hk) p hp⟩
  · cases r1 <;> simp [fList] at e
theorem cls_tuple (hK : X.K = G.K) : ∃ r, CallR X (.type "tuple") r ∧ SN G r fTuple := by
  refine ⟨_, call_tuple_of, fun F H σ S T xs ds kd Q st rs e k => ?_⟩
  rcases rs with _ | ⟨r1, _ | ⟨r2, r3⟩⟩
  · simp [fTuple] at e
  · cases r1 <;> simp only [fTuple, kz, reduceCtorEq] at e <;> cases e
    · rename_i a xs as h1 r1
      exact ⟨a, xs, rfl, .inr ⟨hK ▸ same_t st.sub h1, KE.val k st (.tup h1 r1)⟩⟩
    · rename_i a xs as h1 r1
      exact ⟨a, xs, rfl, .inl ⟨.inl (.inl (st.sub _ _ h1)), fun p hp => KE.newT k st r1 p hp⟩⟩
  · cases r1 <;> simp [fTuple] at e
theorem bools_of {F : Hp} : ∀ {xs : List V} {ds : List D} {bs : List Bool}, Reps G F xs ds → boolsOf ds = some bs → xs = bs.map V.bl
  | _, _, _, .nil, h => by cases h; rfl
  | _, _, bs, .cons r s, h => by
    cases r <;> simp only [boolsOf, reduceCtorEq] at h
    rename_i b
    cases q : boolsOf _ with
    | none => rw [q] at h; cases h
    | some l => rw [q] at h; cases h; rw [bools_of s q]; rfl
theorem cls_all (hK : X.K = G.K) (hc : X.calm = true) : ∃ r, CallR X (.builtin "all") r ∧ SN G r fAllB := by
  refine ⟨_, cr_all hc, fun F H σ S T xs ds kd Q st rs e k => ?_⟩
  rcases rs with _ | ⟨r1, _ | ⟨r2, r3⟩⟩
  · simp [fAllB] at e
  · cases r1 <;> simp only [fAllB, kz, reduceCtorEq] at e
    rename_i a xs as h1 r1
    cases q : boolsOf as with
    | none => rw [q] at e; cases e
    | some bs =>
      rw [q] at e
      cases e
      exact ⟨a, bs, rfl, .inl (.inl (by rw [← bools_of r1 q]; exact st.sub _ _ h1)), KE.val k st (.bl _)⟩
  · cases r1 <;> simp [fAllB] at e
/-! ### in, for one sign in a text -/
theorem one_sign {z : PySem.Str} {c : Nat} (h : z.cps.toList = [c]) : z = ⟨#[c]⟩ := by
  cases z with
  | mk a =>
    have : a = #[c] := by
      apply Array.toList_inj.mp
      exact h
    rw [this]
theorem cls_inS : ∃ r, OpR X (compareOp .In) r ∧ S2 G r fInS := by
  refine ⟨_, op_in_sign, fun F H σ S T x y dx dy kd Q st rx ry e k => ?_⟩
  cases rx <;> cases ry <;> try (simp [fInS] at e; done)
  rename_i z w
  cases q : z.cps.toList with
  | nil => rw [q] at e; simp [fInS] at e
  | cons c l =>
    cases l with
    | cons a b => rw [q] at e; simp [fInS] at e
    | nil =>
      rw [q] at e
      simp only [fInS, kz] at e
      cases e
      exact ⟨c, w, by rw [one_sign q], rfl, KE.val k st (.bl _)⟩
theorem cls_notInS : ∃ r, OpR X (compareOp .NotIn) r ∧ S2 G r fNotInS := by
  refine ⟨_, op_notIn_sign, fun F H σ S T x y dx dy kd Q st rx ry e k => ?_⟩
  cases rx <;> cases ry <;> try (simp [fNotInS] at e; done)
  rename_i z w
  cases q : z.cps.toList with
  | nil => rw [q] at e; simp [fNotInS] at e
  | cons c l =>
    cases l with
    | cons a b => rw [q] at e; simp [fNotInS] at e
    | nil =>
      rw [q] at e
      simp only [fNotInS, kz] at e
      cases e
      exact ⟨c, w, by rw [one_sign q], rfl, KE.val k st (.bl _)⟩
end
end TB

namespace TB
open PySem PySem.Spec PyProof.Rows L2
/-! ### what a for walks -/
section
variable {X : Cx} {G : Cfgx} {W : WX} {k : Nat}
theorem walkD_list {F : Hp} {K : PySem.W.Frag} {a : Addr} {vs : List V} {ds : List D} (h : ∀ H, Same F H → SqL K H a vs) (r : Reps G F vs ds) : WalkD G F (Itl K a) ds := by
  refine ⟨YAt vs, ?_, fun i H x H' d e y => ?_⟩
  · rw [← r.len]
    exact walk_list.mono (fun H s => h H s) fun i H x H' hi s y => y
  · obtain ⟨v, h1, h2⟩ := r.get e
    obtain ⟨e1, e2⟩ := y
    rw [h1] at e2
    cases e2
    exact .inl ⟨e1, h2⟩
theorem walkD_tup {F : Hp} {K : PySem.W.Frag} {a : Addr} {vs : List V} {ds : List D} (h : ∀ H, Same F H → SqT K H a vs) (r : Reps G F vs ds) : WalkD G F (Itt K a) ds := by
  refine ⟨YAt vs, ?_, fun i H x H' d e y => ?_⟩
  · rw [← r.len]
    exact walk_tup.mono (fun H s => h H s) fun i H x H' hi s y => y
  · obtain ⟨v, h1, h2⟩ := r.get e
    obtain ⟨e1, e2⟩ := y
    rw [h1] at e2
    cases e2
    exact .inl ⟨e1, h2⟩
theorem walkD_rng {F : Hp} {lo : Int} {n : Nat} : WalkD G F (L2.Itr lo n) (rangeL lo n) := by
  refine ⟨YFn fun i => .int (lo + i), ?_, fun i H x H' d e y => ?_⟩
  · have : (rangeL lo n).length = n := by simp [rangeL]
    rw [this]
    exact walk_range.mono (fun H s => trivial) fun i H x H' hi s y => y
  · obtain ⟨e1, e2⟩ := y
    subst e2
    unfold rangeL at e
    by_cases hi : i < n
    · have : d = .int (lo + (i : Int)) := by
        rw [List.getElem?_map, List.getElem?_range hi] at e
        exact (Option.some.inj e).symm
      subst this
      exact .inl ⟨e1, .int _⟩
    · rw [List.getElem?_eq_none (by simp; omega)] at e; cases e
theorem walkD_str {F : Hp} {z : PySem.Str} : WalkD G F (L2.Its z) (z.cps.toList.map fun c => D.str [c]) := by
  refine ⟨fun i H v H' => H' = H ∧ ∃ c, z.cps[i]? = some c ∧ v = .str ⟨#[c]⟩, ?_, fun i H x H' d e y => ?_⟩
  · have : (z.cps.toList.map fun c => D.str [c]).length = z.cps.size := by simp
    rw [this]
    exact walk_str.mono (fun H s => trivial) fun i H x H' hi s y => y
  · obtain ⟨e1, c, hc, e2⟩ := y
    subst e2
    have : d = .str [c] := by
      rw [List.getElem?_map, Array.getElem?_toList, hc] at e
      exact (Option.some.inj e).symm
    subst this
    exact .inl ⟨e1, .str ⟨#[c]⟩⟩
/-- a list or a tuple, by what comes -/
def iSeq (K : PySem.W.Frag) (tl : TE) : TI := fun σ H R => tl σ H fun x H1 => (∃ a, x = .ref a ∧ (∃ xs, SqL K H1 a xs) ∧ R (Itl K a) H1) ∨ (∃ a, x = .ref a ∧ (∃ xs, SqT K H1 a xs) ∧ R (Itt K a) H1)
theorem pi_seq {tg l : Expr} {tl : TE} (hl : PE X l tl) : PI X tg l (iSeq X.K tl) := by
  refine ⟨fun pins s σ H R I h => ?_⟩
  refine thn (hl.run pins s σ H _ I h) fun v s1 ⟨x, H1, I1, r1, q1⟩ => ?_
  rcases q1 with ⟨a, e, ⟨xs, hq⟩, q⟩ | ⟨a, e, ⟨xs, hq⟩, q⟩
  · subst e
    cases r1
    obtain ⟨its, rv, p, hz⟩ := I1.list hq
    refine wpAny_pyIter_list p.isList ?_
    refine ⟨s1.heap.objs.size, [s1.heap.objs.size], _, _, H1, rfl, I1.kept (t' := s1.toks) fun b o e => Heap.get?_push_of_some _ e, turn_list a _, ⟨_, Heap.get?_push_size _ rfl, rfl, rfl⟩, fun b hb => ?_, q⟩
    have e : b = s1.heap.objs.size := by simpa using hb
    subst e
    exact I1.fpOk (Nat.le_refl _) (I1.hok.fresh (Nat.le_refl _))
  · subst e
    cases r1
    obtain ⟨its, rv, p, hz⟩ := I1.tuple hq
    refine wpAny_pyIter_tuple (show s1.heap.IsTuple a its.toArray from p) ?_
    refine ⟨s1.heap.objs.size, [s1.heap.objs.size], _, _, H1, rfl, I1.kept (t' := s1.toks) fun b o e => Heap.get?_push_of_some _ e, turn_tuple a _, ⟨_, Heap.get?_push_size _ rfl, rfl, rfl⟩, fun b hb => ?_, q⟩
    have e : b = s1.heap.objs.size := by simpa using hb
    subst e
    exact I1.fpOk (Nat.le_refl _) (I1.hok.fresh (Nat.le_refl _))
theorem ti_seq {tg e : Expr} {m : E} (C : Cok X G W k) (h : TrE X G W e m) : TrI X G W tg e (itSeq m) := by
  obtain ⟨t, p, d⟩ := h
  refine ⟨_, pi_seq p, fun F H σ S T R st z => d.dat F H σ S T _ st (PR.bind z fun dd S1 y => ?_)⟩
  intro v F1 H1 T1 s1 st1 r1
  cases r1 with
  | @tup a vs ds hq rs =>
    have y : KI G F H σ T R ds S1 := y
    exact .inr ⟨a, rfl, ⟨vs, C.hK ▸ same_t st1.sub hq⟩, y _ F1 H1 T1 s1 st1 (walkD_tup (fun H s => C.hK ▸ same_t s hq) rs)⟩
  | @lst a vs ds hq rs =>
    have y : KI G F H σ T R ds S1 := y
    exact .inl ⟨a, rfl, ⟨vs, .inl (.inl (st1.sub _ _ hq))⟩, y _ F1 H1 T1 s1 st1 (walkD_list (fun H s => .inl (.inl (s _ _ hq))) rs)⟩
  | _ => exact y.elim
theorem ti_str {tg e : Expr} {m : E} (h : TrE X G W e m) : TrI X G W tg e (itStr m) := by
  obtain ⟨t, p, d⟩ := h
  refine ⟨_, pi_str p, fun F H σ S T R st z => d.dat F H σ S T _ st (PR.bind z fun dd S1 y => ?_)⟩
  intro v F1 H1 T1 s1 st1 r1
  cases r1 with
  | str z =>
    have y : KI G F H σ T R (z.cps.toList.map fun c => D.str [c]) S1 := y
    exact ⟨z, rfl, y _ F1 H1 T1 s1 st1 walkD_str⟩
  | _ => exact y.elim
theorem ti_range1 {tg a : Expr} {m : E} {p pos : Pos} (h : TrE X G W a m) (hm : X.mg "range" = none) (hg : Gl X "range" := by rfl) (hs : starEach [a] X.env = [(false, eval a X.env)] := by rfl) : TrI X G W tg (.Call (.Name "range" p) [a] [] pos) (itRange1 m) := by
  obtain ⟨t, pa, d⟩ := h
  refine ⟨_, pi_range1 hg hm (pa_cons pa pa_nil hs) hs, fun F H σ S T R st z => d.dat F H σ S T _ st (PR.bind z fun dd S1 y => ?_)⟩
  intro v F1 H1 T1 s1 st1 r1
  cases r1 with
  | int j =>
    have y : PR G W F H σ T (KI G F H σ T R) ((if j.natAbs < limN then M.pure (rangeL 0 j.toNat) else fun _ => .bad) S1) := y
    by_cases hj : j.natAbs < limN
    · rw [if_pos hj] at y
      have y : KI G F H σ T R (rangeL 0 j.toNat) S1 := y
      have l : limN = 4611686018427387904 := rfl
      exact ⟨j, rfl, by omega, by omega, y _ F1 H1 T1 s1 st1 walkD_rng⟩
    · rw [if_neg hj] at y; exact y.elim
  | _ => exact y.elim
theorem ti_range2 {tg a b : Expr} {m n : E} {p pos : Pos} (h : TrE X G W a m) (h2 : TrE X G W b n) (hm : X.mg "range" = none) (hg : Gl X "range" := by rfl) (hs : starEach [a, b] X.env = [(false, eval a X.env), (false, eval b X.env)] := by rfl) (hs2 : starEach [b] X.env = [(false, eval b X.env)] := by rfl) : TrI X G W tg (.Call (.Name "range" p) [a, b] [] pos) (itRange2 m n) := by
  obtain ⟨t, pa, d⟩ := h
  obtain ⟨u, pb, d2⟩ := h2
  refine ⟨_, pi_range2 hg hm (pa_cons pa (pa_cons pb pa_nil hs2) (by rw [hs, hs2])) hs hs2, fun F H σ S T R st z => d.dat F H σ S T _ st (PR.bind z fun dd S1 y => ?_)⟩
  intro v F1 H1 T1 s1 st1 r1
  refine d2.dat F1 H1 σ S1 T1 _ st1 (PR.bind (PR.re s1 (fun _ _ h => h) y) fun d2 S2 y => ?_)
  intro v2 F2 H2 T2 s2 st2 r2
  cases r1 with
  | int i =>
    cases r2 with
    | int j =>
      have y : PR G W F1 H1 σ T1 (KI G F H σ T R) ((if i.natAbs < limN ∧ j.natAbs < limN then M.pure (rangeL i (j - i).toNat) else fun _ => .bad) S2) := y
      by_cases hj : i.natAbs < limN ∧ j.natAbs < limN
      · rw [if_pos hj] at y
        have y : KI G F H σ T R (rangeL i (j - i).toNat) S2 := y
        have l : limN = 4611686018427387904 := rfl
        exact ⟨i, j, rfl, by omega, y _ F2 H2 T2 (s1.trans s2) st2 walkD_rng⟩
      · rw [if_neg hj] at y; exact y.elim
    | _ => exact y.elim
  | _ => exact y.elim
end
end TB

namespace TB
open PySem PyProof.Rows L2
/-! ### == -/
mutual
def toPy : D → PyData
  | .non => .none
  | .bl b => .bool b
  | .int i => .int i
  | .str s => .str ⟨s.toArray⟩
  | .lst xs => .list (toPys xs)
  | .tup xs => .tuple (toPys xs)
  | _ => .none
def toPys : List D → List PyData
  | [] => []
  | x :: xs => toPy x :: toPys xs
end
mutual
theorem eqv_py : ∀ (n m : Nat) (x y : D), x.lay n = true → y.lay m = true → PyData.eqv (toPy x) (toPy y) = D.eqv x y := by
  intro n m x y hx hy
  cases x with
  | non => cases y <;> first | (simp [D.lay] at hy; done) | simp [toPy, PyData.eqv, D.eqv]
  | bl a => cases y <;> first | (simp [D.lay] at hy; done) | simp [toPy, PyData.eqv, D.eqv]
  | int i => cases y <;> first | (simp [D.lay] at hy; done) | simp [toPy, PyData.eqv, D.eqv]
  | str s =>
    cases y with
    | str t =>
      simp only [toPy, PyData.eqv, D.eqv]
      by_cases e : s = t
      · subst e; simp
      · rw [beq_eq_false_iff_ne.mpr e]
        refine beq_eq_false_iff_ne.mpr fun q => e ?_
        have : s.toArray = t.toArray := congrArg PySem.Str.cps q
        simpa using this
    | _ => first | (simp [D.lay] at hy; done) | simp [toPy, PyData.eqv, D.eqv]
  | lst xs =>
    cases n with
    | zero => simp [D.lay] at hx
    | succ n =>
      cases y with
      | lst ys =>
        cases m with
        | zero => simp [D.lay] at hy
        | succ m =>
          simp only [toPy, PyData.eqv, D.eqv]
          exact eqv_pys n m xs ys (by simpa [D.lay] using hx) (by simpa [D.lay] using hy)
      | _ => first | (simp [D.lay] at hy; done) | simp [toPy, PyData.eqv, D.eqv]
  | tup xs =>
    cases n with
    | zero => simp [D.lay] at hx
    | succ n =>
      cases y with
      | tup ys =>
        cases m with
        | zero => simp [D.lay] at hy
        | succ m =>
          simp only [toPy, PyData.eqv, D.eqv]
          exact eqv_pys n m xs ys (by simpa [D.lay] using hx) (by simpa [D.lay] using hy)
      | _ => first | (simp [D.lay] at hy; done) | simp [toPy, PyData.eqv, D.eqv]
  | _ => simp [D.lay] at hx
theorem eqv_pys : ∀ (n m : Nat) (xs ys : List D), D.lays n xs = true → D.lays m ys = true → PyData.eqvAll (toPys xs) (toPys ys) = D.eqvs xs ys
  | _, _, [], [], _, _ => rfl
  | _, _, [], _ :: _, _, _ => rfl
  | _, _, _ :: _, [], _, _ => rfl
  | n, m, x :: xs, y :: ys, hx, hy => by
    unfold D.lays at hx hy
    obtain ⟨h1, h2⟩ := Bool.and_eq_true_iff.mp hx
    obtain ⟨h3, h4⟩ := Bool.and_eq_true_iff.mp hy
    simp only [toPys, PyData.eqvAll, D.eqvs]
    rw [eqv_py n m x y h1 h3, eqv_pys n m xs ys h2 h4]
end
mutual
theorem lay_py : ∀ (n : Nat) (x : D), x.lay n = true → (toPy x).canLay0 = true ∧ (toPy x).depth ≤ n := by
  intro n x hx
  cases x with
  | str s =>
    refine ⟨?_, Nat.zero_le _⟩
    simp only [toPy, PyData.canLay0]
    have : s.all (· < 1114112) = true := by cases n <;> simpa [D.lay] using hx
    show (s.toArray.all (· < 0x110000)) = true
    simpa using this
  | lst xs =>
    cases n with
    | zero => simp [D.lay] at hx
    | succ n =>
      obtain ⟨a, b⟩ := lays_py n xs (by simpa [D.lay] using hx)
      exact ⟨by simpa [toPy, PyData.canLay0] using a, by simp only [toPy, PyData.depth]; omega⟩
  | tup xs =>
    cases n with
    | zero => simp [D.lay] at hx
    | succ n =>
      obtain ⟨a, b⟩ := lays_py n xs (by simpa [D.lay] using hx)
      exact ⟨by simpa [toPy, PyData.canLay0] using a, by simp only [toPy, PyData.depth]; omega⟩
  | non => exact ⟨rfl, Nat.zero_le _⟩
  | bl b => exact ⟨rfl, Nat.zero_le _⟩
  | int i => exact ⟨rfl, Nat.zero_le _⟩
  | _ => simp [D.lay] at hx
theorem lays_py : ∀ (n : Nat) (xs : List D), D.lays n xs = true → PyData.canLayAll0 (toPys xs) = true ∧ PyData.depthAll (toPys xs) ≤ n
  | _, [], _ => ⟨rfl, Nat.zero_le _⟩
  | n, x :: xs, h => by
    unfold D.lays at h
    obtain ⟨h1, h2⟩ := Bool.and_eq_true_iff.mp h
    obtain ⟨a, b⟩ := lay_py n x h1
    obtain ⟨c, d⟩ := lays_py n xs h2
    exact ⟨by simp [toPys, PyData.canLayAll0, a, c], by simp only [toPys, PyData.depthAll]; omega⟩
end
section
variable {X : Cx} {G : Cfgx} {W : WX} {k : Nat} {F H : Hp} {σ : L2.St} {S : List Slot} {T : Cnt}
mutual
theorem dp_of : ∀ (n : Nat) (d : D) (v : V), d.lay n = true → Rep G F v d → Dp G.K F v (toPy d)
  | n, d, v, hl, r => by
    cases r with
    | non => exact .non
    | bl b => exact .bl b
    | int i => exact .int i
    | str z =>
      have e : toPy (.str z.cps.toList) = .str z := by simp [toPy]
      rw [e]; exact .str z
    | tup h rs =>
      cases n with
      | zero => simp [D.lay] at hl
      | succ n => exact .tup h (dps_of n _ _ (by simpa [D.lay] using hl) rs)
    | lst h rs =>
      cases n with
      | zero => simp [D.lay] at hl
      | succ n => exact .lst (.inl (.inl h)) (dps_of n _ _ (by simpa [D.lay] using hl) rs)
    | _ => simp [D.lay] at hl
theorem dps_of : ∀ (n : Nat) (ds : List D) (vs : List V), D.lays n ds = true → Reps G F vs ds → DpAll G.K F vs (toPys ds)
  | n, [], vs, hl, r => by cases r; exact .nil
  | n, d :: ds, vs, hl, r => by
    unfold D.lays at hl
    obtain ⟨h1, h2⟩ := Bool.and_eq_true_iff.mp hl
    cases r with
    | cons a b => exact .cons (dp_of n d _ h1 a) (dps_of n ds _ h2 b)
end
theorem flat_lay {d : D} (h : d.flat = true) (hs : ∀ s, d ≠ .str s) : d.lay 0 = true := by
  cases d <;> first | rfl | (cases h; done) | exact absurd rfl (hs _)
theorem eq_core (hK : X.K = G.K) {x y : V} {dx dy : D} (st : St' G F H σ S T) (rx : Rep G F x dx) (ry : Rep G F y dy) (h : eqOk dx dy = true) :
    (L2.scal x y = true ∧ decide (x = y) = D.eqv dx dy) ∨ ∃ d e, Dp X.K H x d ∧ Dp X.K H y e ∧ SeqAt.shaped d = true ∧ SeqAt.shaped e = true ∧ PyData.eqv d e = D.eqv dx dy := by
  have deep : ∀ n m, n ≤ 64 → m ≤ 64 → dx.lay n = true → dy.lay m = true → ∃ d e, Dp X.K H x d ∧ Dp X.K H y e ∧ SeqAt.shaped d = true ∧ SeqAt.shaped e = true ∧ PyData.eqv d e = D.eqv dx dy := by
    intro n m hn hm h1 h2
    have q1 := lay_py n dx h1
    have q2 := lay_py m dy h2
    refine ⟨toPy dx, toPy dy, ?_, ?_, ?_, ?_, eqv_py n m dx dy h1 h2⟩
    · rw [hK]; exact dp_of n dx x h1 (rx.mono st.sub)
    · rw [hK]; exact dp_of m dy y h2 (ry.mono st.sub)
    · exact Bool.and_eq_true_iff.mpr ⟨q1.1, decide_eq_true (by omega)⟩
    · exact Bool.and_eq_true_iff.mpr ⟨q2.1, decide_eq_true (by omega)⟩
  unfold eqOk at h
  rcases Bool.or_eq_true_iff.mp h with h | h
  · obtain ⟨h1, h2⟩ := Bool.and_eq_true_iff.mp h
    cases rx with
    | str z =>
      refine .inl ?_
      cases ry with
      | str w =>
        refine ⟨rfl, ?_⟩
        simp only [D.eqv]
        by_cases e : z = w
        · subst e; simp
        · rw [decide_eq_false (fun q => e (V.str.inj q))]
          refine (beq_eq_false_iff_ne.mpr fun q => e ?_).symm
          cases z; cases w
          have : _ = _ := Array.toList_inj.mp q
          simp at this
          rw [this]
      | non => exact ⟨rfl, rfl⟩
      | bl b => exact ⟨rfl, rfl⟩
      | int i => exact ⟨rfl, rfl⟩
      | _ => cases h2
    | non =>
      cases ry with
      | str w => exact .inl ⟨rfl, rfl⟩
      | non => exact .inl ⟨rfl, rfl⟩
      | bl b => exact .inl ⟨rfl, rfl⟩
      | int i => exact .inl ⟨rfl, rfl⟩
      | _ => cases h2
    | bl a =>
      cases ry with
      | str w => exact .inl ⟨rfl, rfl⟩
      | non => exact .inl ⟨rfl, rfl⟩
      | bl b => exact .inr (deep 0 0 (by omega) (by omega) rfl rfl)
      | int i => exact .inr (deep 0 0 (by omega) (by omega) rfl rfl)
      | _ => cases h2
    | int a =>
      cases ry with
      | str w => exact .inl ⟨rfl, rfl⟩
      | non => exact .inl ⟨rfl, rfl⟩
      | bl b => exact .inr (deep 0 0 (by omega) (by omega) rfl rfl)
      | int i => exact .inr (deep 0 0 (by omega) (by omega) rfl rfl)
      | _ => cases h2
    | _ => cases h1
  · obtain ⟨h1, h2⟩ := Bool.and_eq_true_iff.mp h
    exact .inr (deep 60 60 (by omega) (by omega) h1 h2)
theorem cls_eq (hK : X.K = G.K) (hr : Room k X.A) : ∃ r, OpR X (compareOp .Eq) r ∧ S2 G r fEq := by
  refine ⟨_, orR op_eq (op_eqD hr.units), fun F H σ S T x y dx dy kd Q st rx ry e k => ?_⟩
  unfold fEq kz at e
  split at e
  · rename_i h
    cases e
    rcases eq_core hK st rx ry h with ⟨h1, h2⟩ | ⟨d, e, h1, h2, h3, h4, h5⟩
    · exact .inl ⟨h1, by rw [h2]; exact KE.val k st (.bl _)⟩
    · exact .inr ⟨d, e, h1, h2, h3, h4, by rw [h5]; exact KE.val k st (.bl _)⟩
  · cases e
theorem cls_ne (hK : X.K = G.K) (hr : Room k X.A) : ∃ r, OpR X (compareOp .NotEq) r ∧ S2 G r fNe := by
  refine ⟨_, orR op_ne (op_neD hr.units), fun F H σ S T x y dx dy kd Q st rx ry e k => ?_⟩
  unfold fNe kz at e
  split at e
  · rename_i h
    cases e
    rcases eq_core hK st rx ry h with ⟨h1, h2⟩ | ⟨d, e, h1, h2, h3, h4, h5⟩
    · exact .inl ⟨h1, by rw [h2]; exact KE.val k st (.bl _)⟩
    · exact .inr ⟨d, e, h1, h2, h3, h4, by rw [h5]; exact KE.val k st (.bl _)⟩
  · cases e
/-! ### in, over a list or a tuple of flat data -/
theorem flatV_of {F : Hp} {v : V} {d : D} (r : Rep G F v d) (h : d.flat = true) : flatV v = true := by
  cases r <;> first | rfl | cases h
theorem flats_of {F : Hp} : ∀ {vs : List V} {ds : List D}, Reps G F vs ds → ds.all D.flat = true → vs.all flatV = true
  | _, _, .nil, _ => rfl
  | _, _, .cons r s, h => by
    obtain ⟨h1, h2⟩ := Bool.and_eq_true_iff.mp (show (D.flat _ && List.all _ D.flat) = true from h)
    show (flatV _ && List.all _ flatV) = true
    rw [flatV_of r h1, flats_of s h2]; rfl
theorem eqV_of {F : Hp} {x y : V} {dx dy : D} (rx : Rep G F x dx) (ry : Rep G F y dy) (hx : dx.flat = true) (hy : dy.flat = true) : eqV x y = D.eqv dx dy := by
  cases rx <;> cases ry <;> first | (cases hx; done) | (cases hy; done) | (simp [eqV, D.eqv]; done) | skip
  rename_i z w
  simp only [eqV, D.eqv]
  by_cases e : z = w
  · subst e; simp
  · rw [beq_eq_false_iff_ne.mpr e]
    refine (beq_eq_false_iff_ne.mpr fun q => e ?_).symm
    cases z; cases w
    have : _ = _ := Array.toList_inj.mp q
    simp at this
    rw [this]
theorem inV_of {F : Hp} {x : V} {dx : D} (rx : Rep G F x dx) (hx : dx.flat = true) : ∀ {vs : List V} {ds : List D}, Reps G F vs ds → ds.all D.flat = true → inV x vs = ds.any fun y => D.eqv y dx
  | _, _, .nil, _ => rfl
  | _, _, .cons r s, h => by
    obtain ⟨h1, h2⟩ := Bool.and_eq_true_iff.mp (show (D.flat _ && List.all _ D.flat) = true from h)
    show (eqV _ x || inV x _) = _
    rw [eqV_of r rx h1 hx, inV_of rx hx s h2]; rfl
theorem in_core (hK : X.K = G.K) {x y : V} {dx dy : D} {ys : List D} (st : St' G F H σ S T) (rx : Rep G F x dx) (ry : Rep G F y dy) (e : itemsOf dy = some ys) (h : (dx.flat && ys.all D.flat) = true) :
    ∃ p vs, y = .ref p ∧ (SqL X.K H p vs ∨ SqT X.K H p vs) ∧ flatV x = true ∧ vs.all flatV = true ∧ inV x vs = ys.any fun y => D.eqv y dx := by
  obtain ⟨h1, h2⟩ := Bool.and_eq_true_iff.mp h
  cases ry with
  | tup hs rs => cases e; exact ⟨_, _, rfl, .inr (hK ▸ same_t st.sub hs), flatV_of rx h1, flats_of rs h2, inV_of rx h1 rs h2⟩
  | lst hs rs => cases e; exact ⟨_, _, rfl, .inl (.inl (.inl (st.sub _ _ hs))), flatV_of rx h1, flats_of rs h2, inV_of rx h1 rs h2⟩
  | _ => cases e
theorem cls_in (hK : X.K = G.K) : ∃ r, OpR X (compareOp .In) r ∧ S2 G r fIn := by
  refine ⟨_, op_in_seq, fun F H σ S T x y dx dy kd Q st rx ry e k => ?_⟩
  unfold fIn kz at e
  cases q : itemsOf dy with
  | none => rw [q] at e; cases e
  | some ys =>
    simp only [q] at e
    split at e
    · rename_i h
      cases e
      obtain ⟨p, vs, h1, h2, h3, h4, h5⟩ := in_core hK st rx ry q h
      exact ⟨p, vs, h1, h2, h3, h4, by show Q (.bl (inV x vs)) H; rw [h5]; exact KE.val k st (.bl _)⟩
    · cases e
theorem cls_notIn (hK : X.K = G.K) : ∃ r, OpR X (compareOp .NotIn) r ∧ S2 G r fNotIn := by
  refine ⟨_, op_notIn_seq, fun F H σ S T x y dx dy kd Q st rx ry e k => ?_⟩
  unfold fNotIn kz at e
  cases q : itemsOf dy with
  | none => rw [q] at e; cases e
  | some ys =>
    simp only [q] at e
    split at e
    · rename_i h
      cases e
      obtain ⟨p, vs, h1, h2, h3, h4, h5⟩ := in_core hK st rx ry q h
      exact ⟨p, vs, h1, h2, h3, h4, by show Q (.bl (!inV x vs)) H; rw [h5]; exact KE.val k st (.bl _)⟩
    · cases e
/-! ### isinstance -/
def Ty.nm : Ty → String
  | .int => "int"
  | .bool => "bool"
  | .str => "str"
  | .list => "list"
  | .tuple => "tuple"
def D.nm : D → Option String
  | .non => some "NoneType"
  | .bl _ => some "bool"
  | .int _ => some "int"
  | .str _ => some "str"
  | .lst _ => some "list"
  | .tup _ => some "tuple"
  | _ => none
theorem isTy_kit {t : Ty} {d : D} {b : Bool} (h : d.isTy t = some b) : ∃ n, d.nm = some n ∧ kitB n t.nm = some b := by
  cases t <;> cases d <;> simp only [D.isTy, reduceCtorEq] at h <;> (cases h; exact ⟨_, rfl, by decide +kernel⟩)
theorem tyx_of {F : Hp} {v : V} {d : D} {n : String} (r : Rep G F v d) (h : d.nm = some n) : TyX G.K F v (.type n) := by
  cases r <;> simp only [D.nm, reduceCtorEq] at h <;> cases h
  · exact .base .non
  · exact .base (.bl _)
  · exact .base (.int _)
  · exact .base (.str _)
  · rename_i a vs ds hs rs
    rcases hs with (hs | ⟨o, hs⟩) | ⟨o, its, m, hk, hc, _⟩
    · exact .base (.tup hs)
    · exact .fTuple hs
    · exact .kTuple hk hc
  · rename_i a vs ds hs rs
    exact .base (.lst hs)
theorem tr_isi (t : Ty) {e : Expr} {m : E} {p p2 pos : Pos} {x : PySem.Str} (C : Cok X G W k) (h : TrE X G W e m) (hm : X.mg "isinstance" = none) (hm2 : X.mg x = none) (hx : bootBuiltins x = some (.type t.nm)) (hn : x ≠ "__name__" := by decide) (hd : (x == ("__debug__" : PySem.Str)) = false := by decide)
    (hg : Gl X "isinstance" := by rfl) (hg2 : Gl X x := by rfl) (he : starEach [e, .Name x p2] X.env = (false, eval e X.env) :: starEach [.Name x p2] X.env := by rfl) (he2 : starEach [.Name x p2] X.env = (false, eval (.Name x p2) X.env) :: starEach [] X.env := by rfl)
    (hpl : (backTo pos (starEach [.Name x p2] X.env)).any (·.1) = false := by rfl) : TrE X G W (.Call (.Name "isinstance" p) [e, .Name x p2] [] pos) (eIsi t m) := by
  obtain ⟨u, q, d⟩ := h
  refine ⟨_, pe_callB call_isi hg hm (by decide +kernel) (pa_cons q (pa_cons (pe_bltn (v := .ty t.nm) hg2 hm2 hx rfl hn hd) pa_nil he2) he) (by decide) (by decide) he hpl, fun F H σ S T Q st z => ?_⟩
  refine d.dat F H σ S T _ st (PR.bind z fun dd S1 y => ?_)
  intro v F1 H1 T1 s1 st1 r1
  have y : PR G W F H σ T (KE G F H σ T Q) (ofO (fIsi t dd) S1) := y
  unfold fIsi at y
  cases e1 : dd.isTy t with
  | none => rw [e1] at y; exact y.elim
  | some b =>
    rw [e1] at y
    have y : KE G F H σ T Q (.fz, .bl b) S1 := y
    obtain ⟨n, h1, h2⟩ := isTy_kit e1
    exact ⟨v, .ty t.nm, .type n, .type t.nm, b, rfl, .ty _, C.hK ▸ tyx_of (r1.mono st1.sub) h1, kit_ty h2, KE.val (y.re s1) st1 (.bl b)⟩
end
end TB

namespace TB
open PySem PySem.Spec PyProof.Rows L2
/-! ### slots that own a list -/
section
variable {X : Cx} {G : Cfgx} {W : WX} {k : Nat} {F H : Hp} {σ : L2.St} {S : List Slot} {T : Cnt}
theorem own_at {i : Nat} {kd : Kd} {d : D} (st : St' G F H σ S T) (e : S[i]? = some (some (kd, d))) : ∃ v f, σ[i]? = some (some v) ∧ Own G F H kd v d f ∧ (∀ a, f a ≤ T a) ∧
    ∀ F' H' k' d' f', Same F F' → Same F' H' → (∀ a o, T a ≠ 0 → f a = 0 → H a = some o → H' a = some o) → Own G F' H' k' v d' f' → (∀ a, f' a ≤ f a) → (∀ a, F' a ≠ none → F a ≠ none ∨ (f a ≠ 0 ∧ f' a = 0)) →
      ∃ T', St' G F' H' σ (S.set i (some (k', d'))) T' ∧ ∀ a, T' a + f a = T a + f' a := by
  obtain ⟨v, f, T0, ht, hv, ho, back⟩ := st.sl.at e
  cases ho with
  | @yes k1 v1 d1 f1 o =>
    refine ⟨v1, f, hv, o, fun a => by have := ht a; omega, fun F' H' k' d' f' sF sub kp o' le' nF => ?_⟩
    have e2 : σ.set i (some v1) = σ := by
      obtain ⟨hi, q1⟩ := List.getElem?_eq_some_iff.mp hv
      rw [← q1, List.set_getElem_self]
    have q := back F' H' (some v1) (some (k', d')) f' sF (fun a u n h => kp a u (by have := ht a; omega) (by have := ht a; have := st.le a; omega) h) (.yes o')
    rw [e2] at q
    refine ⟨add f' T0, ⟨st.pi, sub, q, fun a => ?_, fun a n => ?_⟩, fun a => ?_⟩
    · have := le' a; have := ht a; have := st.le a; simp only [add]; omega
    · have := le' a
      have := ht a
      have := st.le a
      rcases nF a n with z | ⟨z1, z2⟩
      · have := st.di a z; simp only [add]; omega
      · simp only [add]; omega
    · have := ht a; simp only [add]; omega
theorem ownL_some {S : List Slot} {i : Nat} {xs : List D} (e : ownL S i = some xs) : S[i]? = some (some (.li .fz, .lst xs)) := by
  unfold ownL at e
  split at e
  · cases e; assumption
  · cases e
theorem ownK_some {S : List Slot} {i : Nat} {xs : List (D × D)} (e : ownK S i = some xs) : S[i]? = some (some (.dK .fz, .dic xs)) := by
  unfold ownK at e
  split at e
  · cases e; assumption
  · cases e
/-- an own list of frozen items: where it stands, how it is rewritten -/
theorem own_list {i : Nat} {xs : List D} (st : St' G F H σ S T) (e : ownL S i = some xs) : ∃ a vs, σ[i]? = some (some (.ref a)) ∧ H a = some (.lst vs) ∧ Reps G F vs xs ∧ F a = none ∧
    ∀ ws ys, Reps G F ws ys → St' G F (upd H a (.lst ws)) σ (S.set i (some (.li .fz, .lst ys))) T ∧ Step F H T F (upd H a (.lst ws)) T := by
  obtain ⟨v, f, hv, o, hf, back⟩ := own_at st (ownL_some e)
  cases o with
  | @li _ a vs ds g h r =>
    obtain ⟨r1, e1⟩ := reps_fz r
    subst e1
    have t1 : T a ≠ 0 := by have := hf a; simp only [add, one, if_true] at this; omega
    have fa : F a = none := Decidable.byContradiction fun n => t1 (st.di a n)
    have sub2 : ∀ o, Same F (upd H a o) := fun o b u q => by
      by_cases z : b = a
      · subst z; rw [fa] at q; cases q
      · rw [upd_ne z]; exact st.sub _ _ q
    refine ⟨a, vs, hv, h, r1, fa, fun ws ys rw' => ?_⟩
    obtain ⟨T', st', ht⟩ := back F (upd H a (.lst ws)) (.li .fz) (.lst ys) (add (one a) nil0) (Same.refl F) (sub2 _) (fun b u n z q => by
      by_cases y : b = a
      · subst y; simp [add, one] at z
      · rw [upd_ne y]; exact q) (.li upd_same (owns_fz rw')) (fun b => Nat.le_refl _) (fun b n => .inl n)
    have eT : T' = T := by funext b; have := ht b; omega
    subst eT
    refine ⟨st', Same.refl F, fun b u z q => ?_, fun b n => .inl n, fun b h n => absurd h n, fun b n => ?_⟩
    · by_cases y : b = a
      · subst y; exact absurd z t1
      · rw [upd_ne y]; exact q
    · by_cases y : b = a
      · subst y; rw [upd_same]; simp
      · rw [upd_ne y]; exact n
/-- an own dict of frozen items -/
theorem own_dict {i : Nat} {xs : List (D × D)} (st : St' G F H σ S T) (e : ownK S i = some xs) : ∃ a kvs, σ[i]? = some (some (.ref a)) ∧ H a = some (.dK kvs) ∧ xs.map (·.1) = kvs.map (fun p => keyD p.1) ∧ Reps G F (kvs.map (·.2)) (xs.map (·.2)) ∧
    ∀ ws ys, ys.map (·.1) = ws.map (fun p => keyD p.1) → Reps G F (ws.map (·.2)) (ys.map (·.2)) → St' G F (upd H a (.dK ws)) σ (S.set i (some (.dK .fz, .dic ys))) T ∧ Step F H T F (upd H a (.dK ws)) T := by
  obtain ⟨v, f, hv, o, hf, back⟩ := own_at st (ownK_some e)
  cases o with
  | @dK _ a kvs kds g h hk r =>
    obtain ⟨r1, e1⟩ := reps_fz r
    subst e1
    have t1 : T a ≠ 0 := by have := hf a; simp only [add, one, if_true] at this; omega
    have fa : F a = none := Decidable.byContradiction fun n => t1 (st.di a n)
    have sub2 : ∀ o, Same F (upd H a o) := fun o b u q => by
      by_cases z : b = a
      · subst z; rw [fa] at q; cases q
      · rw [upd_ne z]; exact st.sub _ _ q
    refine ⟨a, kvs, hv, h, hk, r1, fun ws ys k' rw' => ?_⟩
    obtain ⟨T', st', ht⟩ := back F (upd H a (.dK ws)) (.dK .fz) (.dic ys) (add (one a) nil0) (Same.refl F) (sub2 _) (fun b u n z q => by
      by_cases y : b = a
      · subst y; simp [add, one] at z
      · rw [upd_ne y]; exact q) (.dK upd_same k' (owns_fz rw')) (fun b => Nat.le_refl _) (fun b n => .inl n)
    have eT : T' = T := by funext b; have := ht b; omega
    subst eT
    refine ⟨st', Same.refl F, fun b u z q => ?_, fun b n => .inl n, fun b h n => absurd h n, fun b n => ?_⟩
    · by_cases y : b = a
      · subst y; exact absurd z t1
      · rw [upd_ne y]; exact q
    · by_cases y : b = a
      · subst y; rw [upd_same]; simp
      · rw [upd_ne y]; exact n
/-- a frozen slot, or one that is frozen where it stands -/
theorem own_freeze {i : Nat} {kd : Kd} {d : D} (st : St' G F H σ S T) (e : S[i]? = some (some (kd, d))) : ∃ v F' T', σ[i]? = some (some v) ∧ Rep G F' v d ∧ St' G F' H σ (S.set i (some (.fz, d))) T' ∧ Step F H T F' H T' := by
  obtain ⟨v, f, hv, o, hf, back⟩ := own_at st e
  let F2 : Hp := fun a => if f a = 0 then F a else H a
  have fz : ∀ a, F a ≠ none → f a = 0 := fun a n => by have := hf a; have := st.di a n; omega
  have sf : Same F F2 := fun a u q => by
    show (if f a = 0 then F a else H a) = some u
    rw [if_pos (fz a (by rw [q]; simp))]; exact q
  have sub2 : Same F2 H := fun a u q => by
    have q : (if f a = 0 then F a else H a) = some u := q
    by_cases z : f a = 0
    · rw [if_pos z] at q; exact st.sub _ _ q
    · rw [if_neg z] at q; exact q
  have o2 : Own G F2 F2 kd v d f := o.mono sf fun a u n q => by
    show (if f a = 0 then F a else H a) = some u
    rw [if_neg n]; exact q
  have r2 : Rep G F2 v d := o2.rep (Same.refl F2)
  obtain ⟨T', st', ht⟩ := back F2 H .fz d nil0 sf sub2 (fun a u n z q => q) (.fz r2) (fun a => Nat.zero_le _) (fun a n => by
    by_cases z : f a = 0
    · have n : (if f a = 0 then F a else H a) ≠ none := n
      rw [if_pos z] at n; exact .inl n
    · exact .inr ⟨z, rfl⟩)
  refine ⟨v, F2, T', hv, r2, st', sf, fun a u _ q => q, fun a n => .inl (by have h1 := ht a; have h2 := hf a; have h3 : nil0 a = 0 := rfl; omega), fun a h n => .inr ?_, fun a n => n⟩
  by_cases z : f a = 0
  · have n : (if f a = 0 then F a else H a) ≠ none := n
    rw [if_pos z] at n; exact absurd h n
  · have := hf a; omega
/-! expressions -/
theorem tr_fzV (i : Nat) {x : PySem.Str} {pos : Pos} (hN : X.N[i]? = some x := by rfl) (hv : Vis X.env.scope x := by first | exact Or.inl rfl | exact Or.inr (Or.inl rfl) | exact Or.inr (Or.inr rfl)) (hd : (x == ("__debug__" : PySem.Str)) = false := by decide)
    (hcd : (x == ("__classdict__" : PySem.Str)) = false := by decide) : TrE X G W (.Name x pos) (eFzV i) := by
  refine ⟨_, pe_var hN hv hd hcd, fun F H σ S T Q st p => ?_⟩
  unfold eFzV at p
  cases e : S[i]? with
  | none => rw [e] at p; exact p.elim
  | some s =>
    rw [e] at p
    cases s with
    | none => exact p.elim
    | some kd =>
      obtain ⟨kk, d⟩ := kd
      obtain ⟨v, F', T', hv, r, st', s'⟩ := own_freeze st e
      have p : KE G F H σ T Q (.fz, d) (S.set i (some (.fz, d))) := p
      exact ⟨v, hv, p v F' H T' nil0 (s'.castR fun a => rfl) st' (.fz r) (fun a => st'.le a) fun _ _ => rfl⟩
theorem has_list {α : Type} {K : α → List Slot → Prop} {i : Nat} {f : Unit → M α} (st : St' G F H σ S T) (p : PR G W F H σ T K ((hasL i S).bind f)) : (∃ xs, ownL S i = some xs) ∧ PR G W F H σ T K (f () S) := by
  unfold hasL at p
  cases e : ownL S i with
  | none => rw [e] at p; exact p.elim
  | some xs => rw [e] at p; exact ⟨⟨xs, rfl⟩, p⟩
theorem has_listS {α : Type} {K : α → List Slot → Prop} {i : Nat} {f : Unit → M α} (st : St' G F H σ S T) (p : PRs G W F H T K ((hasL i S).bind f)) : (∃ xs, ownL S i = some xs) ∧ PRs G W F H T K (f () S) := by
  unfold hasL at p
  cases e : ownL S i with
  | none => rw [e] at p; exact p.elim
  | some xs => rw [e] at p; exact ⟨⟨xs, rfl⟩, p⟩
theorem has_dictS {α : Type} {K : α → List Slot → Prop} {i : Nat} {f : Unit → M α} (st : St' G F H σ S T) (p : PRs G W F H T K ((hasK i S).bind f)) : (∃ xs, ownK S i = some xs) ∧ PRs G W F H T K (f () S) := by
  unfold hasK at p
  cases e : ownK S i with
  | none => rw [e] at p; exact p.elim
  | some xs => rw [e] at p; exact ⟨⟨xs, rfl⟩, p⟩
theorem norm_ix {n : Nat} {i : Int} {j : Nat} (h : normIx n i = some j) : ixN n i = some j ∧ j < n ∧ seqIndex? i n = some j := by
  have h2 : ixN n i = some j := h
  obtain ⟨a, b, _, _⟩ := ixN_seq h2
  exact ⟨h2, b, a⟩
theorem tr_setIx (i : Nat) {x : PySem.Str} {e kx : Expr} {m n : E} {p pos' pos : Pos} (h : TrE X G W e m) (h2 : TrE X G W kx n)
    (hN : X.N[i]? = some x := by rfl) (hv : Vis X.env.scope x := by first | exact Or.inl rfl | exact Or.inr (Or.inl rfl) | exact Or.inr (Or.inr rfl)) (hd : (x == ("__debug__" : PySem.Str)) = false := by decide) (hcd : (x == ("__classdict__" : PySem.Str)) = false := by decide)
    (ha : ∀ v, assign (.Subscript (.Name x p) kx pos') X.env v = (do
      let ov ← holding [v] (eval (.Name x p) X.env)
      let iv ← holding [v, ov] (eval kx X.env)
      standAt pos'
      holding [v, ov, iv] (setItem ov iv v)
      release [v, ov, iv] []) := by intro _; rfl)
    (hs : swapsWithSole [.Subscript (.Name x p) kx pos'] e pos.line X.env = pure false := by rfl) (hw : swappedStores [.Subscript (.Name x p) kx pos'] e X.env = pure none := by rfl) (h1 : (assignEach [.Subscript (.Name x p) kx pos'] X.env).map (·.2) = [assign (.Subscript (.Name x p) kx pos') X.env] := by rfl) :
    TrS X G W (.Assign [.Subscript (.Name x p) kx pos'] e pos) (sSetIx i n m) := by
  obtain ⟨t, q, d⟩ := h
  obtain ⟨u, q2, d2⟩ := h2
  refine ⟨_, ps_asg q (pg_sub (pe_var hN hv hd hcd) q2 set_list ha) hs hw h1, fun F H σ S T D st z => d.dat F H σ S T _ st (PRs.bind z fun y S1 z1 => ?_)⟩
  intro v F1 H1 T1 s1 st1 r1
  obtain ⟨⟨xs0, e0⟩, z1⟩ := has_listS st1 (PRs.reS s1 z1)
  obtain ⟨a, vs0, hv0, _⟩ := own_list st1 e0
  refine ⟨_, hv0, ?_⟩
  refine d2.dat F1 H1 σ S1 T1 _ st1 (PRs.bind z1 fun kk S2 z2 => ?_)
  intro w F2 H2 T2 s2 st2 r2
  have z2 := PRs.reS s2 z2
  cases e2 : ownL S2 i with
  | none => rw [e2] at z2; exact z2.elim
  | some xs =>
    rw [e2] at z2
    obtain ⟨a', vs, hv2, hH, rs, _, up⟩ := own_list st2 e2
    rw [hv0] at hv2
    cases hv2
    cases r2 with
    | int j =>
      have z2 : PRs G W F2 H2 T2 (KS G F2 H2 T2 D) (match normIx xs.length j with | some n => .ok .nx (S2.set i (some (.li .fz, .lst (xs.set n y)))) | none => .bad) := z2
      cases e3 : normIx xs.length j with
      | none => rw [e3] at z2; exact z2.elim
      | some nn =>
        rw [e3] at z2
        obtain ⟨n1, n2, n3⟩ := norm_ix e3
        obtain ⟨st3, s3⟩ := up (vs.set nn v) (xs.set nn y) (rs.set (r1.mono s2.sF) nn)
        refine ⟨a, vs, j, nn, rfl, rfl, hH, by rw [rs.len]; exact n1, ?_⟩
        exact (show KS G F2 H2 T2 D .nx _ from z2) σ F2 _ T2 s3 st3
    | _ => exact z2.elim
theorem tr_ixO (i : Nat) {x : PySem.Str} {kx : Expr} {n : E} {p pos : Pos} (h2 : TrE X G W kx n) (hN : X.N[i]? = some x := by rfl) (hv : Vis X.env.scope x := by first | exact Or.inl rfl | exact Or.inr (Or.inl rfl) | exact Or.inr (Or.inr rfl)) (hd : (x == ("__debug__" : PySem.Str)) = false := by decide) (hcd : (x == ("__classdict__" : PySem.Str)) = false := by decide)
    (hp : PlainIx kx := by exact fun _ _ => rfl) : TrE X G W (.Subscript (.Name x p) kx pos) (eIxO i n) := by
  obtain ⟨u, q2, d2⟩ := h2
  refine ⟨_, pe_ix ix_list (pe_var hN hv hd hcd) q2 hp, fun F H σ S T Q st z => ?_⟩
  obtain ⟨⟨xs0, e0⟩, z1⟩ := has_list st z
  obtain ⟨a, vs0, hv0, _⟩ := own_list st e0
  refine ⟨_, hv0, ?_⟩
  refine d2.dat F H σ S T _ st (PR.bind z1 fun kk S2 z2 => ?_)
  intro w F2 H2 T2 s2 st2 r2
  cases e2 : ownL S2 i with
  | none => rw [e2] at z2; exact z2.elim
  | some xs =>
    rw [e2] at z2
    obtain ⟨a', vs, hv2, hH, rs, _, up⟩ := own_list st2 e2
    rw [hv0] at hv2
    cases hv2
    cases r2 with
    | int j =>
      have z2 : PR G W F H σ T (KE G F H σ T Q) (match (normIx xs.length j).bind fun n => xs[n]? with | some d => .ok (.fz, d) S2 | none => .bad) := z2
      cases e3 : normIx xs.length j with
      | none => rw [e3] at z2; exact z2.elim
      | some nn =>
        rw [e3] at z2
        cases e4 : xs[nn]? with
        | none => simp only [Option.bind_some, e4] at z2; exact z2.elim
        | some d =>
          simp only [Option.bind_some, e4] at z2
          have z2 : KE G F H σ T Q (.fz, d) S2 := z2
          obtain ⟨v, hv3, rv⟩ := rs.get e4
          exact ⟨a, vs, j, v, rfl, rfl, .inl (.inl hH), atI_of (by rw [rs.len]; exact e3) hv3, KE.val (KE.re s2 z2) st2 rv⟩
    | _ => exact z2.elim
/-- what a method of a list does -/
def MthOk (G : Cfgx) (r : V → List V → Hp → VK → Prop) (f : List D → List D → Option (D × List D)) : Prop := ∀ F H a vs xs us ds d ys Q, H a = some (.lst vs) → Reps G F vs xs → Reps G F us ds → f xs ds = some (d, ys) → (∀ v ws, Rep G F v d → Reps G F ws ys → Q v (upd H a (.lst ws))) → r (.ref a) us H Q
theorem tr_mth (i : Nat) {x name : PySem.Str} {id : String} {r : V → List V → Hp → VK → Prop} {f : List D → List D → Option (D × List D)} {e : Expr} {es : List Expr} {ms : List E} {p apos cpos : Pos} (slot : PySem.Slot "list" name id) (hty : typeOf (.builtin id) = pure (.type "method_descriptor")) (hm : MtR X id r) (ok : MthOk G r f) (h : TrA X G W (e :: es) ms)
    (hN : X.N[i]? = some x := by rfl) (hv : Vis X.env.scope x := by first | exact Or.inl rfl | exact Or.inr (Or.inl rfl) | exact Or.inr (Or.inr rfl)) (hd : (x == ("__debug__" : PySem.Str)) = false := by decide) (hcd : (x == ("__classdict__" : PySem.Str)) = false := by decide)
    (hbase : attributeBase (.Name x p) name X.env (eval (.Name x p) X.env) = eval (.Name x p) X.env := by rfl)
    (hfew : ((backTo cpos (starEach (e :: es) X.env)).all (fun x => !x.1) && (backToKw cpos (keywordEach [] X.env)).all (fun x => x.1.isSome)
      && decide ((e :: es).length + ([] : List Keyword).length + (if ([] : List Keyword).isEmpty then 0 else 1) < 30)) = true := by rfl)
    (hline : (apos.endLine == cpos.line) = true := by rfl) (hs : starEach (e :: es) X.env = (false, eval e X.env) :: starEach es X.env := by rfl) (hplain : (backTo cpos (starEach es X.env)).any (·.1) = false := by rfl) :
    TrE X G W (.Call (.Attribute (.Name x p) name apos) (e :: es) [] cpos) (eMth f i ms) := by
  obtain ⟨u, q2, d2⟩ := h
  refine ⟨_, pe_bm F.plainAttrs_list slot hty hm (pe_var hN hv hd hcd) q2 hbase hfew hline hs hplain, fun F H σ S T Q st z => ?_⟩
  obtain ⟨⟨xs0, e0⟩, z1⟩ := has_list st z
  obtain ⟨a, vs0, hv0, hH0, _⟩ := own_list st e0
  refine ⟨_, hv0, .inl ⟨rfl, vs0, .inl (.inl hH0)⟩, ?_⟩
  refine d2 F H σ S T _ st (PR.bind z1 fun ds S2 z2 => ?_)
  intro us F2 H2 T2 s2 st2 r2
  cases e2 : ownL S2 i with
  | none => rw [e2] at z2; exact z2.elim
  | some xs =>
    rw [e2] at z2
    obtain ⟨a', vs, hv2, hH, rs, _, up⟩ := own_list st2 e2
    rw [hv0] at hv2
    cases hv2
    have z2 : PR G W F H σ T (KE G F H σ T Q) (match f xs ds with | some (r, ys) => .ok (.fz, r) (S2.set i (some (.li .fz, .lst ys))) | none => .bad) := z2
    cases e3 : f xs ds with
    | none => rw [e3] at z2; exact z2.elim
    | some dy =>
      obtain ⟨d, ys⟩ := dy
      rw [e3] at z2
      have z2 : KE G F H σ T Q (.fz, d) (S2.set i (some (.li .fz, .lst ys))) := z2
      refine ok F2 H2 a vs xs us ds d ys Q hH rs r2 e3 fun v ws rv rws => ?_
      obtain ⟨st3, s3⟩ := up ws ys rws
      exact z2 v F2 _ T2 nil0 ((s2.trans s3).castR fun a => rfl) st3 (.fz rv) (fun a => st3.le a) fun _ _ => rfl
theorem mo_append : MthOk G rAppend fAppend := by
  intro F H a vs xs us ds d ys Q hH rs ru e q
  cases ru with
  | nil => cases e
  | cons r1 r2 =>
    cases r2 with
    | cons a b => cases e
    | nil =>
      have e : (if xs.length < sizeMax then some (D.non, xs ++ [_]) else none) = some (d, ys) := e
      split at e
      · rename_i hz
        cases e
        have l : sizeLine = sizeMax := rfl
        exact ⟨a, vs, _, rfl, rfl, hH, by rw [rs.len, l]; exact hz, q _ _ .non (rs.app (.cons r1 .nil))⟩
      · cases e
theorem mo_popAt : MthOk G rPopAt fPopAt := by
  intro F H a vs xs us ds d ys Q hH rs ru e q
  cases ru with
  | nil => cases e
  | cons r1 r2 =>
    cases r2 with
    | cons a b => cases r1 <;> cases e
    | nil =>
      cases r1 with
      | int i =>
        have e : (if i.natAbs < limN then (normIx xs.length i).bind fun n => xs[n]?.map fun d => (d, xs.eraseIdx n) else none) = some (d, ys) := e
        split at e
        · rename_i hz
          cases e3 : normIx xs.length i with
          | none => rw [e3] at e; cases e
          | some n =>
            rw [e3] at e
            cases e4 : xs[n]? with
            | none => simp only [Option.bind_some, e4] at e; cases e
            | some dd =>
              simp only [Option.bind_some, e4] at e
              cases e
              obtain ⟨v, hv, rv⟩ := rs.get e4
              obtain ⟨n1, n2, n3⟩ := norm_ix e3
              have l : limN = 4611686018427387904 := rfl
              exact ⟨a, vs, i, n, v, rfl, rfl, hH, by omega, by omega, by rw [rs.len]; exact n3, hv, q _ _ rv (rs.erase n)⟩
        · cases e
      | _ => cases e
theorem mo_insert : MthOk G (fun x vs H Q => ∃ (l : Addr) (xs : List V) (i : Int) (y : V), x = .ref l ∧ vs = [.int i, y] ∧ H l = some (.lst xs) ∧ xs.length < sizeLine ∧ 0 ≤ i ∧ i < 2 ^ 63 ∧ Q .non (upd H l (.lst (xs.take i.toNat ++ [y] ++ xs.drop i.toNat)))) fInsert := by
  intro F H a vs xs us ds d ys Q hH rs ru e q
  cases ru with
  | nil => cases e
  | cons r1 r2 =>
    cases r2 with
    | nil => cases r1 <;> cases e
    | cons r2 r3 =>
      cases r3 with
      | cons _ _ => cases r1 <;> cases e
      | nil =>
        cases r1 with
        | int i =>
          have e : (if 0 ≤ i ∧ i.natAbs < limN ∧ xs.length < sizeMax then some (D.non, xs.take i.toNat ++ [_] ++ xs.drop i.toNat) else none) = some (d, ys) := e
          split at e
          · rename_i hz
            cases e
            have l : limN = 4611686018427387904 := rfl
            have l2 : sizeLine = sizeMax := rfl
            exact ⟨a, vs, i, _, rfl, rfl, hH, by rw [rs.len, l2]; exact hz.2.2, hz.1, by omega, q _ _ .non (((rs.take _).app (.cons r2 .nil)).app (rs.drop _))⟩
          · cases e
        | _ => cases e
theorem tr_append (i : Nat) {x : PySem.Str} {e : Expr} {m : E} {p apos cpos : Pos} (h : TrE X G W e m) (hs : starEach [e] X.env = (false, eval e X.env) :: starEach [] X.env := by rfl)
    (hN : X.N[i]? = some x := by rfl) (hv : Vis X.env.scope x := by first | exact Or.inl rfl | exact Or.inr (Or.inl rfl) | exact Or.inr (Or.inr rfl)) (hd : (x == ("__debug__" : PySem.Str)) = false := by decide) (hcd : (x == ("__classdict__" : PySem.Str)) = false := by decide)
    (hbase : attributeBase (.Name x p) "append" X.env (eval (.Name x p) X.env) = eval (.Name x p) X.env := by rfl)
    (hfew : ((backTo cpos (starEach [e] X.env)).all (fun x => !x.1) && (backToKw cpos (keywordEach [] X.env)).all (fun x => x.1.isSome)
      && decide ([e].length + ([] : List Keyword).length + (if ([] : List Keyword).isEmpty then 0 else 1) < 30)) = true := by rfl)
    (hline : (apos.endLine == cpos.line) = true := by rfl) (hplain : (backTo cpos (starEach [] X.env)).any (·.1) = false := by rfl) :
    TrE X G W (.Call (.Attribute (.Name x p) "append" apos) [e] [] cpos) (eMth fAppend i [m]) :=
  tr_mth i F.slot_list_append F.type_list_append mt_append mo_append (tra_cons h tra_nil hs) hN hv hd hcd hbase hfew hline hs hplain
end
end TB

namespace TB
open PySem PySem.Spec PyProof.Rows L2
section
variable {X : Cx} {G : Cfgx} {W : WX} {k : Nat}
/-! ### a target filled -/
theorem tr_put {tg e : Expr} {g : Tg} {m : E} {pos : Pos} (h : TrE X G W e m) (hg : TrG X G tg g) (hs : swapsWithSole [tg] e pos.line X.env = pure false := by rfl) (hw : swappedStores [tg] e X.env = pure none := by rfl)
    (h1 : (assignEach [tg] X.env).map (·.2) = [assign tg X.env] := by rfl) : TrS X G W (.Assign [tg] e pos) (sPut g m) := by
  obtain ⟨t, p, d⟩ := h
  obtain ⟨u, q, dg⟩ := hg
  refine ⟨_, ps_asg p q hs hw h1, fun F H σ S T D st z => d.dat F H σ S T _ st (PRs.bind z fun y S1 z1 => ?_)⟩
  intro v F1 H1 T1 s1 st1 r1
  cases e1 : g.put y S1 with
  | none => rw [e1] at z1; exact z1.elim
  | some S2 =>
    rw [e1] at z1
    exact dg F1 H1 σ S1 T1 v y S2 _ st1 r1 e1 fun σ2 T2 st2 l2 _ => (show KS G F H T D .nx S2 from z1) σ2 F1 H1 T2 (s1.less l2) st2
/-! ### slices -/
def DenO (G : Cfgx) (W : WX) (t : TO) (m : M (Option Int)) : Prop := ∀ F H σ S T Q, St' G F H σ S T → PR G W F H σ T (fun o S' => ∀ F' H' T', Step F H T F' H' T' → St' G F' H' σ S' T' → Q o H') (m S) → t σ H Q
def TrO (X : Cx) (G : Cfgx) (W : WX) (e : Option Expr) (m : Option E) : Prop := ∃ t, PO X e t ∧ DenO G W t (eOpt m)
theorem to_none : TrO X G W none none := ⟨_, po_none, fun F H σ S T Q st p => (show ∀ F' H' T', Step F H T F' H' T' → St' G F' H' σ S T' → Q none H' from p) F H T (Step.refl F H T) st⟩
theorem to_some {e : Expr} {m : E} (h : TrE X G W e m) : TrO X G W (some e) (some m) := by
  obtain ⟨t, p, d⟩ := h
  refine ⟨_, po_some p, fun F H σ S T Q st z => d.dat F H σ S T _ st (PR.bind z fun dd S1 y => ?_)⟩
  intro v F1 H1 T1 s1 st1 r1
  cases r1 with
  | int i => exact ⟨i, rfl, (show ∀ F' H' T', Step F H T F' H' T' → St' G F' H' σ S1 T' → Q (some i) H' from y) F1 H1 T1 s1 st1⟩
  | _ => exact y.elim
theorem cutL_all {α : Type} {xs : List α} {lo hi : Option Int} (h1 : ixS xs.length 0 lo = 0) (h2 : ixS xs.length xs.length hi = xs.length) : cutL xs lo hi = xs := by
  unfold cutL
  rw [h1, h2]
  simp
theorem Reps.cut {F : Hp} {vs : List V} {ds : List D} (r : Reps G F vs ds) (lo hi : Option Int) : Reps G F (cutV vs lo hi) (cutL ds lo hi) := by
  have e : cutV vs lo hi = (vs.drop (ixS vs.length 0 lo)).take (ixS vs.length vs.length hi - ixS vs.length 0 lo) := by
    cases lo <;> cases hi <;> rfl
  rw [e]
  unfold cutL
  rw [r.len]
  exact (r.drop _).take _
theorem tr_sl {e : Expr} {lo hi : Option Expr} {a : E} {ml mh : Option E} {p2 pos : Pos} (C : Cok X G W k) (h : TrE X G W e a) (hl : TrO X G W lo ml) (hh : TrO X G W hi mh) : TrE X G W (.Subscript e (.Slice lo hi none p2) pos) (eSl a ml mh) := by
  obtain ⟨t, p, d⟩ := h
  obtain ⟨u, q, d2⟩ := hl
  obtain ⟨w, r, d3⟩ := hh
  refine ⟨_, pe_slice (sl_list.or (sl_tupA.or sl_str)) p q r, fun F H σ S T Q st z => d.dat F H σ S T _ st (PR.bind z fun x S1 y => ?_)⟩
  intro v F1 H1 T1 s1 st1 r1
  refine d2 F1 H1 σ S1 T1 _ st1 (PR.bind (PR.re s1 (fun _ _ h => h) y) fun l S2 y2 => ?_)
  intro F2 H2 T2 s2 st2
  refine d3 F2 H2 σ S2 T2 _ st2 (PR.bind (PR.re s2 (fun _ _ h => h) y2) fun h S3 y3 => ?_)
  intro F3 H3 T3 s3 st3
  have s13 := (s1.trans s2).trans s3
  have r3 := (r1.mono s2.sF).mono s3.sF
  cases e1 : fSl x l h with
  | none => rw [e1] at y3; exact y3.elim
  | some kd =>
    rw [e1] at y3
    have y3 : KE G F H σ T Q kd S3 := y3
    have y3 := y3.re s13
    have ixe : ∀ (n d : Nat) (o : Option Int), HT.sIx n d o = ixS n d o := fun n d o => by cases o <;> rfl
    cases r3 with
    | @lst b vs ds hb rs =>
      cases e1
      exact .inl ⟨b, vs, rfl, .inl (.inl (st3.sub _ _ hb)), fun p hp => KE.newL y3 st3 (rs.cut l h) p hp⟩
    | @tup b vs ds hb rs =>
      cases e1
      refine .inr (.inl ⟨b, vs, rfl, C.hK ▸ same_t st3.sub hb, fun hw => ?_, fun hw p hp => KE.newT y3 st3 (rs.cut l h) p hp⟩)
      have e2 : cutL ds l h = ds := by
        rw [ixe, ixe] at hw
        exact cutL_all (by rw [← rs.len]; exact hw.1) (by rw [← rs.len]; exact hw.2)
      rw [e2] at y3
      exact KE.val y3 st3 (.tup hb rs)
    | str z =>
      have e1 : (if z.cps.toList.length ≤ sizeMax then kz (.str (cutL z.cps.toList l h)) else none) = some kd := e1
      split at e1
      · rename_i hz
        cases e1
        refine .inr (.inr ⟨z, rfl, by rw [str_len]; exact hz, KE.val y3 st3 ?_⟩)
        have e4 : (cutS z l h).cps.toList = cutL z.cps.toList l h := by
          unfold cutS
          unfold cutL
          rw [ixe, ixe, str_len]
        rw [← e4]
        exact .str _
      · cases e1
    | _ => cases e1
theorem tr_rev {e : Expr} {a : E} {k : Nat} {p1 p2 p3 pos : Pos} (h : TrE X G W e a) : TrE X G W (.Subscript e (.Slice none none (some (.UnaryOp .USub (.Constant (.int 1) k p1) p2)) p3) pos) (eUn fRev a) := by
  obtain ⟨t, p, d⟩ := h
  refine ⟨_, pe_revL p, fun F H σ S T Q st z => d.dat F H σ S T _ st (PR.bind z fun x S1 y => ?_)⟩
  intro v F1 H1 T1 s1 st1 r1
  cases r1 with
  | @lst b vs ds hb rs =>
    have y : KE G F H σ T Q (.li .fz, .lst ds.reverse) S1 := y
    exact ⟨b, vs, rfl, .inl (.inl (st1.sub _ _ hb)), fun p hp => KE.newL (y.re s1) st1 rs.rev p hp⟩
  | _ => exact y.elim
/-! ### sorted -/
theorem ints_of {F : Hp} : ∀ {vs : List V} {ds : List D} {is : List Int}, Reps G F vs ds → intsOf ds = some is → vs = is.map V.int
  | _, _, _, .nil, h => by cases h; rfl
  | _, _, is, .cons r s, h => by
    cases r <;> simp only [intsOf, reduceCtorEq] at h
    rename_i b
    cases q : intsOf _ with
    | none => rw [q] at h; cases h
    | some js =>
      rw [q] at h
      cases h
      rw [ints_of s q]; rfl
theorem strs_of {F : Hp} : ∀ {vs : List V} {ds : List D} {is : List (List Nat)}, Reps G F vs ds → strsOf ds = some is → ∃ zs : List PySem.Str, vs = zs.map V.str ∧ zs.map (fun z => z.cps.toList) = is
  | _, _, _, .nil, h => by cases h; exact ⟨[], rfl, rfl⟩
  | _, _, is, .cons r s, h => by
    cases r <;> simp only [strsOf, reduceCtorEq] at h
    rename_i z
    cases q : strsOf _ with
    | none => rw [q] at h; cases h
    | some js =>
      rw [q] at h
      cases h
      obtain ⟨zs, e1, e2⟩ := strs_of s q
      exact ⟨z :: zs, by rw [e1]; rfl, by rw [← e2]; rfl⟩
theorem reps_ints {F : Hp} : ∀ is : List Int, Reps G F (is.map V.int) (is.map D.int)
  | [] => .nil
  | i :: is => .cons (.int i) (reps_ints is)
theorem reps_strs {F : Hp} : ∀ zs : List PySem.Str, Reps G F (zs.map V.str) ((zs.map fun z => z.cps.toList).map D.str)
  | [] => .nil
  | z :: zs => .cons (.str z) (reps_strs zs)
theorem sortI_eq {is js : List Int} (hp : js.Perm is) (hs : js.Pairwise (· ≤ ·)) : js = sortI is := by
  unfold sortI
  refine List.Perm.eq_of_pairwise (le := (· ≤ ·)) (fun a b _ _ h1 h2 => Int.le_antisymm h1 h2) hs ?_ (hp.trans (List.mergeSort_perm _ _).symm)
  have := List.pairwise_mergeSort (le := fun a b : Int => decide (a ≤ b)) (fun a b c h1 h2 => by simp at *; omega) (fun a b => by simp; omega) is
  exact this.imp fun h => by simpa using h
theorem ltCps_eq : ∀ a b : List Nat, ltCps a b = decide (a < b)
  | [], [] => rfl
  | [], _ :: _ => by simp [ltCps]
  | _ :: _, [] => by simp [ltCps]
  | a :: r, b :: t => by
    rw [show ltCps (a :: r) (b :: t) = (decide (a < b) || (a == b && ltCps r t)) from rfl, ltCps_eq r t]
    by_cases h1 : a < b
    · simp [h1, List.cons_lt_cons_iff]
    · by_cases h2 : a = b
      · subst h2; simp [List.cons_lt_cons_iff]
      · simp [h1, h2, List.cons_lt_cons_iff]
theorem rising_pair : ∀ {zs : List PySem.Str} {p : PySem.Str}, risingS p zs = true → ((p :: zs).map fun z => z.cps.toList).Pairwise (· ≤ ·)
  | [], p, _ => by simp
  | z :: zs, p, h => by
    unfold risingS at h
    obtain ⟨h1, h2⟩ := Bool.and_eq_true_iff.mp h
    have ih := rising_pair h2
    have h3 : p.cps.toList ≤ z.cps.toList := by
      rw [ltCps_eq] at h1
      exact List.not_lt.mp (by simpa using h1)
    rw [List.map_cons, List.pairwise_cons]
    refine ⟨fun y hy => ?_, ih⟩
    rw [List.map_cons] at hy
    rcases List.mem_cons.mp hy with e | e
    · rw [e]; exact h3
    · rw [List.map_cons, List.pairwise_cons] at ih
      exact List.le_trans h3 (ih.1 y e)
theorem sortT_eq {is js : List (List Nat)} (hp : js.Perm is) (hs : js.Pairwise (· ≤ ·)) : js = sortT is := by
  unfold sortT
  refine List.Perm.eq_of_pairwise (le := (· ≤ ·)) (fun a b _ _ h1 h2 => List.le_antisymm h1 h2) hs ?_ (hp.trans (List.mergeSort_perm _ _).symm)
  have e : (fun a b : List Nat => !decide (b < a)) = fun a b => decide (a ≤ b) := by
    funext a b
    rw [← decide_not]
    exact decide_eq_decide.mpr List.not_lt
  rw [e]
  have := List.pairwise_mergeSort (le := fun a b : List Nat => decide (a ≤ b)) (fun a b c h1 h2 => by simp at *; exact List.le_trans h1 h2) (fun a b => by simp; exact List.le_total a b) is
  exact this.imp fun h => by simpa using h
theorem cls_sorted (hK : X.K = G.K) : ∃ r, CallR X (.builtin "sorted") r ∧ SN G r fSorted := by
  refine ⟨_, cr_sortedI.or cr_sortedS, fun F H σ S T xs ds kd Q st rs e k => ?_⟩
  rcases rs with _ | ⟨r1, _ | ⟨r2, r3⟩⟩
  · simp [fSorted] at e
  · cases r1 <;> simp only [fSorted, reduceCtorEq] at e
    rename_i a xs as h1 r1
    cases e1 : intsOf as with
    | some is =>
      rw [e1] at e
      cases e
      have ex := ints_of r1 e1
      subst ex
      refine .inl ⟨a, is, rfl, .inl (.inl (st.sub _ _ h1)), fun js p hp hs hn => ?_⟩
      rw [sortI_eq hp hs]
      exact KE.newL k st (reps_ints _) p hn
    | none =>
      rw [e1] at e
      cases e2 : strsOf as with
      | none => rw [e2] at e; cases e
      | some ss =>
        rw [e2] at e
        have e : (if ss.length < 64 then some ((.li .fz, .lst ((sortT ss).map D.str)) : KD) else none) = some kd := e
        split at e
        · rename_i hz
          cases e
          obtain ⟨zs, ex, ez⟩ := strs_of r1 e2
          subst ex ez
          refine .inr ⟨a, zs, rfl, .inl (.inl (st.sub _ _ h1)), by simpa using hz, fun ys p hp hs hn => ?_⟩
          have e5 : (ys.map fun z => z.cps.toList) = sortT (zs.map fun z => z.cps.toList) := sortT_eq (hp.map _) (by
            cases ys with
            | nil => simp
            | cons y ys => exact rising_pair hs)
          rw [← e5] at k
          exact KE.newL k st (reps_strs _) p hn
        · cases e
  · cases r1 <;> simp [fSorted] at e
/-! ### join -/
theorem joinD_eq (s : List Nat) : ∀ ps, TL.joinL s ps = joinD s ps
  | [] => rfl
  | [_] => rfl
  | p :: q :: r => by
    show p ++ (s ++ TL.joinL s (q :: r)) = p ++ (s ++ joinD s (q :: r))
    rw [joinD_eq s (q :: r)]
theorem tr_join {o e : Expr} {a b : E} {apos pos : Pos} (ho : TrE X G W o a) (he : TrE X G W e b) (hs : starEach [e] X.env = [(false, eval e X.env)] := by rfl) (hbase : attributeBase o "join" X.env (eval o X.env) = eval o X.env := by rfl) (hline : (apos.endLine == pos.line) = true := by rfl) :
    TrE X G W (.Call (.Attribute o "join" apos) [e] [] pos) (eJoin a b) := by
  obtain ⟨t, p, d⟩ := ho
  obtain ⟨u, q, d2⟩ := he
  refine ⟨_, pe_join p q hs hbase hline, fun F H σ S T Q st z => d.dat F H σ S T _ st (PR.bind z fun x S1 y => ?_)⟩
  intro v F1 H1 T1 s1 st1 r1
  cases r1 with
  | str z =>
    refine ⟨⟨z, rfl⟩, ?_⟩
    have y : PR G W F H σ T (KE G F H σ T Q) ((eDat b S1).bind fun y => ofO (fJoin z.cps.toList y)) := y
    refine d2.dat F1 H1 σ S1 T1 _ st1 (PR.bind (PR.re s1 (fun _ _ h => h) y) fun l S2 y2 => ?_)
    intro v2 F2 H2 T2 s2 st2 r2
    cases r2 with
    | @lst c vs ds hc rs =>
      cases e2 : strsOf ds with
      | none =>
        have : fJoin z.cps.toList (.lst ds) = none := by show (strsOf ds).bind _ = none; rw [e2]; rfl
        rw [this] at y2; exact y2.elim
      | some ss =>
        obtain ⟨zs, ex, ez⟩ := strs_of rs e2
        subst ex ez
        have e3 : fJoin z.cps.toList (.lst ds) = if ((zs.map fun z => z.cps.toList).map (·.length)).sum + (zs.map fun z => z.cps.toList).length * z.cps.toList.length ≤ sizeMax then kz (.str (joinD z.cps.toList (zs.map fun z => z.cps.toList))) else none := by
          show (strsOf ds).bind _ = _; rw [e2]; rfl
        rw [e3] at y2
        split at y2
        · rename_i hz
          have y2 : KE G F H σ T Q (.fz, .str (joinD z.cps.toList (zs.map fun z => z.cps.toList))) S2 := y2
          refine ⟨z, c, zs, rfl, rfl, .inl (.inl (.inl (st2.sub _ _ hc))), ?_, ?_⟩
          · have e4 : (zs.map (·.length)) = ((zs.map fun z => z.cps.toList).map (·.length)) := by
              rw [List.map_map]
              exact List.map_congr_left fun z _ => str_len z
            rw [e4, str_len z]
            have hz2 := hz
            rw [List.length_map (as := zs)] at hz2
            exact hz2
          · have e5 : (Txt.join z zs).cps.toList = joinD z.cps.toList (zs.map fun z => z.cps.toList) := by
              rw [TL.join_eq]
              exact (TL.tl_join z zs).trans (joinD_eq _ _)
            rw [← e5] at y2
            exact KE.val (KE.re (s1.trans s2) y2) st2 (.str _)
        · exact y2.elim
    | _ => exact y2.elim
  | _ => exact y.elim
/-! ### a look that gives a new list -/
theorem flat_reps {F : Hp} (F' : Hp) : ∀ {vs : List V} {ds : List D}, ds.all D.flat = true → Reps G F vs ds → Reps G F' vs ds
  | _, _, _, .nil => .nil
  | _, _, h, .cons r s => by
    obtain ⟨h1, h2⟩ := Bool.and_eq_true_iff.mp (show (D.flat _ && List.all _ D.flat) = true from h)
    exact .cons (flat_rep h1 r F') (flat_reps F' h2 s)
theorem tr_peekL {e : Expr} {m : E} {W' : WX} (h : TrE X G W' e m) : TrE X G W e (ePeekL m) := by
  obtain ⟨t, hp, hd⟩ := h
  refine ⟨t, hp, fun F H σ S T Q st p => ?_⟩
  have st2 : St' G H H σ (S.map frz) nil0 := ⟨st.pi, Same.refl H, slots_frz st.sub st.sl, fun _ => Nat.zero_le _, fun _ _ => rfl⟩
  unfold ePeekL at p
  refine hd H H σ (S.map frz) nil0 Q st2 ?_
  cases e : m (S.map frz) with
  | exc x S => rw [e] at p; exact p.elim
  | bad => rw [e] at p; exact p.elim
  | ok kd S1 =>
    rw [e] at p
    obtain ⟨kk, d⟩ := kd
    split at p
    · rename_i ds S2 e3
      cases e3
      split at p
      · rename_i fl
        have p : KE G F H σ T Q (.li .fz, .lst ds) S := p
        intro v F' H' T' f s' st' o le di
        have sHH : Same H H' := fun a u e => s'.fr a u rfl e
        cases o with
        | @li _ a vs _ g hh r =>
          obtain ⟨r1, e1⟩ := reps_fz r
          subst e1
          have hn : ∀ b, add (one a) nil0 b ≠ 0 → H b = none := fun b n => (s'.nT b (by simp only [add] at *; omega)).resolve_left fun z => z rfl
          have ha : H a = none := hn a (by simp [add, one])
          have fa : F a = none := st.sub.free ha
          have tz : ∀ b, add (one a) nil0 b ≠ 0 → T b = 0 := fun b n => Decidable.byContradiction fun z => st.sl.there b z (hn b n)
          refine p (.ref a) F H' T (add (one a) nil0) ⟨Same.refl F, fun a u _ e => sHH a u e, fun b n => ?_, fun a h n => absurd h n, s'.tl⟩ ⟨st.pi, fun a u e => sHH _ _ (st.sub _ _ e), st.sl.mono (Same.refl F) fun a u _ e => sHH a u e, st.le, st.di⟩ (.li hh (owns_fz (flat_reps F fl r1))) (fun b => ?_) (fun b n => ?_)
          · by_cases z : T b = 0
            · exact .inr (hn b (by simp only [add] at *; omega))
            · exact .inl z
          · have h1 := st.le b
            by_cases z : add (one a) nil0 b = 0
            · omega
            · have h2 := tz b z; have : add (one a) nil0 b ≤ 1 := by simp only [add, one, nil0]; split <;> omega
              omega
          · by_cases z : b = a
            · subst z; rw [fa] at n; exact absurd rfl n
            · simp [add, one, nil0, z]
      · exact p.elim
    · exact p.elim
end
end TB

namespace TB
open PySem PySem.Spec PyProof.Rows L2
section
variable {X : Cx} {G : Cfgx} {W : WX} {k : Nat}
/-! ### dicts -/
theorem tr_dnew {pos : Pos} : TrE X G W (.Dict [] [] pos) eDnew := ⟨_, pe_dnewK, fun F H σ S T Q st z => by
  have z : KE G F H σ T Q (.dK .fz, .dic []) S := z
  intro p hp
  obtain ⟨st2, s, le, fp⟩ := st.newT (o := .dK []) hp
  refine z (.ref p) F _ T (add (one p) nil0) (s.castR fun a => rfl) st2 (.dK (kds := []) upd_same rfl .nil) (fun a => le a) fun a n => ?_
  by_cases q : a = p
  · subst q; rw [fp] at n; exact absurd rfl n
  · simp [add, one, nil0, q]⟩
theorem key_of {F : Hp} {v : V} {d : D} (h : isKey d = true) (r : Rep G F v d) : ∃ kk, v = kV kk ∧ d = keyD kk := by
  cases r <;> first | cases h | skip
  · exact ⟨.inl _, rfl, rfl⟩
  · exact ⟨.inr _, rfl, rfl⟩
theorem key_eqv (a b : Key) : D.eqv (keyD a) (keyD b) = decide (a = b) := by
  cases a with
  | inl i => cases b with
    | inl j => simp [keyD, D.eqv, BEq.beq]
    | inr z => simp [keyD, D.eqv]
  | inr w => cases b with
    | inl j => simp [keyD, D.eqv]
    | inr z =>
      show (w.cps.toList == z.cps.toList) = _
      have e : (Sum.inr w : Key) = Sum.inr z ↔ w.cps.toList = z.cps.toList := by
        constructor
        · intro h; cases h; rfl
        · intro h
          cases w; cases z
          have h2 := Array.toList_inj.mp h
          simp at h2
          rw [h2]
      rw [Bool.eq_iff_iff, beq_iff_eq, decide_eq_true_iff]
      exact e.symm
theorem put_any {kvs : List (Key × V)} {kds : List (D × D)} (hk : kds.map (·.1) = kvs.map (fun p => keyD p.1)) (kk : Key) : (kds.any fun p => D.eqv p.1 (keyD kk)) = kvs.any fun kv => decide (kv.1 = kk) := by
  induction kvs generalizing kds with
  | nil => cases kds with
    | nil => rfl
    | cons a b => simp at hk
  | cons p r ih => cases kds with
    | nil => simp at hk
    | cons a b =>
      obtain ⟨h1, h2⟩ := List.cons.inj (show a.1 :: b.map (·.1) = keyD p.1 :: r.map (fun p => keyD p.1) from hk)
      rw [List.any_cons, List.any_cons, ih h2, h1, key_eqv]
theorem put_map {F : Hp} {kvs : List (Key × V)} {kds : List (D × D)} (hk : kds.map (·.1) = kvs.map (fun p => keyD p.1)) (hr : Reps G F (kvs.map (·.2)) (kds.map (·.2))) (kk : Key) {v : V} {d : D} (r : Rep G F v d) :
    (kds.map fun p => if D.eqv p.1 (keyD kk) = true then (p.1, d) else p).map (·.1) = (kvs.map fun kv => if kv.1 = kk then (kv.1, v) else kv).map (fun p => keyD p.1) ∧ Reps G F ((kvs.map fun kv => if kv.1 = kk then (kv.1, v) else kv).map (·.2)) ((kds.map fun p => if D.eqv p.1 (keyD kk) = true then (p.1, d) else p).map (·.2)) := by
  induction kvs generalizing kds with
  | nil => cases kds with
    | nil => exact ⟨rfl, .nil⟩
    | cons a b => simp at hk
  | cons p q ih => cases kds with
    | nil => simp at hk
    | cons a b =>
      obtain ⟨h1, h2⟩ := List.cons.inj (show a.1 :: b.map (·.1) = keyD p.1 :: q.map (fun p => keyD p.1) from hk)
      cases hr with
      | cons r1 r2 =>
        obtain ⟨i1, i2⟩ := ih h2 r2
        have e : D.eqv a.1 (keyD kk) = decide (p.1 = kk) := by rw [h1, key_eqv]
        by_cases z : p.1 = kk
        · rw [decide_eq_true z] at e
          simp only [List.map_cons, e, if_pos z, if_true]
          exact ⟨by rw [i1, h1], .cons r i2⟩
        · rw [decide_eq_false z] at e
          simp only [List.map_cons, e, if_neg z, Bool.false_eq_true, if_false]
          exact ⟨by rw [i1, h1], .cons r1 i2⟩
theorem put_rep {F : Hp} {kvs : List (Key × V)} {kds : List (D × D)} (hk : kds.map (·.1) = kvs.map (fun p => keyD p.1)) (hr : Reps G F (kvs.map (·.2)) (kds.map (·.2))) (kk : Key) {v : V} {d : D} (r : Rep G F v d) :
    (putD kds (keyD kk) d).map (·.1) = (putK kvs kk v).map (fun p => keyD p.1) ∧ Reps G F ((putK kvs kk v).map (·.2)) ((putD kds (keyD kk) d).map (·.2)) := by
  unfold putD putK
  rw [put_any hk kk]
  split
  · exact put_map hk hr kk r
  · rw [List.map_append, List.map_append, List.map_append, List.map_append, hk]
    exact ⟨rfl, hr.app (.cons r .nil)⟩
theorem tr_dput (i : Nat) {x : PySem.Str} {e kx : Expr} {m n : E} {p pos' pos : Pos} (C : Cok X G W k) (h : TrE X G W e m) (h2 : TrE X G W kx n)
    (hN : X.N[i]? = some x := by rfl) (hv : Vis X.env.scope x := by first | exact Or.inl rfl | exact Or.inr (Or.inl rfl) | exact Or.inr (Or.inr rfl)) (hd : (x == ("__debug__" : PySem.Str)) = false := by decide) (hcd : (x == ("__classdict__" : PySem.Str)) = false := by decide)
    (hs : swapsWith e (some (.Subscript (.Name x p) kx pos')) pos.line X.env = pure false := by rfl) :
    TrS X G W (.Assign [.Subscript (.Name x p) kx pos'] e pos) (sDput i n m) := by
  obtain ⟨t, q, d⟩ := h
  obtain ⟨u, q2, d2⟩ := h2
  have hu : X.A.units + 1 < cLine := by have := C.room.units; omega
  refine ⟨_, ps_dput hu (pe_var hN hv hd hcd) q2 q hs, fun F H σ S T D st z => d.dat F H σ S T _ st (PRs.bind z fun y S1 z1 => ?_)⟩
  intro v F1 H1 T1 s1 st1 r1
  obtain ⟨⟨xs0, e0⟩, z1⟩ := has_dictS st1 (PRs.reS s1 z1)
  obtain ⟨a, vs0, hv0, _⟩ := own_dict st1 e0
  refine ⟨_, hv0, ?_⟩
  refine d2.dat F1 H1 σ S1 T1 _ st1 (PRs.bind z1 fun kk S2 z2 => ?_)
  intro w F2 H2 T2 s2 st2 r2
  have z2 := PRs.reS s2 z2
  cases e2 : ownK S2 i with
  | none => rw [e2] at z2; exact z2.elim
  | some xs =>
    rw [e2] at z2
    obtain ⟨a', vs, hv2, hH, hk, rs, up⟩ := own_dict st2 e2
    rw [hv0] at hv2
    cases hv2
    have z2 : PRs G W F2 H2 T2 (KS G F2 H2 T2 D) (if isKey kk = true ∧ xs.length < sizeMax then .ok .nx (S2.set i (some (.dK .fz, .dic (putD xs kk y)))) else .bad) := z2
    split at z2
    · rename_i hz
      obtain ⟨key, ev, ed⟩ := key_of hz.1 r2
      subst ev ed
      obtain ⟨p1, p2⟩ := put_rep hk rs key (r1.mono s2.sF)
      obtain ⟨st3, s3⟩ := up (putK vs key v) (putD xs (keyD key) y) p1 p2
      have hl : vs.length = xs.length := by
        have := congrArg List.length hk
        simpa using this.symm
      exact ⟨a, _, rfl, DPut.k hH (by rw [hl]; exact hz.2), (show KS G F2 H2 T2 D .nx _ from z2) σ F2 _ T2 s3 st3⟩
    · exact z2.elim
/-! ### list(range(n)) -/
theorem tr_listRg1 {a : Expr} {m : E} {p q pos pos2 : Pos} (C : Cok X G W k) (h : TrE X G W a m) (hm : X.mg "list" = none) (hm2 : X.mg "range" = none) (hg : Gl X "list" := by rfl) (hg2 : Gl X "range" := by rfl) (na2 : starEach [a] X.env = (false, eval a X.env) :: starEach [] X.env := by rfl)
    (na : starEach [.Call (.Name "range" q) [a] [] pos2] X.env = (false, eval (.Call (.Name "range" q) [a] [] pos2) X.env) :: starEach [] X.env := by rfl) : TrE X G W (.Call (.Name "list" p) [.Call (.Name "range" q) [a] [] pos2] [] pos) (eLRg1 m) := by
  obtain ⟨t, pa, d⟩ := h
  refine ⟨_, pe_listRg C.calm hg hm (prg_1 hg2 hm2 pa na2) na, fun F H σ S T Q st z => d.dat F H σ S T _ st (PR.bind z fun x S1 y => ?_)⟩
  intro v F1 H1 T1 s1 st1 r1
  cases r1 with
  | int j =>
    have y : PR G W F H σ T (KE G F H σ T Q) ((if j.natAbs ≤ sizeMax then M.pure (.li .fz, .lst (rangeL 0 j.toNat)) else fun _ => .bad) S1) := y
    split at y
    · rename_i hz
      have y : KE G F H σ T Q (.li .fz, .lst (rangeL 0 j.toNat)) S1 := y
      have l : limN = 4611686018427387904 := rfl
      have l2 : (sizeMax : Int) = 16777216 := rfl
      refine ⟨j, rfl, ⟨by omega, by omega, by omega, by omega, by omega⟩, fun p hp => KE.newL (y.re s1) st1 ?_ p hp⟩
      unfold rgV rangeL
      rw [show (j - 0).toNat = j.toNat by omega]
      have : ∀ l : List Nat, Reps G F1 (l.map fun i => V.int (0 + (i : Nat))) (l.map fun (i : Nat) => D.int (0 + (i : Int))) := by
        intro l
        induction l with
        | nil => exact .nil
        | cons a b ih => exact .cons (.int _) ih
      exact this _
    · exact y.elim
  | _ => exact y.elim
/-! ### insert, pop -/
theorem tr_insert (i : Nat) {x : PySem.Str} {e e2 : Expr} {m m2 : E} {p apos cpos : Pos} (h : TrE X G W e m) (h2 : TrE X G W e2 m2) (hs : starEach [e, e2] X.env = (false, eval e X.env) :: starEach [e2] X.env := by rfl) (hs2 : starEach [e2] X.env = (false, eval e2 X.env) :: starEach [] X.env := by rfl)
    (hN : X.N[i]? = some x := by rfl) (hv : Vis X.env.scope x := by first | exact Or.inl rfl | exact Or.inr (Or.inl rfl) | exact Or.inr (Or.inr rfl)) (hd : (x == ("__debug__" : PySem.Str)) = false := by decide) (hcd : (x == ("__classdict__" : PySem.Str)) = false := by decide)
    (hbase : attributeBase (.Name x p) "insert" X.env (eval (.Name x p) X.env) = eval (.Name x p) X.env := by rfl)
    (hfew : ((backTo cpos (starEach [e, e2] X.env)).all (fun x => !x.1) && (backToKw cpos (keywordEach [] X.env)).all (fun x => x.1.isSome)
      && decide ([e, e2].length + ([] : List Keyword).length + (if ([] : List Keyword).isEmpty then 0 else 1) < 30)) = true := by rfl)
    (hline : (apos.endLine == cpos.line) = true := by rfl) (hplain : (backTo cpos (starEach [e2] X.env)).any (·.1) = false := by rfl) :
    TrE X G W (.Call (.Attribute (.Name x p) "insert" apos) [e, e2] [] cpos) (eMth fInsert i [m, m2]) :=
  tr_mth i F.slot_list_insert F.type_list_insert mt_insert mo_insert (tra_cons h (tra_cons h2 tra_nil hs2) hs) hN hv hd hcd hbase hfew hline hs hplain
theorem tr_popAt (i : Nat) {x : PySem.Str} {e : Expr} {m : E} {p apos cpos : Pos} (h : TrE X G W e m) (hs : starEach [e] X.env = (false, eval e X.env) :: starEach [] X.env := by rfl)
    (hN : X.N[i]? = some x := by rfl) (hv : Vis X.env.scope x := by first | exact Or.inl rfl | exact Or.inr (Or.inl rfl) | exact Or.inr (Or.inr rfl)) (hd : (x == ("__debug__" : PySem.Str)) = false := by decide) (hcd : (x == ("__classdict__" : PySem.Str)) = false := by decide)
    (hbase : attributeBase (.Name x p) "pop" X.env (eval (.Name x p) X.env) = eval (.Name x p) X.env := by rfl)
    (hfew : ((backTo cpos (starEach [e] X.env)).all (fun x => !x.1) && (backToKw cpos (keywordEach [] X.env)).all (fun x => x.1.isSome)
      && decide ([e].length + ([] : List Keyword).length + (if ([] : List Keyword).isEmpty then 0 else 1) < 30)) = true := by rfl)
    (hline : (apos.endLine == cpos.line) = true := by rfl) (hplain : (backTo cpos (starEach [] X.env)).any (·.1) = false := by rfl) :
    TrE X G W (.Call (.Attribute (.Name x p) "pop" apos) [e] [] cpos) (eMth fPopAt i [m]) :=
  tr_mth i F.slot_list_pop F.type_list_pop mt_popAt mo_popAt (tra_cons h tra_nil hs) hN hv hd hcd hbase hfew hline hs hplain
end
end TB

namespace TB
open PySem PySem.Spec PyProof.Rows L2
/-! ### xs[a:c] = ys, c beyond the end too -/
theorem bounds_cut {a c n : Nat} (ha : a ≤ n) : sliceBounds (some (a : Int)) (some (c : Int)) none n = ((a : Int), ((min c n : Nat) : Int), 1) := by
  simp only [sliceBounds, Option.getD_none]
  have h1 : ¬ ((a : Int) < 0) := by omega
  have h2 : ¬ ((c : Int) < 0) := by omega
  simp only [h1, h2, if_false, show (1 : Int) > 0 by decide, if_true]
  congr 1
  · omega
  · congr 1; omega
section
variable {prog : Program} {w : World} {A : Around} {E : Value → Shared → Prop} {s : Shared}
theorem setSlice_cut {l b sl : Addr} {items new : Array Value} {n n2 : Nat} {vl vu : Value} {a c : Nat} {Q : Unit → Shared → Prop}
    (e : s.heap.get? l = some { cls := .type "list", data := .seq items n }) (e2 : s.heap.get? b = some { cls := .type "list", data := .seq new n2 }) (hne : l ≠ b)
    (hs : s.heap.IsSliceOf sl vl vu .none) (pl : IsPart vl (some (a : Int))) (pu : IsPart vu (some (c : Int))) (hac : a ≤ c) (ha : a ≤ items.size)
    (hsz : items.size + new.size ≤ sizeLine) (h : Q () { s with heap := s.heap.update l (Obj.mapSeq fun xs => xs.extract 0 a ++ new ++ xs.extract (min c items.size) xs.size) }) :
    wpAny (model prog w) A (setItem (.ref l) (.ref sl) (.ref b)) Q E s := by
  have hl : s.heap.IsList l items := PySem.IsL.isList e
  have hb : s.heap.IsList b new := PySem.IsL.isList e2
  obtain ⟨os, hos, hcs, hds⟩ := id hs
  have hTs : s.TypeIs (.ref sl) "slice" := ⟨os, hos, hcs⟩
  have hstep : ¬ ((rawPart none == rawInt 0) = true) := Bool.false_ne_true
  have hsame : Builtin.List.listSameRef (.ref l) (.ref b) = false := beq_eq_false_iff_ne.mpr hne
  have hmax : (max (a : Int) ((min c items.size : Nat) : Int)).toNat = min c items.size := by omega
  have hz' : ((fun xs : Array Value => xs.extract 0 a ++ new ++ xs.extract (min c items.size) xs.size) items).size ≤ sizeLine + 1 := by
    simp only [Array.size_append, Array.size_extract]
    omega
  unfold setItem
  try with_reducible refine wpAny_holding ?_
  first | refine wpAny_bind (wpAny_pure ?_) | skip
  refine wpAny_bind (wpAny_sequenceKey hl.typeIs (by decide) ?_)
  refine wpAny_bind (wpAny_callSpecial?_slot (name := Str.ofString "__setitem__") hl.typeIs slot_list_setitem
    (wpAny_call_entry slot_list_setitem hl.typeIs entry_list_setitem ?_ (args_list_setitem _ _ _)))
  show wpAny _ _ (Builtin.List.listSubscript? (.ref sl) >>= _) _ _ s
  refine wpAny_bind ?_
  unfold Builtin.List.listSubscript?
  refine wpAny_bind (wpAny_specialOf hTs slice_no_index ?_)
  simp only [Option.isNone_none, if_true]
  refine wpAny_pure ?_
  show wpAny _ _ (typeOf (.ref sl) >>= _) _ _ s
  refine wpAny_bind (wpAny_typeOf hTs ?_)
  first
    | rw [if_neg (by decide)]
    | refine PySem.W.KFB.if_not (by decide) ?_
  rw [listSliceParts_eq]
  refine wpAny_bind (wpAny_bind (wpAny_field hos hds (x := .none) rfl (wpAny_bind (wpAny_listPart .none ?_))))
  rw [if_neg hstep]
  refine wpAny_bind (wpAny_field hos hds (x := vl) rfl (wpAny_bind (wpAny_listPart pl ?_)))
  refine wpAny_bind (wpAny_field hos hds (x := vu) rfl (wpAny_bind (wpAny_listPart pu (wpAny_pure ?_))))
  first
    | simp only [hsame, Bool.false_eq_true, if_false]
    | refine PySem.W.KFB.if_not hsame ?_
    | (dsimp only
       rw [if_neg (by rw [hsame]; exact Bool.false_ne_true)])
  refine wpAny_bind (m := Builtin.List.listAllItems (.ref b) "must assign iterable to extended slice") ?_
  unfold Builtin.List.listAllItems
  refine wpAny_bind (wpAny_typeOf hb.typeIs ?_)
  first
    | refine PySem.W.KFB.if_so (by decide) ?_
    | rw [if_pos (by decide)]
    | simp only [beq_self_eq_true, Bool.true_or, if_true]
  unfold Builtin.List.listItems
  refine wpAny_bind (wpAny_seqItems e2 rfl (wpAny_pure ?_))
  refine wpAny_bind (wpAny_bind (wpAny_seqItems e rfl (wpAny_pure ?_)))
  refine wpAny_bind (wpAny_of_eq ((sliceIndices_raw (some (a : Int)) (some (c : Int)) none items.size (by simp)).trans (congrArg (pure : Int × Int × Int → Sem (Int × Int × Int)) (bounds_cut ha))) ?_)
  show wpAny _ _ (if ((1 : Int) == 1) = true then _ else _) _ _ s
  rw [if_pos (by decide)]
  refine wpAny_bind (wpAny_rule ?_)
  first
    | simp only [notLongL hsz, Bool.false_eq_true, if_false]
    | refine PySem.W.KFB.if_not (notLongL hsz) ?_
  first | refine wpAny_bind (wpAny_pure ?_) | skip
  show wpAny _ _ (updateSeq l (fun xs => xs.extract 0 ((a : Int)).toNat ++ new ++ xs.extract (max (a : Int) ((min c items.size : Nat) : Int)).toNat xs.size) >>= _) _ _ s
  rw [hmax, Int.toNat_natCast]
  refine wpAny_bind (wpAny_updateSeq (hz := Nat.le_trans (Nat.le_add_right _ _) hsz) (_hz' := hz') e rfl ?_)
  refine wpAny_bind (wpAny_letGo ?_)
  first
    | exact wpAny_bind (wpAny_pure (wpAny_pure ⟨.none, rfl, wpAny_pure h⟩))
    | exact wpAny_pure ⟨.none, rfl, wpAny_pure h⟩
end
def gSl (to : TE) (tl th : TO) : TG := fun v σ H Q => to σ H fun o H1 => tl σ H1 fun x H2 => th σ H2 fun y H3 => ∃ (l b : Addr) (xs ys : List V) (i j : Nat), o = .ref l ∧ v = .ref b ∧ x = some (i : Int) ∧ y = some (j : Int) ∧ H3 l = some (.lst xs) ∧ H3 b = some (.lst ys) ∧ l ≠ b ∧ i ≤ j ∧ i ≤ xs.length ∧
  xs.length + ys.length ≤ sizeLine ∧ Q σ (upd H3 l (.lst (xs.take i ++ ys ++ xs.drop j)))
section
variable {X : Cx} {G : Cfgx} {W : WX} {k : Nat}
theorem pg_sl {o : Expr} {a b : Option Expr} {to : TE} {tl th : TO} {p2 pos : Pos} (ho : PE X o to) (ha : PO X a tl) (hb : PO X b th)
    (has : ∀ v, assign (.Subscript o (.Slice a b none p2) pos) X.env v = (do
      let ov ← holding [v] (eval o X.env)
      let iv ← holding [v, ov] (eval (.Slice a b none p2) X.env)
      standAt pos
      holding [v, ov, iv] (setItem ov iv v)
      release [iv, v, ov] []) := by intro _; rfl) : PG X (.Subscript o (.Slice a b none p2) pos) (gSl to tl th) := by
  refine ⟨fun pins s σ H v u Q I r h => ?_⟩
  rw [has]
  refine wpAny_bind (wpAny_holding (thn (ho.run pins s σ H _ I h) fun ov s1 ⟨x, H1, I1, r1, q1⟩ => ?_))
  refine wpAny_bind (wpAny_holding (wpAny_Slice (thn (ha.run pins s1 σ H1 _ I1 q1) fun vl s2 ⟨l, H2, I2, pl, q2⟩ => thn (hb.run pins s2 σ H2 _ I2 q2) fun vu s3 ⟨h2, H3, I3, pu, q3⟩ => ?_)))
  rw [evalPart_none]
  refine wpAny_pure ?_
  obtain ⟨ad, bd, xs, ys, i, j, rfl, rfl, rfl, rfl, hl, hbb, hne, hij, hi, hz, q⟩ := q3
  cases r
  cases r1
  have I4 : Inv X pins σ H3 { s3 with heap := s3.heap.push { cls := .type "slice", data := .fields #[vl, vu, .none] } } := I3.kept (t' := s3.toks) fun b ob q => Heap.get?_push_of_some _ q
  refine wpAny_bind (wpAny_standAt (wpAny_bind (wpAny_holding ?_)))
  obtain ⟨z, its, n, rr, hl1, e⟩ := I4.lstM hl
  obtain ⟨z2, its2, n2, rr2, hl2, e2⟩ := I4.lstM hbb
  refine setSlice_cut (a := i) (c := j) e e2 hne (Heap.IsSliceOf.new ..) pl pu hij (by rw [List.size_toArray]; omega) (by rw [List.size_toArray, List.size_toArray]; omega) ?_
  refine wpAny_release ⟨σ, _, ?_, q⟩
  refine I4.lset (its' := its.take i ++ its2 ++ its.drop j) hl e ?_ (Vals.append (Vals.append (rr.take _) rr2) (rr.drop _)) ?_
  · show its.toArray.extract 0 i ++ its2.toArray ++ its.toArray.extract (min j its.toArray.size) its.toArray.size = _
    rw [splice_eq its its2 i (min j its.toArray.size), List.size_toArray]
    congr 2
    by_cases hj : j ≤ its.length
    · rw [Nat.min_eq_left hj]
    · rw [Nat.min_eq_right (by omega), List.drop_of_length_le (by omega), List.drop_of_length_le (by omega)]
  · rw [List.length_append, List.length_append, List.length_take, List.length_drop]
    omega
theorem tr_setSl (i : Nat) {x : PySem.Str} {e kx ky : Expr} {m n n2 : E} {p p2 pos' pos : Pos} (h : TrE X G W e m) (h2 : TrE X G W kx n) (h3 : TrE X G W ky n2)
    (hN : X.N[i]? = some x := by rfl) (hv : Vis X.env.scope x := by first | exact Or.inl rfl | exact Or.inr (Or.inl rfl) | exact Or.inr (Or.inr rfl)) (hd : (x == ("__debug__" : PySem.Str)) = false := by decide) (hcd : (x == ("__classdict__" : PySem.Str)) = false := by decide)
    (ha : ∀ v, assign (.Subscript (.Name x p) (.Slice (some kx) (some ky) none p2) pos') X.env v = (do
      let ov ← holding [v] (eval (.Name x p) X.env)
      let iv ← holding [v, ov] (eval (.Slice (some kx) (some ky) none p2) X.env)
      standAt pos'
      holding [v, ov, iv] (setItem ov iv v)
      release [iv, v, ov] []) := by intro _; rfl)
    (hs : swapsWithSole [.Subscript (.Name x p) (.Slice (some kx) (some ky) none p2) pos'] e pos.line X.env = pure false := by rfl) (hw : swappedStores [.Subscript (.Name x p) (.Slice (some kx) (some ky) none p2) pos'] e X.env = pure none := by rfl) (h1 : (assignEach [.Subscript (.Name x p) (.Slice (some kx) (some ky) none p2) pos'] X.env).map (·.2) = [assign (.Subscript (.Name x p) (.Slice (some kx) (some ky) none p2) pos') X.env] := by rfl) :
    TrS X G W (.Assign [.Subscript (.Name x p) (.Slice (some kx) (some ky) none p2) pos'] e pos) (sSetSl i n n2 m) := by
  obtain ⟨t, q, d⟩ := h
  obtain ⟨u, q2, d2⟩ := h2
  obtain ⟨w, q3, d3⟩ := h3
  refine ⟨_, ps_asg q (pg_sl (pe_var hN hv hd hcd) (po_some q2) (po_some q3) ha) hs hw h1, fun F H σ S T D st z => d.dat F H σ S T _ st (PRs.bind z fun y S1 z1 => ?_)⟩
  intro v F1 H1 T1 s1 st1 r1
  obtain ⟨⟨xs0, e0⟩, z1⟩ := has_listS st1 (PRs.reS s1 z1)
  obtain ⟨a, vs0, hv0, _⟩ := own_list st1 e0
  refine ⟨_, hv0, ?_⟩
  refine d2.dat F1 H1 σ S1 T1 _ st1 (PRs.bind z1 fun kl S2 z2 => ?_)
  intro vl F2 H2 T2 s2 st2 r2
  have z2 := PRs.reS s2 z2
  refine (show ∃ i, vl = V.int i ∧ tPart w σ H2 _ from ?_)
  cases r2 with
  | int il =>
    refine ⟨il, rfl, ?_⟩
    refine d3.dat F2 H2 σ S2 T2 _ st2 (PRs.bind z2 fun kh S3 z3 => ?_)
    intro vh F3 H3 T3 s3 st3 r3
    have z3 := PRs.reS s3 z3
    cases r3 with
    | int ih =>
      refine ⟨ih, rfl, ?_⟩
      have r1 := (r1.mono s2.sF).mono s3.sF
      cases r1 with
      | @lst b us ys hb ru =>
        have z3 : PRs G W F3 H3 T3 (KS G F3 H3 T3 D) (match ownL S3 i with | some xs => if 0 ≤ il ∧ il ≤ ih ∧ il ≤ xs.length ∧ xs.length + ys.length ≤ sizeMax then .ok .nx (S3.set i (some (.li .fz, .lst (xs.take il.toNat ++ ys ++ xs.drop ih.toNat)))) else .bad | none => .bad) := z3
        cases e2 : ownL S3 i with
        | none => rw [e2] at z3; exact z3.elim
        | some xs =>
          rw [e2] at z3
          obtain ⟨a', vs, hv2, hH, rs, t1, up⟩ := own_list st3 e2
          rw [hv0] at hv2
          cases hv2
          have z3 : PRs G W F3 H3 T3 (KS G F3 H3 T3 D) (if 0 ≤ il ∧ il ≤ ih ∧ il ≤ xs.length ∧ xs.length + ys.length ≤ sizeMax then .ok .nx (S3.set i (some (.li .fz, .lst (xs.take il.toNat ++ ys ++ xs.drop ih.toNat)))) else .bad) := z3
          split at z3
          · rename_i hz
            obtain ⟨z4, z5, z6, z7⟩ := hz
            obtain ⟨st4, s4⟩ := up (vs.take il.toNat ++ us ++ vs.drop ih.toNat) _ (((rs.take _).app ru).app (rs.drop _))
            have hne : a ≠ b := fun q => by
              subst q
              rw [t1] at hb; cases hb
            exact ⟨a, b, vs, us, il.toNat, ih.toNat, rfl, rfl, by rw [Int.toNat_of_nonneg z4], by rw [Int.toNat_of_nonneg (by omega)], hH, st3.sub _ _ hb, hne, by omega, by rw [rs.len]; omega, by rw [rs.len, ru.len]; exact z7, (show KS G F3 H3 T3 D .nx _ from z3) σ F3 _ T3 s4 st4⟩
          · exact z3.elim
      | _ => exact z3.elim
    | _ => exact z3.elim
  | _ => exact z2.elim
theorem tr_slO (i : Nat) {x : PySem.Str} {lo hi : Option Expr} {ml mh : Option E} {p p2 pos : Pos} (hl : TrO X G W lo ml) (hh : TrO X G W hi mh) (hN : X.N[i]? = some x := by rfl) (hv : Vis X.env.scope x := by first | exact Or.inl rfl | exact Or.inr (Or.inl rfl) | exact Or.inr (Or.inr rfl)) (hd : (x == ("__debug__" : PySem.Str)) = false := by decide) (hcd : (x == ("__classdict__" : PySem.Str)) = false := by decide) :
    TrE X G W (.Subscript (.Name x p) (.Slice lo hi none p2) pos) (eSlO i ml mh) := by
  obtain ⟨u, q, d2⟩ := hl
  obtain ⟨w, r, d3⟩ := hh
  refine ⟨_, pe_slice sl_list (pe_var hN hv hd hcd) q r, fun F H σ S T Q st z => ?_⟩
  obtain ⟨⟨xs0, e0⟩, z1⟩ := has_list st z
  obtain ⟨a, vs0, hv0, _⟩ := own_list st e0
  refine ⟨_, hv0, ?_⟩
  refine d2 F H σ S T _ st (PR.bind z1 fun l S2 y2 => ?_)
  intro F2 H2 T2 s2 st2
  refine d3 F2 H2 σ S2 T2 _ st2 (PR.bind (PR.re s2 (fun _ _ h => h) y2) fun h S3 y3 => ?_)
  intro F3 H3 T3 s3 st3
  cases e2 : ownL S3 i with
  | none => rw [e2] at y3; exact y3.elim
  | some xs =>
    rw [e2] at y3
    obtain ⟨a', vs, hv2, hH, rs, _, up⟩ := own_list st3 e2
    rw [hv0] at hv2
    cases hv2
    have y3 : KE G F H σ T Q (.li .fz, .lst (cutL xs l h)) S3 := y3
    exact ⟨a, vs, rfl, .inl (.inl hH), fun p hp => KE.newL (y3.re (s2.trans s3)) st3 (rs.cut l h) p hp⟩
end
end TB

namespace TB
open PySem PySem.Spec PyProof.Rows L2
theorem S2.or {G : Cfgx} {r r' : R2} {f g : D → D → Option KD} (h : S2 G r f) (h' : S2 G r' g) : S2 G (fun x y H Q => r x y H Q ∨ r' x y H Q) (fOr f g) := by
  intro F H σ S T x y dx dy kd Q st rx ry e q
  unfold fOr at e
  cases e1 : f dx dy with
  | some a => rw [e1] at e; cases e; exact .inl (h F H σ S T x y dx dy kd Q st rx ry e1 q)
  | none => rw [e1] at e; exact .inr (h' F H σ S T x y dx dy kd Q st rx ry e q)
section
variable {X : Cx} {G : Cfgx} {W : WX} {k : Nat}
theorem cls_inA (hK : X.K = G.K) : ∃ r, OpR X (compareOp .In) r ∧ S2 G r fInA := by
  obtain ⟨r, h1, h2⟩ := cls_in (X := X) (G := G) hK
  obtain ⟨r', g1, g2⟩ := cls_inS (X := X) (G := G)
  exact ⟨_, orR h1 g1, h2.or g2⟩
theorem cls_notInA (hK : X.K = G.K) : ∃ r, OpR X (compareOp .NotIn) r ∧ S2 G r fNotInA := by
  obtain ⟨r, h1, h2⟩ := cls_notIn (X := X) (G := G) hK
  obtain ⟨r', g1, g2⟩ := cls_notInS (X := X) (G := G)
  exact ⟨_, orR h1 g1, h2.or g2⟩
theorem cls_isA : ∃ r, OpR X (compareOp .Is) r ∧ S2 G r fIsA := by
  obtain ⟨r, h1, h2⟩ := cls_isN (X := X) (G := G)
  obtain ⟨r', g1, g2⟩ := cls_isB (X := X) (G := G)
  exact ⟨_, orR h1 g1, h2.or g2⟩
theorem cls_notA : ∃ r, OpR X (compareOp .IsNot) r ∧ S2 G r fIsNotA := by
  obtain ⟨r, h1, h2⟩ := cls_notN (X := X) (G := G)
  obtain ⟨r', g1, g2⟩ := cls_notB (X := X) (G := G)
  exact ⟨_, orR h1 g1, h2.or g2⟩
theorem tr_Add (C : Cok X G W k) {a b : Expr} {ma mb : E} {pos : Pos} (ha : TrE X G W a ma) (hb : TrE X G W b mb) : TrE X G W (.BinOp a .Add b pos) (eOp fAdd ma mb) := by
  obtain ⟨r, h1, h2⟩ := cls_add (X := X) (G := G) C.hK
  exact tr_op h1 h2 ha hb
theorem tr_Sub (C : Cok X G W k) {a b : Expr} {ma mb : E} {pos : Pos} (ha : TrE X G W a ma) (hb : TrE X G W b mb) : TrE X G W (.BinOp a .Sub b pos) (eOp fSub ma mb) := by
  obtain ⟨r, h1, h2⟩ := cls_sub (X := X) (G := G)
  exact tr_op h1 h2 ha hb
theorem tr_Mult (C : Cok X G W k) {a b : Expr} {ma mb : E} {pos : Pos} (ha : TrE X G W a ma) (hb : TrE X G W b mb) : TrE X G W (.BinOp a .Mult b pos) (eOp fMul ma mb) := by
  obtain ⟨r, h1, h2⟩ := cls_mul (X := X) (G := G) C.hK
  exact tr_op h1 h2 ha hb
theorem tr_Mod (C : Cok X G W k) {a b : Expr} {ma mb : E} {pos : Pos} (ha : TrE X G W a ma) (hb : TrE X G W b mb) : TrE X G W (.BinOp a .Mod b pos) (eOp fMod ma mb) := by
  obtain ⟨r, h1, h2⟩ := cls_mod (X := X) (G := G)
  exact tr_op h1 h2 ha hb
theorem tr_FloorDiv (C : Cok X G W k) {a b : Expr} {ma mb : E} {pos : Pos} (ha : TrE X G W a ma) (hb : TrE X G W b mb) : TrE X G W (.BinOp a .FloorDiv b pos) (eOp fDiv ma mb) := by
  obtain ⟨r, h1, h2⟩ := cls_div (X := X) (G := G)
  exact tr_op h1 h2 ha hb
theorem tr_Pow (C : Cok X G W k) {a b : Expr} {ma mb : E} {pos : Pos} (ha : TrE X G W a ma) (hb : TrE X G W b mb) : TrE X G W (.BinOp a .Pow b pos) (eOp fPow ma mb) := by
  obtain ⟨r, h1, h2⟩ := cls_pow (X := X) (G := G)
  exact tr_op h1 h2 ha hb
theorem tr_Lt (C : Cok X G W k) {a b : Expr} {ma mb : E} {pos : Pos} (ha : TrE X G W a ma) (hb : TrE X G W b mb) (hm : behindInMarks .Lt b = false := by rfl) : TrE X G W (.Compare a [.Lt] [b] pos) (eOp fLt ma mb) := by
  obtain ⟨r, h1, h2⟩ := cls_lt (X := X) (G := G)
  exact tr_cmp h1 h2 ha hb hm
theorem tt_Lt (C : Cok X G W k) {a b : Expr} {ma mb : E} {pos : Pos} (ha : TrE X G W a ma) (hb : TrE X G W b mb) (hm : behindInMarks .Lt b = false := by rfl) : TrT X G W (.Compare a [.Lt] [b] pos) (eBool (eOp fLt ma mb)) := by
  obtain ⟨r, h1, h2⟩ := cls_lt (X := X) (G := G)
  exact tt_cmp h1 h2 ha hb hm
theorem tr_LtE (C : Cok X G W k) {a b : Expr} {ma mb : E} {pos : Pos} (ha : TrE X G W a ma) (hb : TrE X G W b mb) (hm : behindInMarks .LtE b = false := by rfl) : TrE X G W (.Compare a [.LtE] [b] pos) (eOp fLe ma mb) := by
  obtain ⟨r, h1, h2⟩ := cls_le (X := X) (G := G)
  exact tr_cmp h1 h2 ha hb hm
theorem tt_LtE (C : Cok X G W k) {a b : Expr} {ma mb : E} {pos : Pos} (ha : TrE X G W a ma) (hb : TrE X G W b mb) (hm : behindInMarks .LtE b = false := by rfl) : TrT X G W (.Compare a [.LtE] [b] pos) (eBool (eOp fLe ma mb)) := by
  obtain ⟨r, h1, h2⟩ := cls_le (X := X) (G := G)
  exact tt_cmp h1 h2 ha hb hm
theorem tr_Gt (C : Cok X G W k) {a b : Expr} {ma mb : E} {pos : Pos} (ha : TrE X G W a ma) (hb : TrE X G W b mb) (hm : behindInMarks .Gt b = false := by rfl) : TrE X G W (.Compare a [.Gt] [b] pos) (eOp fGt ma mb) := by
  obtain ⟨r, h1, h2⟩ := cls_gt (X := X) (G := G)
  exact tr_cmp h1 h2 ha hb hm
theorem tt_Gt (C : Cok X G W k) {a b : Expr} {ma mb : E} {pos : Pos} (ha : TrE X G W a ma) (hb : TrE X G W b mb) (hm : behindInMarks .Gt b = false := by rfl) : TrT X G W (.Compare a [.Gt] [b] pos) (eBool (eOp fGt ma mb)) := by
  obtain ⟨r, h1, h2⟩ := cls_gt (X := X) (G := G)
  exact tt_cmp h1 h2 ha hb hm
theorem tr_GtE (C : Cok X G W k) {a b : Expr} {ma mb : E} {pos : Pos} (ha : TrE X G W a ma) (hb : TrE X G W b mb) (hm : behindInMarks .GtE b = false := by rfl) : TrE X G W (.Compare a [.GtE] [b] pos) (eOp fGe ma mb) := by
  obtain ⟨r, h1, h2⟩ := cls_ge (X := X) (G := G)
  exact tr_cmp h1 h2 ha hb hm
theorem tt_GtE (C : Cok X G W k) {a b : Expr} {ma mb : E} {pos : Pos} (ha : TrE X G W a ma) (hb : TrE X G W b mb) (hm : behindInMarks .GtE b = false := by rfl) : TrT X G W (.Compare a [.GtE] [b] pos) (eBool (eOp fGe ma mb)) := by
  obtain ⟨r, h1, h2⟩ := cls_ge (X := X) (G := G)
  exact tt_cmp h1 h2 ha hb hm
theorem tr_Eq (C : Cok X G W k) {a b : Expr} {ma mb : E} {pos : Pos} (ha : TrE X G W a ma) (hb : TrE X G W b mb) (hm : behindInMarks .Eq b = false := by rfl) : TrE X G W (.Compare a [.Eq] [b] pos) (eOp fEq ma mb) := by
  obtain ⟨r, h1, h2⟩ := cls_eq (X := X) (G := G) C.hK C.room
  exact tr_cmp h1 h2 ha hb hm
theorem tt_Eq (C : Cok X G W k) {a b : Expr} {ma mb : E} {pos : Pos} (ha : TrE X G W a ma) (hb : TrE X G W b mb) (hm : behindInMarks .Eq b = false := by rfl) : TrT X G W (.Compare a [.Eq] [b] pos) (eBool (eOp fEq ma mb)) := by
  obtain ⟨r, h1, h2⟩ := cls_eq (X := X) (G := G) C.hK C.room
  exact tt_cmp h1 h2 ha hb hm
theorem tr_NotEq (C : Cok X G W k) {a b : Expr} {ma mb : E} {pos : Pos} (ha : TrE X G W a ma) (hb : TrE X G W b mb) (hm : behindInMarks .NotEq b = false := by rfl) : TrE X G W (.Compare a [.NotEq] [b] pos) (eOp fNe ma mb) := by
  obtain ⟨r, h1, h2⟩ := cls_ne (X := X) (G := G) C.hK C.room
  exact tr_cmp h1 h2 ha hb hm
theorem tt_NotEq (C : Cok X G W k) {a b : Expr} {ma mb : E} {pos : Pos} (ha : TrE X G W a ma) (hb : TrE X G W b mb) (hm : behindInMarks .NotEq b = false := by rfl) : TrT X G W (.Compare a [.NotEq] [b] pos) (eBool (eOp fNe ma mb)) := by
  obtain ⟨r, h1, h2⟩ := cls_ne (X := X) (G := G) C.hK C.room
  exact tt_cmp h1 h2 ha hb hm
theorem tr_In (C : Cok X G W k) {a b : Expr} {ma mb : E} {pos : Pos} (ha : TrE X G W a ma) (hb : TrE X G W b mb) (hm : behindInMarks .In b = false := by rfl) : TrE X G W (.Compare a [.In] [b] pos) (eOp fInA ma mb) := by
  obtain ⟨r, h1, h2⟩ := cls_inA (X := X) (G := G) C.hK
  exact tr_cmp h1 h2 ha hb hm
theorem tt_In (C : Cok X G W k) {a b : Expr} {ma mb : E} {pos : Pos} (ha : TrE X G W a ma) (hb : TrE X G W b mb) (hm : behindInMarks .In b = false := by rfl) : TrT X G W (.Compare a [.In] [b] pos) (eBool (eOp fInA ma mb)) := by
  obtain ⟨r, h1, h2⟩ := cls_inA (X := X) (G := G) C.hK
  exact tt_cmp h1 h2 ha hb hm
theorem tr_NotIn (C : Cok X G W k) {a b : Expr} {ma mb : E} {pos : Pos} (ha : TrE X G W a ma) (hb : TrE X G W b mb) (hm : behindInMarks .NotIn b = false := by rfl) : TrE X G W (.Compare a [.NotIn] [b] pos) (eOp fNotInA ma mb) := by
  obtain ⟨r, h1, h2⟩ := cls_notInA (X := X) (G := G) C.hK
  exact tr_cmp h1 h2 ha hb hm
theorem tt_NotIn (C : Cok X G W k) {a b : Expr} {ma mb : E} {pos : Pos} (ha : TrE X G W a ma) (hb : TrE X G W b mb) (hm : behindInMarks .NotIn b = false := by rfl) : TrT X G W (.Compare a [.NotIn] [b] pos) (eBool (eOp fNotInA ma mb)) := by
  obtain ⟨r, h1, h2⟩ := cls_notInA (X := X) (G := G) C.hK
  exact tt_cmp h1 h2 ha hb hm
theorem tr_Is (C : Cok X G W k) {a b : Expr} {ma mb : E} {pos : Pos} (ha : TrE X G W a ma) (hb : TrE X G W b mb) (hm : behindInMarks .Is b = false := by rfl) : TrE X G W (.Compare a [.Is] [b] pos) (eOp fIsA ma mb) := by
  obtain ⟨r, h1, h2⟩ := cls_isA (X := X) (G := G)
  exact tr_cmp h1 h2 ha hb hm
theorem tt_Is (C : Cok X G W k) {a b : Expr} {ma mb : E} {pos : Pos} (ha : TrE X G W a ma) (hb : TrE X G W b mb) (hm : behindInMarks .Is b = false := by rfl) : TrT X G W (.Compare a [.Is] [b] pos) (eBool (eOp fIsA ma mb)) := by
  obtain ⟨r, h1, h2⟩ := cls_isA (X := X) (G := G)
  exact tt_cmp h1 h2 ha hb hm
theorem tr_IsNot (C : Cok X G W k) {a b : Expr} {ma mb : E} {pos : Pos} (ha : TrE X G W a ma) (hb : TrE X G W b mb) (hm : behindInMarks .IsNot b = false := by rfl) : TrE X G W (.Compare a [.IsNot] [b] pos) (eOp fIsNotA ma mb) := by
  obtain ⟨r, h1, h2⟩ := cls_notA (X := X) (G := G)
  exact tr_cmp h1 h2 ha hb hm
theorem tt_IsNot (C : Cok X G W k) {a b : Expr} {ma mb : E} {pos : Pos} (ha : TrE X G W a ma) (hb : TrE X G W b mb) (hm : behindInMarks .IsNot b = false := by rfl) : TrT X G W (.Compare a [.IsNot] [b] pos) (eBool (eOp fIsNotA ma mb)) := by
  obtain ⟨r, h1, h2⟩ := cls_notA (X := X) (G := G)
  exact tt_cmp h1 h2 ha hb hm
theorem tr_Lt_Lt (C : Cok X G W k) {a b c : Expr} {ma mb mc : E} {pos : Pos} (ha : TrE X G W a ma) (hb : TrE X G W b mb) (hc : TrE X G W c mc) (hm : lastMarks [.Lt, .Lt] [b, c] = false := by with_unfolding_all rfl) : TrE X G W (.Compare a [.Lt, .Lt] [b, c] pos) (eChain fLt fLt ma mb mc) := by
  obtain ⟨r, h1, h2⟩ := cls_lt (X := X) (G := G)
  obtain ⟨r', g1, g2⟩ := cls_lt (X := X) (G := G)
  exact tr_chain h1 g1 h2 g2 ha hb hc hm
theorem tt_Lt_Lt (C : Cok X G W k) {a b c : Expr} {ma mb mc : E} {pos : Pos} (ha : TrE X G W a ma) (hb : TrE X G W b mb) (hc : TrE X G W c mc) (hm : lastMarks [.Lt, .Lt] [b, c] = false := by with_unfolding_all rfl) : TrT X G W (.Compare a [.Lt, .Lt] [b, c] pos) (eBool (eChain fLt fLt ma mb mc)) := by
  obtain ⟨r, h1, h2⟩ := cls_lt (X := X) (G := G)
  obtain ⟨r', g1, g2⟩ := cls_lt (X := X) (G := G)
  exact tt_chain h1 g1 h2 g2 ha hb hc hm
theorem tr_Lt_LtE (C : Cok X G W k) {a b c : Expr} {ma mb mc : E} {pos : Pos} (ha : TrE X G W a ma) (hb : TrE X G W b mb) (hc : TrE X G W c mc) (hm : lastMarks [.Lt, .LtE] [b, c] = false := by with_unfolding_all rfl) : TrE X G W (.Compare a [.Lt, .LtE] [b, c] pos) (eChain fLt fLe ma mb mc) := by
  obtain ⟨r, h1, h2⟩ := cls_lt (X := X) (G := G)
  obtain ⟨r', g1, g2⟩ := cls_le (X := X) (G := G)
  exact tr_chain h1 g1 h2 g2 ha hb hc hm
theorem tt_Lt_LtE (C : Cok X G W k) {a b c : Expr} {ma mb mc : E} {pos : Pos} (ha : TrE X G W a ma) (hb : TrE X G W b mb) (hc : TrE X G W c mc) (hm : lastMarks [.Lt, .LtE] [b, c] = false := by with_unfolding_all rfl) : TrT X G W (.Compare a [.Lt, .LtE] [b, c] pos) (eBool (eChain fLt fLe ma mb mc)) := by
  obtain ⟨r, h1, h2⟩ := cls_lt (X := X) (G := G)
  obtain ⟨r', g1, g2⟩ := cls_le (X := X) (G := G)
  exact tt_chain h1 g1 h2 g2 ha hb hc hm
theorem tr_Lt_Gt (C : Cok X G W k) {a b c : Expr} {ma mb mc : E} {pos : Pos} (ha : TrE X G W a ma) (hb : TrE X G W b mb) (hc : TrE X G W c mc) (hm : lastMarks [.Lt, .Gt] [b, c] = false := by with_unfolding_all rfl) : TrE X G W (.Compare a [.Lt, .Gt] [b, c] pos) (eChain fLt fGt ma mb mc) := by
  obtain ⟨r, h1, h2⟩ := cls_lt (X := X) (G := G)
  obtain ⟨r', g1, g2⟩ := cls_gt (X := X) (G := G)
  exact tr_chain h1 g1 h2 g2 ha hb hc hm
theorem tt_Lt_Gt (C : Cok X G W k) {a b c : Expr} {ma mb mc : E} {pos : Pos} (ha : TrE X G W a ma) (hb : TrE X G W b mb) (hc : TrE X G W c mc) (hm : lastMarks [.Lt, .Gt] [b, c] = false := by with_unfolding_all rfl) : TrT X G W (.Compare a [.Lt, .Gt] [b, c] pos) (eBool (eChain fLt fGt ma mb mc)) := by
  obtain ⟨r, h1, h2⟩ := cls_lt (X := X) (G := G)
  obtain ⟨r', g1, g2⟩ := cls_gt (X := X) (G := G)
  exact tt_chain h1 g1 h2 g2 ha hb hc hm
theorem tr_Lt_GtE (C : Cok X G W k) {a b c : Expr} {ma mb mc : E} {pos : Pos} (ha : TrE X G W a ma) (hb : TrE X G W b mb) (hc : TrE X G W c mc) (hm : lastMarks [.Lt, .GtE] [b, c] = false := by with_unfolding_all rfl) : TrE X G W (.Compare a [.Lt, .GtE] [b, c] pos) (eChain fLt fGe ma mb mc) := by
  obtain ⟨r, h1, h2⟩ := cls_lt (X := X) (G := G)
  obtain ⟨r', g1, g2⟩ := cls_ge (X := X) (G := G)
  exact tr_chain h1 g1 h2 g2 ha hb hc hm
theorem tt_Lt_GtE (C : Cok X G W k) {a b c : Expr} {ma mb mc : E} {pos : Pos} (ha : TrE X G W a ma) (hb : TrE X G W b mb) (hc : TrE X G W c mc) (hm : lastMarks [.Lt, .GtE] [b, c] = false := by with_unfolding_all rfl) : TrT X G W (.Compare a [.Lt, .GtE] [b, c] pos) (eBool (eChain fLt fGe ma mb mc)) := by
  obtain ⟨r, h1, h2⟩ := cls_lt (X := X) (G := G)
  obtain ⟨r', g1, g2⟩ := cls_ge (X := X) (G := G)
  exact tt_chain h1 g1 h2 g2 ha hb hc hm
theorem tr_LtE_Lt (C : Cok X G W k) {a b c : Expr} {ma mb mc : E} {pos : Pos} (ha : TrE X G W a ma) (hb : TrE X G W b mb) (hc : TrE X G W c mc) (hm : lastMarks [.LtE, .Lt] [b, c] = false := by with_unfolding_all rfl) : TrE X G W (.Compare a [.LtE, .Lt] [b, c] pos) (eChain fLe fLt ma mb mc) := by
  obtain ⟨r, h1, h2⟩ := cls_le (X := X) (G := G)
  obtain ⟨r', g1, g2⟩ := cls_lt (X := X) (G := G)
  exact tr_chain h1 g1 h2 g2 ha hb hc hm
theorem tt_LtE_Lt (C : Cok X G W k) {a b c : Expr} {ma mb mc : E} {pos : Pos} (ha : TrE X G W a ma) (hb : TrE X G W b mb) (hc : TrE X G W c mc) (hm : lastMarks [.LtE, .Lt] [b, c] = false := by with_unfolding_all rfl) : TrT X G W (.Compare a [.LtE, .Lt] [b, c] pos) (eBool (eChain fLe fLt ma mb mc)) := by
  obtain ⟨r, h1, h2⟩ := cls_le (X := X) (G := G)
  obtain ⟨r', g1, g2⟩ := cls_lt (X := X) (G := G)
  exact tt_chain h1 g1 h2 g2 ha hb hc hm
theorem tr_LtE_LtE (C : Cok X G W k) {a b c : Expr} {ma mb mc : E} {pos : Pos} (ha : TrE X G W a ma) (hb : TrE X G W b mb) (hc : TrE X G W c mc) (hm : lastMarks [.LtE, .LtE] [b, c] = false := by with_unfolding_all rfl) : TrE X G W (.Compare a [.LtE, .LtE] [b, c] pos) (eChain fLe fLe ma mb mc) := by
  obtain ⟨r, h1, h2⟩ := cls_le (X := X) (G := G)
  obtain ⟨r', g1, g2⟩ := cls_le (X := X) (G := G)
  exact tr_chain h1 g1 h2 g2 ha hb hc hm
theorem tt_LtE_LtE (C : Cok X G W k) {a b c : Expr} {ma mb mc : E} {pos : Pos} (ha : TrE X G W a ma) (hb : TrE X G W b mb) (hc : TrE X G W c mc) (hm : lastMarks [.LtE, .LtE] [b, c] = false := by with_unfolding_all rfl) : TrT X G W (.Compare a [.LtE, .LtE] [b, c] pos) (eBool (eChain fLe fLe ma mb mc)) := by
  obtain ⟨r, h1, h2⟩ := cls_le (X := X) (G := G)
  obtain ⟨r', g1, g2⟩ := cls_le (X := X) (G := G)
  exact tt_chain h1 g1 h2 g2 ha hb hc hm
theorem tr_LtE_Gt (C : Cok X G W k) {a b c : Expr} {ma mb mc : E} {pos : Pos} (ha : TrE X G W a ma) (hb : TrE X G W b mb) (hc : TrE X G W c mc) (hm : lastMarks [.LtE, .Gt] [b, c] = false := by with_unfolding_all rfl) : TrE X G W (.Compare a [.LtE, .Gt] [b, c] pos) (eChain fLe fGt ma mb mc) := by
  obtain ⟨r, h1, h2⟩ := cls_le (X := X) (G := G)
  obtain ⟨r', g1, g2⟩ := cls_gt (X := X) (G := G)
  exact tr_chain h1 g1 h2 g2 ha hb hc hm
theorem tt_LtE_Gt (C : Cok X G W k) {a b c : Expr} {ma mb mc : E} {pos : Pos} (ha : TrE X G W a ma) (hb : TrE X G W b mb) (hc : TrE X G W c mc) (hm : lastMarks [.LtE, .Gt] [b, c] = false := by with_unfolding_all rfl) : TrT X G W (.Compare a [.LtE, .Gt] [b, c] pos) (eBool (eChain fLe fGt ma mb mc)) := by
  obtain ⟨r, h1, h2⟩ := cls_le (X := X) (G := G)
  obtain ⟨r', g1, g2⟩ := cls_gt (X := X) (G := G)
  exact tt_chain h1 g1 h2 g2 ha hb hc hm
theorem tr_LtE_GtE (C : Cok X G W k) {a b c : Expr} {ma mb mc : E} {pos : Pos} (ha : TrE X G W a ma) (hb : TrE X G W b mb) (hc : TrE X G W c mc) (hm : lastMarks [.LtE, .GtE] [b, c] = false := by with_unfolding_all rfl) : TrE X G W (.Compare a [.LtE, .GtE] [b, c] pos) (eChain fLe fGe ma mb mc) := by
  obtain ⟨r, h1, h2⟩ := cls_le (X := X) (G := G)
  obtain ⟨r', g1, g2⟩ := cls_ge (X := X) (G := G)
  exact tr_chain h1 g1 h2 g2 ha hb hc hm
theorem tt_LtE_GtE (C : Cok X G W k) {a b c : Expr} {ma mb mc : E} {pos : Pos} (ha : TrE X G W a ma) (hb : TrE X G W b mb) (hc : TrE X G W c mc) (hm : lastMarks [.LtE, .GtE] [b, c] = false := by with_unfolding_all rfl) : TrT X G W (.Compare a [.LtE, .GtE] [b, c] pos) (eBool (eChain fLe fGe ma mb mc)) := by
  obtain ⟨r, h1, h2⟩ := cls_le (X := X) (G := G)
  obtain ⟨r', g1, g2⟩ := cls_ge (X := X) (G := G)
  exact tt_chain h1 g1 h2 g2 ha hb hc hm
theorem tr_Gt_Lt (C : Cok X G W k) {a b c : Expr} {ma mb mc : E} {pos : Pos} (ha : TrE X G W a ma) (hb : TrE X G W b mb) (hc : TrE X G W c mc) (hm : lastMarks [.Gt, .Lt] [b, c] = false := by with_unfolding_all rfl) : TrE X G W (.Compare a [.Gt, .Lt] [b, c] pos) (eChain fGt fLt ma mb mc) := by
  obtain ⟨r, h1, h2⟩ := cls_gt (X := X) (G := G)
  obtain ⟨r', g1, g2⟩ := cls_lt (X := X) (G := G)
  exact tr_chain h1 g1 h2 g2 ha hb hc hm
theorem tt_Gt_Lt (C : Cok X G W k) {a b c : Expr} {ma mb mc : E} {pos : Pos} (ha : TrE X G W a ma) (hb : TrE X G W b mb) (hc : TrE X G W c mc) (hm : lastMarks [.Gt, .Lt] [b, c] = false := by with_unfolding_all rfl) : TrT X G W (.Compare a [.Gt, .Lt] [b, c] pos) (eBool (eChain fGt fLt ma mb mc)) := by
  obtain ⟨r, h1, h2⟩ := cls_gt (X := X) (G := G)
  obtain ⟨r', g1, g2⟩ := cls_lt (X := X) (G := G)
  exact tt_chain h1 g1 h2 g2 ha hb hc hm
theorem tr_Gt_LtE (C : Cok X G W k) {a b c : Expr} {ma mb mc : E} {pos : Pos} (ha : TrE X G W a ma) (hb : TrE X G W b mb) (hc : TrE X G W c mc) (hm : lastMarks [.Gt, .LtE] [b, c] = false := by with_unfolding_all rfl) : TrE X G W (.Compare a [.Gt, .LtE] [b, c] pos) (eChain fGt fLe ma mb mc) := by
  obtain ⟨r, h1, h2⟩ := cls_gt (X := X) (G := G)
  obtain ⟨r', g1, g2⟩ := cls_le (X := X) (G := G)
  exact tr_chain h1 g1 h2 g2 ha hb hc hm
theorem tt_Gt_LtE (C : Cok X G W k) {a b c : Expr} {ma mb mc : E} {pos : Pos} (ha : TrE X G W a ma) (hb : TrE X G W b mb) (hc : TrE X G W c mc) (hm : lastMarks [.Gt, .LtE] [b, c] = false := by with_unfolding_all rfl) : TrT X G W (.Compare a [.Gt, .LtE] [b, c] pos) (eBool (eChain fGt fLe ma mb mc)) := by
  obtain ⟨r, h1, h2⟩ := cls_gt (X := X) (G := G)
  obtain ⟨r', g1, g2⟩ := cls_le (X := X) (G := G)
  exact tt_chain h1 g1 h2 g2 ha hb hc hm
theorem tr_Gt_Gt (C : Cok X G W k) {a b c : Expr} {ma mb mc : E} {pos : Pos} (ha : TrE X G W a ma) (hb : TrE X G W b mb) (hc : TrE X G W c mc) (hm : lastMarks [.Gt, .Gt] [b, c] = false := by with_unfolding_all rfl) : TrE X G W (.Compare a [.Gt, .Gt] [b, c] pos) (eChain fGt fGt ma mb mc) := by
  obtain ⟨r, h1, h2⟩ := cls_gt (X := X) (G := G)
  obtain ⟨r', g1, g2⟩ := cls_gt (X := X) (G := G)
  exact tr_chain h1 g1 h2 g2 ha hb hc hm
theorem tt_Gt_Gt (C : Cok X G W k) {a b c : Expr} {ma mb mc : E} {pos : Pos} (ha : TrE X G W a ma) (hb : TrE X G W b mb) (hc : TrE X G W c mc) (hm : lastMarks [.Gt, .Gt] [b, c] = false := by with_unfolding_all rfl) : TrT X G W (.Compare a [.Gt, .Gt] [b, c] pos) (eBool (eChain fGt fGt ma mb mc)) := by
  obtain ⟨r, h1, h2⟩ := cls_gt (X := X) (G := G)
  obtain ⟨r', g1, g2⟩ := cls_gt (X := X) (G := G)
  exact tt_chain h1 g1 h2 g2 ha hb hc hm
theorem tr_Gt_GtE (C : Cok X G W k) {a b c : Expr} {ma mb mc : E} {pos : Pos} (ha : TrE X G W a ma) (hb : TrE X G W b mb) (hc : TrE X G W c mc) (hm : lastMarks [.Gt, .GtE] [b, c] = false := by with_unfolding_all rfl) : TrE X G W (.Compare a [.Gt, .GtE] [b, c] pos) (eChain fGt fGe ma mb mc) := by
  obtain ⟨r, h1, h2⟩ := cls_gt (X := X) (G := G)
  obtain ⟨r', g1, g2⟩ := cls_ge (X := X) (G := G)
  exact tr_chain h1 g1 h2 g2 ha hb hc hm
theorem tt_Gt_GtE (C : Cok X G W k) {a b c : Expr} {ma mb mc : E} {pos : Pos} (ha : TrE X G W a ma) (hb : TrE X G W b mb) (hc : TrE X G W c mc) (hm : lastMarks [.Gt, .GtE] [b, c] = false := by with_unfolding_all rfl) : TrT X G W (.Compare a [.Gt, .GtE] [b, c] pos) (eBool (eChain fGt fGe ma mb mc)) := by
  obtain ⟨r, h1, h2⟩ := cls_gt (X := X) (G := G)
  obtain ⟨r', g1, g2⟩ := cls_ge (X := X) (G := G)
  exact tt_chain h1 g1 h2 g2 ha hb hc hm
theorem tr_GtE_Lt (C : Cok X G W k) {a b c : Expr} {ma mb mc : E} {pos : Pos} (ha : TrE X G W a ma) (hb : TrE X G W b mb) (hc : TrE X G W c mc) (hm : lastMarks [.GtE, .Lt] [b, c] = false := by with_unfolding_all rfl) : TrE X G W (.Compare a [.GtE, .Lt] [b, c] pos) (eChain fGe fLt ma mb mc) := by
  obtain ⟨r, h1, h2⟩ := cls_ge (X := X) (G := G)
  obtain ⟨r', g1, g2⟩ := cls_lt (X := X) (G := G)
  exact tr_chain h1 g1 h2 g2 ha hb hc hm
theorem tt_GtE_Lt (C : Cok X G W k) {a b c : Expr} {ma mb mc : E} {pos : Pos} (ha : TrE X G W a ma) (hb : TrE X G W b mb) (hc : TrE X G W c mc) (hm : lastMarks [.GtE, .Lt] [b, c] = false := by with_unfolding_all rfl) : TrT X G W (.Compare a [.GtE, .Lt] [b, c] pos) (eBool (eChain fGe fLt ma mb mc)) := by
  obtain ⟨r, h1, h2⟩ := cls_ge (X := X) (G := G)
  obtain ⟨r', g1, g2⟩ := cls_lt (X := X) (G := G)
  exact tt_chain h1 g1 h2 g2 ha hb hc hm
theorem tr_GtE_LtE (C : Cok X G W k) {a b c : Expr} {ma mb mc : E} {pos : Pos} (ha : TrE X G W a ma) (hb : TrE X G W b mb) (hc : TrE X G W c mc) (hm : lastMarks [.GtE, .LtE] [b, c] = false := by with_unfolding_all rfl) : TrE X G W (.Compare a [.GtE, .LtE] [b, c] pos) (eChain fGe fLe ma mb mc) := by
  obtain ⟨r, h1, h2⟩ := cls_ge (X := X) (G := G)
  obtain ⟨r', g1, g2⟩ := cls_le (X := X) (G := G)
  exact tr_chain h1 g1 h2 g2 ha hb hc hm
theorem tt_GtE_LtE (C : Cok X G W k) {a b c : Expr} {ma mb mc : E} {pos : Pos} (ha : TrE X G W a ma) (hb : TrE X G W b mb) (hc : TrE X G W c mc) (hm : lastMarks [.GtE, .LtE] [b, c] = false := by with_unfolding_all rfl) : TrT X G W (.Compare a [.GtE, .LtE] [b, c] pos) (eBool (eChain fGe fLe ma mb mc)) := by
  obtain ⟨r, h1, h2⟩ := cls_ge (X := X) (G := G)
  obtain ⟨r', g1, g2⟩ := cls_le (X := X) (G := G)
  exact tt_chain h1 g1 h2 g2 ha hb hc hm
theorem tr_GtE_Gt (C : Cok X G W k) {a b c : Expr} {ma mb mc : E} {pos : Pos} (ha : TrE X G W a ma) (hb : TrE X G W b mb) (hc : TrE X G W c mc) (hm : lastMarks [.GtE, .Gt] [b, c] = false := by with_unfolding_all rfl) : TrE X G W (.Compare a [.GtE, .Gt] [b, c] pos) (eChain fGe fGt ma mb mc) := by
  obtain ⟨r, h1, h2⟩ := cls_ge (X := X) (G := G)
  obtain ⟨r', g1, g2⟩ := cls_gt (X := X) (G := G)
  exact tr_chain h1 g1 h2 g2 ha hb hc hm
theorem tt_GtE_Gt (C : Cok X G W k) {a b c : Expr} {ma mb mc : E} {pos : Pos} (ha : TrE X G W a ma) (hb : TrE X G W b mb) (hc : TrE X G W c mc) (hm : lastMarks [.GtE, .Gt] [b, c] = false := by with_unfolding_all rfl) : TrT X G W (.Compare a [.GtE, .Gt] [b, c] pos) (eBool (eChain fGe fGt ma mb mc)) := by
  obtain ⟨r, h1, h2⟩ := cls_ge (X := X) (G := G)
  obtain ⟨r', g1, g2⟩ := cls_gt (X := X) (G := G)
  exact tt_chain h1 g1 h2 g2 ha hb hc hm
theorem tr_GtE_GtE (C : Cok X G W k) {a b c : Expr} {ma mb mc : E} {pos : Pos} (ha : TrE X G W a ma) (hb : TrE X G W b mb) (hc : TrE X G W c mc) (hm : lastMarks [.GtE, .GtE] [b, c] = false := by with_unfolding_all rfl) : TrE X G W (.Compare a [.GtE, .GtE] [b, c] pos) (eChain fGe fGe ma mb mc) := by
  obtain ⟨r, h1, h2⟩ := cls_ge (X := X) (G := G)
  obtain ⟨r', g1, g2⟩ := cls_ge (X := X) (G := G)
  exact tr_chain h1 g1 h2 g2 ha hb hc hm
theorem tt_GtE_GtE (C : Cok X G W k) {a b c : Expr} {ma mb mc : E} {pos : Pos} (ha : TrE X G W a ma) (hb : TrE X G W b mb) (hc : TrE X G W c mc) (hm : lastMarks [.GtE, .GtE] [b, c] = false := by with_unfolding_all rfl) : TrT X G W (.Compare a [.GtE, .GtE] [b, c] pos) (eBool (eChain fGe fGe ma mb mc)) := by
  obtain ⟨r, h1, h2⟩ := cls_ge (X := X) (G := G)
  obtain ⟨r', g1, g2⟩ := cls_ge (X := X) (G := G)
  exact tt_chain h1 g1 h2 g2 ha hb hc hm
theorem tr_Ix (C : Cok X G W k) {a b : Expr} {ma mb : E} {pos : Pos} (ha : TrE X G W a ma) (hb : TrE X G W b mb) (hp : PlainIx b := by exact fun _ _ => rfl) : TrE X G W (.Subscript a b pos) (eOp fIx ma mb) := by
  obtain ⟨r, h1, h2⟩ := cls_ix (X := X) (G := G) C.hK
  exact tr_ix h1 h2 ha hb hp
theorem tr_b_len (C : Cok X G W k) {p pos : Pos} {e : Expr} {es : List Expr} {ms : List E} (hm : X.mg "len" = none) (hg : Gl X "len") (ha : TrA X G W (e :: es) ms) (he : starEach (e :: es) X.env = (false, eval e X.env) :: starEach es X.env := by rfl) (hpl : (backTo pos (starEach es X.env)).any (·.1) = false := by rfl) : TrE X G W (.Call (.Name "len" p) (e :: es) [] pos) (eApp fLen ms) := by
  obtain ⟨r, h1, h2⟩ := cls_len (X := X) (G := G) C.hK
  exact tr_callB h1 h2 hm (by rfl) ha hg (by decide) (by decide) he hpl
theorem tr_b_int (C : Cok X G W k) {p pos : Pos} {e : Expr} {es : List Expr} {ms : List E} (hm : X.mg "int" = none) (hg : Gl X "int") (ha : TrA X G W (e :: es) ms) (he : starEach (e :: es) X.env = (false, eval e X.env) :: starEach es X.env := by rfl) (hpl : (backTo pos (starEach es X.env)).any (·.1) = false := by rfl) : TrE X G W (.Call (.Name "int" p) (e :: es) [] pos) (eApp fIntB ms) := by
  obtain ⟨r, h1, h2⟩ := cls_intB (X := X) (G := G)
  exact tr_callT h1 h2 hm (by rfl) ha hg (by decide) (by decide) he hpl
theorem tr_b_min (C : Cok X G W k) {p pos : Pos} {e : Expr} {es : List Expr} {ms : List E} (hm : X.mg "min" = none) (hg : Gl X "min") (ha : TrA X G W (e :: es) ms) (he : starEach (e :: es) X.env = (false, eval e X.env) :: starEach es X.env := by rfl) (hpl : (backTo pos (starEach es X.env)).any (·.1) = false := by rfl) : TrE X G W (.Call (.Name "min" p) (e :: es) [] pos) (eApp fMin2 ms) := by
  obtain ⟨r, h1, h2⟩ := cls_min2 (X := X) (G := G) C.calm
  exact tr_callB h1 h2 hm (by rfl) ha hg (by decide) (by decide) he hpl
theorem tr_b_max (C : Cok X G W k) {p pos : Pos} {e : Expr} {es : List Expr} {ms : List E} (hm : X.mg "max" = none) (hg : Gl X "max") (ha : TrA X G W (e :: es) ms) (he : starEach (e :: es) X.env = (false, eval e X.env) :: starEach es X.env := by rfl) (hpl : (backTo pos (starEach es X.env)).any (·.1) = false := by rfl) : TrE X G W (.Call (.Name "max" p) (e :: es) [] pos) (eApp fMax2 ms) := by
  obtain ⟨r, h1, h2⟩ := cls_max2 (X := X) (G := G) C.calm
  exact tr_callB h1 h2 hm (by rfl) ha hg (by decide) (by decide) he hpl
theorem tr_b_list (C : Cok X G W k) {p pos : Pos} {e : Expr} {es : List Expr} {ms : List E} (hm : X.mg "list" = none) (hg : Gl X "list") (ha : TrA X G W (e :: es) ms) (he : starEach (e :: es) X.env = (false, eval e X.env) :: starEach es X.env := by rfl) (hpl : (backTo pos (starEach es X.env)).any (·.1) = false := by rfl) : TrE X G W (.Call (.Name "list" p) (e :: es) [] pos) (eApp fList ms) := by
  obtain ⟨r, h1, h2⟩ := cls_list (X := X) (G := G) C.hK C.calm
  exact tr_callT h1 h2 hm (by rfl) ha hg (by decide) (by decide) he hpl
theorem tr_b_tuple (C : Cok X G W k) {p pos : Pos} {e : Expr} {es : List Expr} {ms : List E} (hm : X.mg "tuple" = none) (hg : Gl X "tuple") (ha : TrA X G W (e :: es) ms) (he : starEach (e :: es) X.env = (false, eval e X.env) :: starEach es X.env := by rfl) (hpl : (backTo pos (starEach es X.env)).any (·.1) = false := by rfl) : TrE X G W (.Call (.Name "tuple" p) (e :: es) [] pos) (eApp fTuple ms) := by
  obtain ⟨r, h1, h2⟩ := cls_tuple (X := X) (G := G) C.hK
  exact tr_callT h1 h2 hm (by rfl) ha hg (by decide) (by decide) he hpl
theorem tr_b_all (C : Cok X G W k) {p pos : Pos} {e : Expr} {es : List Expr} {ms : List E} (hm : X.mg "all" = none) (hg : Gl X "all") (ha : TrA X G W (e :: es) ms) (he : starEach (e :: es) X.env = (false, eval e X.env) :: starEach es X.env := by rfl) (hpl : (backTo pos (starEach es X.env)).any (·.1) = false := by rfl) : TrE X G W (.Call (.Name "all" p) (e :: es) [] pos) (eApp fAllB ms) := by
  obtain ⟨r, h1, h2⟩ := cls_all (X := X) (G := G) C.hK C.calm
  exact tr_callB h1 h2 hm (by rfl) ha hg (by decide) (by decide) he hpl
theorem tr_b_sorted (C : Cok X G W k) {p pos : Pos} {e : Expr} {es : List Expr} {ms : List E} (hm : X.mg "sorted" = none) (hg : Gl X "sorted") (ha : TrA X G W (e :: es) ms) (he : starEach (e :: es) X.env = (false, eval e X.env) :: starEach es X.env := by rfl) (hpl : (backTo pos (starEach es X.env)).any (·.1) = false := by rfl) : TrE X G W (.Call (.Name "sorted" p) (e :: es) [] pos) (eApp fSorted ms) := by
  obtain ⟨r, h1, h2⟩ := cls_sorted (X := X) (G := G) C.hK
  exact tr_callB h1 h2 hm (by rfl) ha hg (by decide) (by decide) he hpl
theorem tr_neg (C : Cok X G W k) {a : Expr} {ma : E} {pos : Pos} (ha : TrE X G W a ma) : TrE X G W (.UnaryOp .USub a pos) (eUn fNeg ma) := by
  refine tr_un un_neg (fun F H σ S T x dx kd Q st rx e k => ?_) ha
  cases rx <;> simp only [fNeg, kz, reduceCtorEq] at e
  cases e
  exact ⟨_, rfl, KE.val k st (.int _)⟩
end
end TB

namespace L2
open PySem PySem.Spec PyProof.Rows
/-- the law called, what flies by the world -/
theorem walk_ofEw {l : PySem.W.OpenLaw} {n k : Nat} {q : Program} {loose : List Str} {XP : (Str → Option Value) → Heap → Prop} {YP : World → Heap → Prop} {d : DefRec} {CX : World → CXT} {x : Str}
    (hn : l.most = some n) (hn2 : n ≤ sizeLine) (hdf : d.params.defaults = []) (hr : Room k callerA)
    (F : ∀ (w : World) (mg : Str → Option Value) (fa : Addr) (h : Heap), YP w h → h.Ns mainGlobals mg → mg d.name = some (.ref fa) →
      ∃ (K : PySem.W.Frag) (fd : FuncData) (sp : Sp), K.In h ∧ (∀ (s : Shared) (u : Value), BindsTo s fd ⟨[u], []⟩ [(x, u)]) ∧
        (∀ (H : Hp) (a : Addr) (ns : List Int), ns.length ≤ n → SqL K H a (ns.map V.int) → sp [.ref a] H (fun v _ => v = .bl true) fun _ _ _ => False) ∧
        ∀ base : Heap, K.In base → base.Ns mainGlobals mg → FnOk l.prog w K mg base (CX w) k fa fd [x] sp)
    (hCX : ∀ (w : World) (H : Hp) (s : Shared) (e : Value) (s' : Shared), CX w [] H s (fun _ _ _ => False) e s' → False) :
    PySem.W.WalkO q loose XP YP l.row.toRowW d [] (fun f vs => PySem.call f vs) := by
  refine Att.attach_call hn hdf fun w s₀ s₁ mg mb fa o pm cd doc a vs ns G Y ho hd hcd hmg hobj hints hlen hg => ?_
  obtain ⟨K, fd, sp, KX, hb, hsp, hF⟩ := F w mg fa _ Y G.T.g hmg
  exact law_call KX G.T.g G.T.b G.T.builtins G.T.nolimit hg hobj hints (Nat.le_trans hlen hn2) hr hF hb (fun H hO hS => hsp H a ns hlen hS) fun H e s' => hCX w H s₁ e s'
end L2

namespace TB
open PySem PyProof.Rows L2
mutual
theorem alk_py : ∀ x y : D, D.alk x y = true → PySem.W.alike (toPy x) (toPy y) = true := by
  intro x y h
  cases x <;> cases y <;> first | (simp [D.alk] at h; done) | (simp [toPy, PySem.W.alike]; done) | skip
  rename_i xs ys
  simp only [toPy, PySem.W.alike]
  exact alks_py xs ys (by simpa [D.alk] using h)
theorem alks_py : ∀ xs ys : List D, D.alks xs ys = true → PySem.W.alikeAll (toPys xs) (toPys ys) = true
  | [], ys, _ => by simp [toPys, PySem.W.alikeAll]
  | _ :: _, [], _ => by simp [toPys, PySem.W.alikeAll]
  | x :: xs, y :: ys, h => by
    unfold D.alks at h
    obtain ⟨h1, h2⟩ := Bool.and_eq_true_iff.mp h
    simp only [toPys, PySem.W.alikeAll, alk_py x y h1, alks_py xs ys h2, Bool.and_self]
end
mutual
theorem lt_py : ∀ (n m : Nat) (x y : D), D.alk x y = true → x.lay n = true → y.lay m = true → PySem.W.dataLt (toPy x) (toPy y) = D.lt x y := by
  intro n m x y h h1 h2
  cases x <;> cases y <;> first | (simp [D.alk] at h; done) | skip
  case bl.bl a b => simp only [toPy, PySem.W.dataLt_bool, D.lt]; cases a <;> cases b <;> rfl
  case int.int => simp only [toPy, PySem.W.dataLt_int, D.lt]
  case str.str => simp only [toPy, PySem.W.dataLt_str, D.lt]
  case tup.tup xs ys =>
    simp only [toPy, PySem.W.dataLt_tuple, D.lt]
    cases n with
    | zero => simp [D.lay] at h1
    | succ n =>
      cases m with
      | zero => simp [D.lay] at h2
      | succ m => exact lts_py n m xs ys (by simpa [D.alk] using h) (by simpa [D.lay] using h1) (by simpa [D.lay] using h2)
theorem lts_py : ∀ (n m : Nat) (xs ys : List D), D.alks xs ys = true → D.lays n xs = true → D.lays m ys = true → PyProof.Rows.lexLt itemOrd (PySem.W.keyToksAll (toPys xs)) (PySem.W.keyToksAll (toPys ys)) = D.lts xs ys
  | _, _, [], [], _, _, _ => by simp only [toPys, PySem.W.keyToksAll, D.lts]; decide
  | _, _, [], y :: ys, _, _, _ => by
    simp only [toPys, PySem.W.keyToksAll, D.lts]
    exact (PyProof.Rows.lex_diff (O := itemOrd) (by decide)).trans (by decide)
  | _, _, x :: xs, [], _, _, _ => by
    simp only [toPys, PySem.W.keyToksAll, D.lts]
    exact (PyProof.Rows.lex_diff (O := itemOrd) (by decide)).trans (by decide)
  | n, m, x :: xs, y :: ys, h, hx, hy => by
    unfold D.alks at h
    unfold D.lays at hx hy
    obtain ⟨h1, h2⟩ := Bool.and_eq_true_iff.mp h
    obtain ⟨a1, a2⟩ := Bool.and_eq_true_iff.mp hx
    obtain ⟨b1, b2⟩ := Bool.and_eq_true_iff.mp hy
    simp only [toPys, D.lts]
    rw [PySem.W.dataLt_cons (alk_py x y h1), eqv_py n m x y a1 b1, lts_py n m xs ys h2 a2 b2, lt_py n m x y h1 a1 b1]
end
theorem lays_mem : ∀ {n : Nat} {ds : List D}, D.lays n ds = true → ∀ d ∈ ds, d.lay n = true
  | n, d :: ds, h, e, he => by
    unfold D.lays at h
    obtain ⟨a, b⟩ := Bool.and_eq_true_iff.mp h
    rcases List.mem_cons.mp he with rfl | he
    · exact a
    · exact lays_mem b e he
/-! ### < of tuples -/
section
variable {X : Cx}
def rCmpD (op : PyData → PyData → Bool) (K : PySem.W.Frag) : R2 := fun x y H Q => ∃ d e, Dp K H x d ∧ Dp K H y e ∧ PySem.W.alike d e = true ∧ d ≠ .none ∧ d.depth ≤ 60 ∧ Q (.bl (op d e)) H
theorem op_ltD (hu : X.A.units + 64 < cLine) : OpR X (compareOp .Lt) (rCmpD PySem.W.dataLt X.K) := by
  intro pins s σ H x y v u Q I rx ry ⟨d, e, hd, he, ha, hn, hz, q⟩
  obtain ⟨as, r1⟩ := Dp.reads I d x v hd rx
  obtain ⟨bs, r2⟩ := Dp.reads I e y u he ry
  exact PySem.W.lt_data r1 r2 ha hn (by omega) ⟨.bl _, H, I, rfl, q⟩
theorem op_gtD (hu : X.A.units + 64 < cLine) : OpR X (compareOp .Gt) (rCmpD (fun d e => PySem.W.dataLt e d) X.K) := by
  intro pins s σ H x y v u Q I rx ry ⟨d, e, hd, he, ha, hn, hz, q⟩
  obtain ⟨as, r1⟩ := Dp.reads I d x v hd rx
  obtain ⟨bs, r2⟩ := Dp.reads I e y u he ry
  exact PySem.W.gt_data r1 r2 ha hn (by omega) ⟨.bl _, H, I, rfl, q⟩
theorem op_leD (hu : X.A.units + 64 < cLine) : OpR X (compareOp .LtE) (rCmpD (fun d e => !PySem.W.dataLt e d) X.K) := by
  intro pins s σ H x y v u Q I rx ry ⟨d, e, hd, he, ha, hn, hz, q⟩
  obtain ⟨as, r1⟩ := Dp.reads I d x v hd rx
  obtain ⟨bs, r2⟩ := Dp.reads I e y u he ry
  exact PySem.W.le_data r1 r2 ha hn (by omega) ⟨.bl _, H, I, rfl, q⟩
theorem op_geD (hu : X.A.units + 64 < cLine) : OpR X (compareOp .GtE) (rCmpD (fun d e => !PySem.W.dataLt d e) X.K) := by
  intro pins s σ H x y v u Q I rx ry ⟨d, e, hd, he, ha, hn, hz, q⟩
  obtain ⟨as, r1⟩ := Dp.reads I d x v hd rx
  obtain ⟨bs, r2⟩ := Dp.reads I e y u he ry
  exact PySem.W.ge_data r1 r2 ha hn (by omega) ⟨.bl _, H, I, rfl, q⟩
end
section
variable {X : Cx} {G : Cfgx} {W : WX} {k : Nat} {F H : Hp} {σ : L2.St} {S : List Slot} {T : Cnt}
theorem alk_comm : ∀ x y : D, D.alk x y = true → PySem.W.alike (toPy y) (toPy x) = true := fun x y h => by rw [PySem.W.alike_comm]; exact alk_py x y h
theorem S2_or {r r' : R2} {f g : D → D → Option KD} (h : S2 G r f) (h' : S2 G r' g) : S2 G (fun x y H Q => r x y H Q ∨ r' x y H Q) (fOr f g) := fun F H σ S T x y dx dy kd Q st rx ry e k => by
  unfold fOr at e
  cases e1 : f dx dy with
  | some a => rw [e1] at e; cases e; exact .inl (h F H σ S T x y dx dy _ Q st rx ry e1 k)
  | none => rw [e1] at e; exact .inr (h' F H σ S T x y dx dy _ Q st rx ry e k)
theorem cmp_core (hK : X.K = G.K) {x y : V} {dx dy : D} {op : PyData → PyData → Bool} {b : Bool} {Q : VK} (st : St' G F H σ S T) (rx : Rep G F x dx) (ry : Rep G F y dy) (h : cmpOk dx dy = true) (hb : ∀ n m, D.alk dx dy = true → dx.lay n = true → dy.lay m = true → op (toPy dx) (toPy dy) = b) (k : KE G F H σ T Q (.fz, .bl b) S) : rCmpD op X.K x y H Q := by
  unfold cmpOk at h
  obtain ⟨h, h4⟩ := Bool.and_eq_true_iff.mp h
  obtain ⟨h, h3⟩ := Bool.and_eq_true_iff.mp h
  obtain ⟨h1, h2⟩ := Bool.and_eq_true_iff.mp h
  refine ⟨toPy dx, toPy dy, ?_, ?_, alk_py dx dy h2, ?_, ?_, ?_⟩
  · rw [hK]; exact dp_of 60 dx x h3 (rx.mono st.sub)
  · rw [hK]; exact dp_of 60 dy y h4 (ry.mono st.sub)
  · cases dx <;> simp [D.isTup] at h1
    simp [toPy]
  · exact (lay_py 60 dx h3).2
  · rw [hb 60 60 h2 h3 h4]
    exact KE.val k st (.bl _)
theorem alk_symm {x y : D} (n m : Nat) (h : D.alk x y = true) (hx : x.lay n = true) (hy : y.lay m = true) : PySem.W.dataLt (toPy y) (toPy x) = D.lt y x := by
  have : ∀ x y : D, D.alk x y = D.alk y x := by
    have main : (∀ x y : D, D.alk x y = D.alk y x) := fun x => by
      refine D.rec (motive_1 := fun x => ∀ y, D.alk x y = D.alk y x) (motive_2 := fun xs => ∀ ys, D.alks xs ys = D.alks ys xs) (motive_3 := fun _ => True) (motive_4 := fun _ => True) ?_ ?_ ?_ ?_ ?_ ?_ ?_ ?_ ?_ ?_ ?_ ?_ ?_ ?_ ?_ ?_ ?_ x
      all_goals first | trivial | skip
      case refine_6 => intro xs ih y; cases y <;> simp [D.alk, ih]
      case refine_13 => intro ys; cases ys <;> simp [D.alks]
      case refine_14 =>
        intro hd tl h1 h2 ys
        cases ys with
        | nil => simp [D.alks]
        | cons z zs => simp [D.alks, h1, h2]
      all_goals first | (intros; trivial) | (intros; rename_i y; cases y <;> simp [D.alk])
    exact main
  exact lt_py m n y x (by rw [this]; exact h) hy hx
theorem cls_ltD (hK : X.K = G.K) (hr : Room k X.A) : ∃ r, OpR X (compareOp .Lt) r ∧ S2 G r fLtA := by
  obtain ⟨r, h1, h2⟩ := cls_lt (X := X) (G := G)
  refine ⟨_, orR h1 (op_ltD hr.units), S2_or h2 fun F H σ S T x y dx dy kd Q st rx ry e k => ?_⟩
  unfold fLtD kz at e
  split at e
  · rename_i h; cases e; exact cmp_core hK st rx ry h (fun n m a b c => lt_py n m dx dy a b c) k
  · cases e
theorem cls_gtD (hK : X.K = G.K) (hr : Room k X.A) : ∃ r, OpR X (compareOp .Gt) r ∧ S2 G r fGtA := by
  obtain ⟨r, h1, h2⟩ := cls_gt (X := X) (G := G)
  refine ⟨_, orR h1 (op_gtD hr.units), S2_or h2 fun F H σ S T x y dx dy kd Q st rx ry e k => ?_⟩
  unfold fGtD kz at e
  split at e
  · rename_i h; cases e; exact cmp_core hK st rx ry h (fun n m a b c => alk_symm n m a b c) k
  · cases e
theorem cls_leD (hK : X.K = G.K) (hr : Room k X.A) : ∃ r, OpR X (compareOp .LtE) r ∧ S2 G r fLeA := by
  obtain ⟨r, h1, h2⟩ := cls_le (X := X) (G := G)
  refine ⟨_, orR h1 (op_leD hr.units), S2_or h2 fun F H σ S T x y dx dy kd Q st rx ry e k => ?_⟩
  unfold fLeD kz at e
  split at e
  · rename_i h; cases e; exact cmp_core hK st rx ry h (fun n m a b c => congrArg _ (alk_symm n m a b c)) k
  · cases e
theorem cls_geD (hK : X.K = G.K) (hr : Room k X.A) : ∃ r, OpR X (compareOp .GtE) r ∧ S2 G r fGeA := by
  obtain ⟨r, h1, h2⟩ := cls_ge (X := X) (G := G)
  refine ⟨_, orR h1 (op_geD hr.units), S2_or h2 fun F H σ S T x y dx dy kd Q st rx ry e k => ?_⟩
  unfold fGeD kz at e
  split at e
  · rename_i h; cases e; exact cmp_core hK st rx ry h (fun n m a b c => congrArg _ (lt_py n m dx dy a b c)) k
  · cases e
end
end TB

namespace TB
open PySem PyProof.Rows L2
theorem dp_reads_each {X : Cx} {pins : List (Addr × Obj)} {σ : L2.St} {H : Hp} {s : Shared} (I : Inv X pins σ H s) : ∀ {bs : List (V × PyData)} {us : List Value}, Vals (bs.map (·.1)) us → (∀ b ∈ bs, Dp X.K H b.1 b.2) →
    PySem.W.EachIs (fun u (b : V × PyData) => RelV b.1 u) us bs ∧ PySem.W.EachIs (fun u (b : V × PyData) => ∃ as, Reads s.heap u b.2 as) us bs
  | [], us, r, _ => by
    cases r; exact ⟨.nil, .nil⟩
  | b :: bs, us, r, h => by
    have r : Vals (b.1 :: bs.map (·.1)) us := r
    cases r with
    | cons r1 r2 =>
      obtain ⟨x, y⟩ := dp_reads_each I r2 fun c hc => h c (List.mem_cons_of_mem _ hc)
      exact ⟨.cons r1 x, .cons (Dp.reads I _ _ _ (h b List.mem_cons_self) r1) y⟩
theorem vals_each : ∀ {bs : List (V × PyData)} {us : List Value}, PySem.W.EachIs (fun u (b : V × PyData) => RelV b.1 u) us bs → Vals (bs.map (·.1)) us
  | _, _, .nil => .nil
  | _, _, .cons a r => .cons a (vals_each r)
/-- sorted(xs), xs a list of data of one form, of any length -/
def rSortedD (K : PySem.W.Frag) : List V → Hp → VK → Prop := fun vs H Q => ∃ (a : Addr) (bs : List (V × PyData)), vs = [V.ref a] ∧ SqL K H a (bs.map (·.1)) ∧ (∀ b ∈ bs, Dp K H b.1 b.2) ∧ PySem.W.AllAlike (bs.map (·.2)) ∧ PySem.W.Sortable (bs.map (·.2)) ∧ (∀ b ∈ bs, b.2.depth ≤ 60) ∧
  ∀ p, H p = none → Q (.ref p) (upd H p (.lst ((bs.mergeSort (PySem.W.dataLe false (·.2))).map (·.1))))
theorem cr_sortedD {X : Cx} (hu : X.A.units + 64 < cLine) : CallR X (.builtin "sorted") (rSortedD X.K) := by
  intro pins s σ H vs us Q I r ⟨a, bs, e, hs, hd, ha, hk, hz, q⟩
  subst e
  obtain ⟨its, rv, hl, hzl⟩ := I.list hs
  obtain ⟨u, rfl, ru⟩ := vals1 r
  obtain rfl : u = Value.ref a := ru
  obtain ⟨e1, e2⟩ := dp_reads_each I rv hd
  have hlen : bs.length ≤ sizeLine := by simpa using hzl
  refine PySem.W.sorted_data (enc := fun b : V × PyData => b.2) hl.isList e1 e2 ha hk hlen (fun b hb => by have := hz b hb; omega) fun out ho he => ?_
  obtain ⟨n, hn⟩ := sortedAll_at s.heap its (List.toArray out)
  refine ⟨.ref (s.heap.objs.size + 1), _, I.laid (t' := s.toks) (o := .lst ((bs.mergeSort (PySem.W.dataLe false (·.2))).map (·.1))) (fun b o e => sortedAll_old e) (Nat.le_succ _) ⟨?_, out, n, vals_each he, hn⟩, rfl, q _ (I.hok.fresh (Nat.le_succ _))⟩
  rw [List.length_map, List.length_mergeSort]
  exact hlen
section
variable {X : Cx} {G : Cfgx} {W : WX} {k : Nat} {F H : Hp} {σ : L2.St} {S : List Slot} {T : Cnt}
theorem reps_zip {F : Hp} : ∀ {zs : List (V × D)}, (∀ p ∈ zs, Rep G F p.1 p.2) → Reps G F (zs.map (·.1)) (zs.map (·.2))
  | [], _ => .nil
  | p :: zs, h => .cons (h p List.mem_cons_self) (reps_zip fun q hq => h q (List.mem_cons_of_mem _ hq))
theorem zip_reps {F : Hp} : ∀ {vs : List V} {ds : List D}, Reps G F vs ds → ∀ p ∈ vs.zip ds, Rep G F p.1 p.2
  | _, _, .nil, p, h => by simp at h
  | _, _, .cons a r, p, h => by
    rw [List.zip_cons_cons] at h
    rcases List.mem_cons.mp h with rfl | h
    · exact a
    · exact zip_reps r p h
theorem zip_fst {α β : Type} : ∀ {as : List α} {bs : List β}, as.length = bs.length → (as.zip bs).map (·.1) = as
  | [], [], _ => rfl
  | a :: as, b :: bs, h => by simp [zip_fst (as := as) (bs := bs) (by simpa using h)]
theorem zip_snd {α β : Type} : ∀ {as : List α} {bs : List β}, as.length = bs.length → (as.zip bs).map (·.2) = bs
  | [], [], _ => rfl
  | a :: as, b :: bs, h => by simp [zip_snd (as := as) (bs := bs) (by simpa using h)]
theorem mem_zip_snd {α β : Type} {as : List α} {bs : List β} {p : α × β} (h : p ∈ as.zip bs) : p.2 ∈ bs := (List.of_mem_zip h).2
/-- the core: data vs of one form sorted by le -/
theorem sorted_core (hK : X.K = G.K) {a : Addr} {xs : List V} {ds : List D} {Q : VK} (le : D → D → Bool) (st : St' G F H σ S T) (hl : F a = some (.lst xs)) (rs : Reps G F xs ds) (hy : D.lays 60 ds = true) (ha : ∀ x ∈ ds, ∀ y ∈ ds, D.alk x y = true) (hk : PySem.W.Sortable (ds.map toPy))
    (he : ∀ x ∈ ds, ∀ y ∈ ds, PySem.W.dataLt (toPy y) (toPy x) = !le x y) (k : KE G F H σ T Q (.li .fz, .lst (ds.mergeSort le)) S) : rSortedD X.K [.ref a] H Q := by
  have hlen : xs.length = ds.length := rs.len
  have e1 : ((xs.zip ds).map fun p => (p.1, toPy p.2)).map (·.1) = xs := by
    rw [List.map_map]; exact zip_fst hlen
  have e2 : ((xs.zip ds).map fun p => (p.1, toPy p.2)).map (·.2) = ds.map toPy := by
    rw [List.map_map]
    have : (xs.zip ds).map ((fun x : V × PyData => x.2) ∘ fun p : V × D => (p.1, toPy p.2)) = ((xs.zip ds).map (·.2)).map toPy := by rw [List.map_map]; rfl
    rw [this, zip_snd hlen]
  have hz := zip_reps (rs.mono st.sub)
  refine ⟨a, (xs.zip ds).map fun p => (p.1, toPy p.2), rfl, ?_, ?_, ?_, ?_, ?_, fun p hp => ?_⟩
  · rw [e1]; exact .inl (.inl (st.sub _ _ hl))
  · intro b hb
    obtain ⟨p, hp, rfl⟩ := List.mem_map.mp hb
    rw [hK]
    exact dp_of 60 p.2 p.1 (lays_mem hy _ (mem_zip_snd hp)) (hz p hp)
  · rw [e2]
    intro d hd d' hd'
    obtain ⟨x, hx, rfl⟩ := List.mem_map.mp hd
    obtain ⟨y, hyy, rfl⟩ := List.mem_map.mp hd'
    exact alk_py x y (ha x hx y hyy)
  · rw [e2]; exact hk
  · intro b hb
    obtain ⟨p, hp, rfl⟩ := List.mem_map.mp hb
    exact (lay_py 60 p.2 (lays_mem hy _ (mem_zip_snd hp))).2
  · have m1 : ((xs.zip ds).mergeSort fun p q => le p.2 q.2).map (fun p => (p.1, toPy p.2)) = ((xs.zip ds).map fun p => (p.1, toPy p.2)).mergeSort (PySem.W.dataLe false (·.2)) := by
      refine List.map_mergeSort fun p hp q hq => ?_
      rw [PySem.W.dataLe_eq]
      show le p.2 q.2 = !PySem.W.dataLt (toPy q.2) (toPy p.2)
      rw [he _ (mem_zip_snd hp) _ (mem_zip_snd hq), Bool.not_not]
    have m2 : ((xs.zip ds).mergeSort fun p q => le p.2 q.2).map (·.2) = ds.mergeSort le := by
      have := List.map_mergeSort (r := fun p q : V × D => le p.2 q.2) (s := le) (f := (·.2)) (l := xs.zip ds) fun p hp q hq => rfl
      rw [this, zip_snd hlen]
    have m3 : (((xs.zip ds).map fun p => (p.1, toPy p.2)).mergeSort (PySem.W.dataLe false (·.2))).map (·.1) = ((xs.zip ds).mergeSort fun p q => le p.2 q.2).map (·.1) := by
      rw [← m1, List.map_map]; rfl
    rw [m3]
    refine KE.newL k st ?_ p hp
    rw [← m2]
    exact reps_zip fun p hp => zip_reps rs p ((List.mergeSort_perm _ _).mem_iff.mp hp)
theorem alkAll_ok {ds : List D} (h : alkAll ds = true) : ∀ x ∈ ds, ∀ y ∈ ds, D.alk x y = true := fun x hx y hy => List.all_eq_true.mp (List.all_eq_true.mp h x hx) y hy
theorem toPys_map : ∀ ds : List D, toPys ds = ds.map toPy
  | [] => rfl
  | d :: ds => by simp [toPys, toPys_map ds]
theorem lay_str {F : Hp} {v : V} {s : List Nat} (n : Nat) (r : Rep G F v (.str s)) : (D.str s).lay n = true ∨ ∃ z : PySem.Str, v = .str z ∧ z.cps.toList = s := by
  cases r with
  | str z => exact .inr ⟨z, rfl, rfl⟩
theorem SN_or1 {r r' : List V → Hp → VK → Prop} {f g : List D → Option KD} (h : SN G r f) (h' : SN G r' g) : SN G (fun x H Q => r x H Q ∨ r' x H Q) (fOr1 f g) := fun F H σ S T xs ds kd Q st rs e k => by
  unfold fOr1 at e
  cases e1 : f ds with
  | some a => rw [e1] at e; cases e; exact .inl (h F H σ S T xs ds _ Q st rs e1 k)
  | none => rw [e1] at e; exact .inr (h' F H σ S T xs ds _ Q st rs e k)
theorem sn_sortedT (hK : X.K = G.K) : SN G (rSortedD X.K) fSortedT := fun F H σ S T xs ds kd Q st rs e k => by
  rcases rs with _ | ⟨r1, _ | ⟨r2, r3⟩⟩
  · simp [fSortedT] at e
  · cases r1 <;> simp only [fSortedT, reduceCtorEq] at e
    rename_i a ys as hl ra
    cases e2 : strsOf as with
    | some ss =>
      rw [e2] at e
      have e : (if ss.length ≤ sizeMax then some ((.li .fz, .lst ((sortT ss).map D.str)) : KD) else none) = some kd := e
      split at e
      · rename_i hz
        cases e
        obtain ⟨zs, ex, ez⟩ := strs_of ra e2
        subst ex ez
        refine ⟨a, zs.map fun z => (V.str z, PyData.str z), rfl, ?_, ?_, ?_, ?_, ?_, fun p hp => ?_⟩
        · rw [List.map_map]; exact .inl (.inl (st.sub _ _ hl))
        · intro b hb
          obtain ⟨z, _, rfl⟩ := List.mem_map.mp hb
          exact .str z
        · rw [List.map_map]; exact PySem.W.AllAlike.of fun _ _ => by simp [PySem.W.alike]
        · rw [List.map_map]; exact PySem.W.Sortable.others fun z => ⟨by simp, by simp⟩
        · intro b hb
          obtain ⟨z, _, rfl⟩ := List.mem_map.mp hb
          exact Nat.zero_le _
        · have m1 : (zs.mergeSort fun z w => !decide (w.cps.toList < z.cps.toList)).map (fun z => (V.str z, PyData.str z)) = (zs.map fun z => (V.str z, PyData.str z)).mergeSort (PySem.W.dataLe false (·.2)) := by
            refine List.map_mergeSort fun z _ w _ => ?_
            rw [PySem.W.dataLe_eq]
            show _ = !PySem.W.dataLt (.str w) (.str z)
            rw [PySem.W.dataLt_str]
          have m2 : ((zs.mergeSort fun z w => !decide (w.cps.toList < z.cps.toList)).map fun z => z.cps.toList) = sortT (zs.map fun z => z.cps.toList) := by
            unfold sortT
            exact List.map_mergeSort fun z _ w _ => rfl
          rw [← m1, List.map_map]
          rw [← m2] at k
          exact KE.newL k st (reps_strs _) p hp
      · cases e
    | none => rw [e2] at e; cases e
  · cases r1 <;> simp [fSortedT] at e
theorem sn_sortD (hK : X.K = G.K) : SN G (rSortedD X.K) fSortD := fun F H σ S T xs ds kd Q st rs e k => by
  rcases rs with _ | ⟨r1, _ | ⟨r2, r3⟩⟩
  · simp [fSortD] at e
  · cases r1 <;> simp only [fSortD, reduceCtorEq] at e
    rename_i a ys as hl ra
    split at e
    · rename_i hz
      obtain ⟨hz, hn⟩ := hz
      cases e
      unfold sortOk at hz
      obtain ⟨hz, h3⟩ := Bool.and_eq_true_iff.mp hz
      obtain ⟨h1, h2⟩ := Bool.and_eq_true_iff.mp hz
      refine sorted_core hK leD st hl ra h3 (alkAll_ok h2) (.inl fun d hd => ?_) (fun x hx y hy => ?_) k
      · obtain ⟨x, hx, rfl⟩ := List.mem_map.mp hd
        have := List.all_eq_true.mp h1 x hx
        cases x with
        | tup xs =>
          cases xs with
          | nil => simp [D.isTup1] at this
          | cons x xs => exact ⟨toPy x, toPys xs, by simp only [toPy, toPys]⟩
        | _ => simp [D.isTup1] at this
      · unfold leD
        rw [Bool.not_not]
        exact lt_py 60 60 y x (alkAll_ok h2 y hy x hx) (lays_mem h3 y hy) (lays_mem h3 x hx)
    · cases e
  · cases r1 <;> simp [fSortD] at e
theorem cls_sortedA (hK : X.K = G.K) (hr : Room k X.A) : ∃ r, CallR X (.builtin "sorted") r ∧ SN G r fSortedA := by
  obtain ⟨r, h1, h2⟩ := cls_sorted (X := X) (G := G) hK
  exact ⟨_, h1.or ((cr_sortedD hr.units).or (cr_sortedD hr.units)), SN_or1 h2 (SN_or1 (sn_sortedT hK) (sn_sortD hK))⟩
end
end TB

namespace TB
open PySem PyProof.Rows L2
mutual
theorem py_inj : ∀ (n m : Nat) (x y : D), x.lay n = true → y.lay m = true → toPy x = toPy y → x = y := by
  intro n m x y hx hy e
  cases x <;> cases y <;> first | (simp [D.lay] at hx; done) | (simp [D.lay] at hy; done) | (simp [toPy] at e; done) | rfl | skip
  case bl.bl => simp [toPy] at e; rw [e]
  case int.int => simp [toPy] at e; rw [e]
  case str.str => simp [toPy] at e; rw [e]
  case lst.lst xs ys =>
    cases n with
    | zero => simp [D.lay] at hx
    | succ n =>
      cases m with
      | zero => simp [D.lay] at hy
      | succ m => rw [pys_inj n m xs ys (by simpa [D.lay] using hx) (by simpa [D.lay] using hy) (by simpa [toPy] using e)]
  case tup.tup xs ys =>
    cases n with
    | zero => simp [D.lay] at hx
    | succ n =>
      cases m with
      | zero => simp [D.lay] at hy
      | succ m => rw [pys_inj n m xs ys (by simpa [D.lay] using hx) (by simpa [D.lay] using hy) (by simpa [toPy] using e)]
theorem pys_inj : ∀ (n m : Nat) (xs ys : List D), D.lays n xs = true → D.lays m ys = true → toPys xs = toPys ys → xs = ys
  | _, _, [], [], _, _, _ => rfl
  | _, _, [], _ :: _, _, _, e => by simp [toPys] at e
  | _, _, _ :: _, [], _, _, e => by simp [toPys] at e
  | n, m, x :: xs, y :: ys, hx, hy, e => by
    unfold D.lays at hx hy
    obtain ⟨h1, h2⟩ := Bool.and_eq_true_iff.mp hx
    obtain ⟨h3, h4⟩ := Bool.and_eq_true_iff.mp hy
    have e : toPy x = toPy y ∧ toPys xs = toPys ys := by simpa [toPys] using e
    rw [py_inj n m x y h1 h3 e.1, pys_inj n m xs ys h2 h4 e.2]
end
theorem fold_mem {α : Type} (f : α → α → Bool) : ∀ (xs : List α) (x : α), xs.foldl (fun a y => if f y a = true then y else a) x ∈ x :: xs
  | [], x => by simp
  | y :: ys, x => by
    simp only [List.foldl_cons]
    have := fold_mem f ys (if f y x = true then y else x)
    rcases List.mem_cons.mp this with h | h
    · rw [h]; split <;> simp
    · exact List.mem_cons_of_mem _ (List.mem_cons_of_mem _ h)
theorem min_py : ∀ (ds : List D) (d : D), (∀ x ∈ d :: ds, ∀ y ∈ d :: ds, D.alk x y = true) → (∀ x ∈ d :: ds, x.lay 60 = true) → PySem.W.minD (toPy d) (ds.map toPy) = toPy (minD d ds)
  | [], d, _, _ => rfl
  | e :: ds, d, h, hl => by
    have e1 : PySem.W.dataLt (toPy e) (toPy d) = D.lt e d := lt_py 60 60 e d (h e (by simp) d (by simp)) (hl e (by simp)) (hl d (by simp))
    have := min_py ds (if D.lt e d = true then e else d) (fun x hx y hy => h x (by
        rcases List.mem_cons.mp hx with q | q
        · rw [q]; split <;> simp
        · simp [q]) y (by
        rcases List.mem_cons.mp hy with q | q
        · rw [q]; split <;> simp
        · simp [q])) (fun x hx => hl x (by
        rcases List.mem_cons.mp hx with q | q
        · rw [q]; split <;> simp
        · simp [q]))
    unfold PySem.W.minD minD at this ⊢
    simp only [List.map_cons, List.foldl_cons]
    rw [← this, e1]
    congr 1
    split <;> rfl
theorem max_py : ∀ (ds : List D) (d : D), (∀ x ∈ d :: ds, ∀ y ∈ d :: ds, D.alk x y = true) → (∀ x ∈ d :: ds, x.lay 60 = true) → PySem.W.maxD (toPy d) (ds.map toPy) = toPy (maxD d ds)
  | [], d, _, _ => rfl
  | e :: ds, d, h, hl => by
    have e1 : PySem.W.dataLt (toPy d) (toPy e) = D.lt d e := lt_py 60 60 d e (h d (by simp) e (by simp)) (hl d (by simp)) (hl e (by simp))
    have := max_py ds (if D.lt d e = true then e else d) (fun x hx y hy => h x (by
        rcases List.mem_cons.mp hx with q | q
        · rw [q]; split <;> simp
        · simp [q]) y (by
        rcases List.mem_cons.mp hy with q | q
        · rw [q]; split <;> simp
        · simp [q])) (fun x hx => hl x (by
        rcases List.mem_cons.mp hx with q | q
        · rw [q]; split <;> simp
        · simp [q]))
    unfold PySem.W.maxD maxD at this ⊢
    simp only [List.map_cons, List.foldl_cons]
    rw [← this, e1]
    congr 1
    split <;> rfl
theorem depthAll_le : ∀ {n : Nat} {ds : List D}, D.lays n ds = true → PyData.depthAll (ds.map toPy) ≤ n := fun {n ds} h => by
  rw [← toPys_map]; exact (lays_py n ds h).2
def rBestD (best : PyData → List PyData → PyData) (K : PySem.W.Frag) : List V → Hp → VK → Prop := fun vs H Q => ∃ (a : Addr) (xs : List V) (d : PyData) (ds : List PyData), vs = [V.ref a] ∧ SqL K H a xs ∧ DpAll K H xs (d :: ds) ∧ PySem.W.AlikeAll (d :: ds) ∧ PyData.depthAll (d :: ds) ≤ 60 ∧
  ∀ (i : Nat) (v : V), xs[i]? = some v → (d :: ds)[i]? = some (best d ds) → Q v H
theorem dps_reads {X : Cx} {pins : List (Addr × Obj)} {σ : L2.St} {H : Hp} {s : Shared} (I : Inv X pins σ H s) : ∀ {xs : List V} {ds : List PyData} {us : List Value}, Vals xs us → DpAll X.K H xs ds → ∃ as, ReadsAll s.heap us ds as
  | _, _, _, .nil, .nil => ⟨_, .nil⟩
  | _, _, _, .cons r1 r2, .cons d1 d2 => by
    obtain ⟨as, a⟩ := Dp.reads I _ _ _ d1 r1
    obtain ⟨bs, b⟩ := dps_reads I r2 d2
    exact ⟨_, .cons a b⟩
theorem alike_one {h : Heap} {ds : List PyData} {u : Value} {d e : PyData} {as bs : List Addr} (al : PySem.W.alike d e = true) (r1 : Reads h u d as) (r2 : Reads h u e bs) : d = e := PySem.W.alike_unique d e u as bs al r1 r2
theorem vals_back : ∀ {xs : List V} {us : List Value} {i : Nat} {u : Value}, Vals xs us → us[i]? = some u → ∃ x, xs[i]? = some x ∧ RelV x u
  | _, _, i, u, .nil, h => by simp at h
  | _, _, 0, u, .cons a r, h => by simp at h; subst h; exact ⟨_, rfl, a⟩
  | _, _, i + 1, u, .cons a r, h => vals_back (i := i) r (by simpa using h)
theorem cr_minD {X : Cx} (hh : X.A.handled = none) (hu : X.A.units + 64 < cLine) : CallR X (.builtin "min") (rBestD PySem.W.minD X.K) := by
  intro pins s σ H vs us Q I r ⟨a, xs, d, ds, e, hs, hd, ha, hz, q⟩
  subst e
  obtain ⟨its, rv, hl, hzl⟩ := I.list hs
  obtain ⟨u, rfl, ru⟩ := vals1 r
  obtain rfl : u = Value.ref a := ru
  obtain ⟨as, ra⟩ := dps_reads I rv hd
  refine PySem.W.min_list_data hh hl.isList (by simpa using ra) ha (by omega) fun i v h' tk bs hv rd kp => ?_
  have hv : its[i]? = some v := by simpa using hv
  obtain ⟨x, hx, rx⟩ := vals_back rv hv
  refine ⟨x, H, I.kept (t' := tk) kp, rx, q i x hx ?_⟩
  obtain ⟨cs, rc, hi, hm, _⟩ := PySem.W.readsAll_at ra i v hv
  have hg : (d :: ds).getD i .none = PySem.W.minD d ds := by
    refine alike_one (ds := d :: ds) (ha.1 _ hm _ ?_) (Reads.keeps kp rc) rd
    unfold PySem.W.minD
    exact fold_mem PySem.W.dataLt ds d
  rw [← hg, List.getD_eq_getElem?_getD, List.getElem?_eq_getElem hi]; rfl
theorem cr_maxD {X : Cx} (hh : X.A.handled = none) (hu : X.A.units + 64 < cLine) : CallR X (.builtin "max") (rBestD PySem.W.maxD X.K) := by
  intro pins s σ H vs us Q I r ⟨a, xs, d, ds, e, hs, hd, ha, hz, q⟩
  subst e
  obtain ⟨its, rv, hl, hzl⟩ := I.list hs
  obtain ⟨u, rfl, ru⟩ := vals1 r
  obtain rfl : u = Value.ref a := ru
  obtain ⟨as, ra⟩ := dps_reads I rv hd
  refine PySem.W.max_list_data hh hl.isList (by simpa using ra) ha (by omega) fun i v h' tk bs hv rd kp => ?_
  have hv : its[i]? = some v := by simpa using hv
  obtain ⟨x, hx, rx⟩ := vals_back rv hv
  refine ⟨x, H, I.kept (t' := tk) kp, rx, q i x hx ?_⟩
  obtain ⟨cs, rc, hi, hm, _⟩ := PySem.W.readsAll_at ra i v hv
  have hg : (d :: ds).getD i .none = PySem.W.maxD d ds := by
    refine alike_one (ds := d :: ds) (ha.1 _ hm _ ?_) (Reads.keeps kp rc) rd
    unfold PySem.W.maxD
    exact fold_mem (fun x y => PySem.W.dataLt y x) ds d
  rw [← hg, List.getD_eq_getElem?_getD, List.getElem?_eq_getElem hi]; rfl
section
variable {X : Cx} {G : Cfgx} {W : WX} {k : Nat} {F H : Hp} {σ : L2.St} {S : List Slot} {T : Cnt}
theorem best_core (hK : X.K = G.K) {a : Addr} {xs : List V} {d : D} {ds : List D} {Q : VK} {best : PyData → List PyData → PyData} {b : D} (st : St' G F H σ S T) (hl : F a = some (.lst xs)) (rs : Reps G F xs (d :: ds)) (hy : D.lays 60 (d :: ds) = true) (ha : alkAll (d :: ds) = true)
    (hb : best (toPy d) (ds.map toPy) = toPy b) (hm : b ∈ d :: ds) (k : KE G F H σ T Q (.fz, b) S) : rBestD best X.K [.ref a] H Q := by
  have al := alkAll_ok ha
  have ly := lays_mem hy
  refine ⟨a, xs, toPy d, ds.map toPy, rfl, .inl (.inl (st.sub _ _ hl)), ?_, ⟨?_, ?_⟩, ?_, fun i v hv e => ?_⟩
  · rw [hK]
    have := dps_of 60 (d :: ds) xs hy (rs.mono st.sub)
    rwa [toPys_map] at this
  · intro x hx y hyy
    have hx : x ∈ (d :: ds).map toPy := hx
    have hyy : y ∈ (d :: ds).map toPy := hyy
    obtain ⟨x', h1, rfl⟩ := List.mem_map.mp hx
    obtain ⟨y', h2, rfl⟩ := List.mem_map.mp hyy
    exact alk_py _ _ (al _ h1 _ h2)
  · intro x hx
    have hx : x ∈ (d :: ds).map toPy := hx
    obtain ⟨x', h1, rfl⟩ := List.mem_map.mp hx
    have := al _ h1 _ h1
    cases x' <;> simp [D.alk, toPy] at this ⊢
  · exact depthAll_le hy
  · have e : ((d :: ds).map toPy)[i]? = some (best (toPy d) (ds.map toPy)) := e
    rw [List.getElem?_map, hb] at e
    cases e2 : (d :: ds)[i]? with
    | none => rw [e2] at e; cases e
    | some c =>
      rw [e2] at e
      have e : toPy c = toPy b := by simpa using e
      have : c = b := py_inj 60 60 c b (ly c (List.mem_of_getElem? e2)) (ly b hm) e
      subst this
      obtain ⟨w, hw, rw'⟩ := rs.get e2
      rw [hv] at hw; cases hw
      exact KE.val k st rw'
theorem cls_minL (hK : X.K = G.K) (hr : Room k X.A) (hc : X.calm = true) : ∃ r, CallR X (.builtin "min") r ∧ SN G r (fOr1 fMin2 fMinL) := by
  obtain ⟨r, h1, h2⟩ := cls_min2 (X := X) (G := G) hc
  refine ⟨_, h1.or (cr_minD hr.hd hr.units), SN_or1 h2 fun F H σ S T xs ds kd Q st rs e k => ?_⟩
  rcases rs with _ | ⟨r1, _ | ⟨r2, r3⟩⟩
  · simp [fMinL] at e
  · cases r1 <;> simp only [fMinL, reduceCtorEq] at e
    rename_i a ys as hl ra
    cases as with
    | nil => simp [fMinL] at e
    | cons d as =>
      simp only [fMinL] at e
      split at e
      · rename_i hz
        cases e
        exact best_core hK st hl ra hz.2.1 hz.1 (min_py as d (alkAll_ok hz.1) (lays_mem hz.2.1)) (by unfold minD; exact fold_mem D.lt as d) k
      · cases e
  · cases r1 <;> simp [fMinL] at e
theorem cls_maxL (hK : X.K = G.K) (hr : Room k X.A) (hc : X.calm = true) : ∃ r, CallR X (.builtin "max") r ∧ SN G r (fOr1 fMax2 fMaxL) := by
  obtain ⟨r, h1, h2⟩ := cls_max2 (X := X) (G := G) hc
  refine ⟨_, h1.or (cr_maxD hr.hd hr.units), SN_or1 h2 fun F H σ S T xs ds kd Q st rs e k => ?_⟩
  rcases rs with _ | ⟨r1, _ | ⟨r2, r3⟩⟩
  · simp [fMaxL] at e
  · cases r1 <;> simp only [fMaxL, reduceCtorEq] at e
    rename_i a ys as hl ra
    cases as with
    | nil => simp [fMaxL] at e
    | cons d as =>
      simp only [fMaxL] at e
      split at e
      · rename_i hz
        cases e
        exact best_core hK st hl ra hz.2.1 hz.1 (max_py as d (alkAll_ok hz.1) (lays_mem hz.2.1)) (by unfold maxD; exact fold_mem (fun x y => D.lt y x) as d) k
      · cases e
  · cases r1 <;> simp [fMaxL] at e
end
end TB

/-! TbT1: what is owned, at a path. -/
namespace TB
open PySem L2
mutual
theorem Kd.eq_of_beq : ∀ {a b : Kd}, Kd.beq a b = true → a = b
  | .fz, .fz, _ => rfl
  | .dN, .dN, _ => rfl
  | .li a, .li b, h => by simp only [Kd.beq] at h; rw [Kd.eq_of_beq h]
  | .dK a, .dK b, h => by simp only [Kd.beq] at h; rw [Kd.eq_of_beq h]
  | .dT a, .dT b, h => by simp only [Kd.beq] at h; rw [Kd.eq_of_beq h]
  | .dR a, .dR b, h => by simp only [Kd.beq] at h; rw [Kd.eqs_of_beq h]
  | .ob a, .ob b, h => by simp only [Kd.beq] at h; rw [Kd.eqs_of_beq h]
  | .fz, .li _, h => by simp [Kd.beq] at h
  | .fz, .dK _, h => by simp [Kd.beq] at h
  | .fz, .dT _, h => by simp [Kd.beq] at h
  | .fz, .dR _, h => by simp [Kd.beq] at h
  | .fz, .dN, h => by simp [Kd.beq] at h
  | .fz, .ob _, h => by simp [Kd.beq] at h
  | .li _, .fz, h => by simp [Kd.beq] at h
  | .li _, .dK _, h => by simp [Kd.beq] at h
  | .li _, .dT _, h => by simp [Kd.beq] at h
  | .li _, .dR _, h => by simp [Kd.beq] at h
  | .li _, .dN, h => by simp [Kd.beq] at h
  | .li _, .ob _, h => by simp [Kd.beq] at h
  | .dK _, .fz, h => by simp [Kd.beq] at h
  | .dK _, .li _, h => by simp [Kd.beq] at h
  | .dK _, .dT _, h => by simp [Kd.beq] at h
  | .dK _, .dR _, h => by simp [Kd.beq] at h
  | .dK _, .dN, h => by simp [Kd.beq] at h
  | .dK _, .ob _, h => by simp [Kd.beq] at h
  | .dT _, .fz, h => by simp [Kd.beq] at h
  | .dT _, .li _, h => by simp [Kd.beq] at h
  | .dT _, .dK _, h => by simp [Kd.beq] at h
  | .dT _, .dR _, h => by simp [Kd.beq] at h
  | .dT _, .dN, h => by simp [Kd.beq] at h
  | .dT _, .ob _, h => by simp [Kd.beq] at h
  | .dR _, .fz, h => by simp [Kd.beq] at h
  | .dR _, .li _, h => by simp [Kd.beq] at h
  | .dR _, .dK _, h => by simp [Kd.beq] at h
  | .dR _, .dT _, h => by simp [Kd.beq] at h
  | .dR _, .dN, h => by simp [Kd.beq] at h
  | .dR _, .ob _, h => by simp [Kd.beq] at h
  | .dN, .fz, h => by simp [Kd.beq] at h
  | .dN, .li _, h => by simp [Kd.beq] at h
  | .dN, .dK _, h => by simp [Kd.beq] at h
  | .dN, .dT _, h => by simp [Kd.beq] at h
  | .dN, .dR _, h => by simp [Kd.beq] at h
  | .dN, .ob _, h => by simp [Kd.beq] at h
  | .ob _, .fz, h => by simp [Kd.beq] at h
  | .ob _, .li _, h => by simp [Kd.beq] at h
  | .ob _, .dK _, h => by simp [Kd.beq] at h
  | .ob _, .dT _, h => by simp [Kd.beq] at h
  | .ob _, .dR _, h => by simp [Kd.beq] at h
  | .ob _, .dN, h => by simp [Kd.beq] at h
theorem Kd.eqs_of_beq : ∀ {a b : List Kd}, Kd.beqs a b = true → a = b
  | [], [], _ => rfl
  | a :: as, b :: bs, h => by
    simp only [Kd.beqs, Bool.and_eq_true] at h
    rw [Kd.eq_of_beq h.1, Kd.eqs_of_beq h.2]
  | [], _ :: _, h => by simp [Kd.beqs] at h
  | _ :: _, [], h => by simp [Kd.beqs] at h
end
/-- the way through what is owned -/
inductive Nav (G : Cfg) (H : Hp) : V → List PV → V → Prop
  | nil (v : V) : Nav G H v [] v
  | fld {a dx : Addr} {c n : Nat} {fs : List (PySem.Str × V)} {w v : V} {p : List PV} : H a = some (.ins (G.ca c) dx fs) → fs.map (·.1) = (G.cn c).take fs.length → (fs.map (·.2))[n]? = some w → Nav G H w p v → Nav G H (.ref a) (.fld c n :: p) v
  | key {a : Addr} {kvs : List (Key × V)} {kk : Key} {w v : V} {p : List PV} : H a = some (.dK kvs) → valV kvs kk = some w → Nav G H w p v → Nav G H (.ref a) (.key (keyD kk) :: p) v
  | ix {a : Addr} {xs : List V} {i : Int} {n : Nat} {w v : V} {p : List PV} : H a = some (.lst xs) → normIx xs.length i = some n → xs[n]? = some w → Nav G H w p v → Nav G H (.ref a) (.ix i :: p) v
theorem keyD_inj {a b : Key} (h : keyD a = keyD b) : a = b := by
  have : D.eqv (keyD a) (keyD b) = true := by rw [h, key_eqv]; simp
  rw [key_eqv] at this
  exact of_decide_eq_true this
theorem Nav.uniq {G : Cfg} {H : Hp} : ∀ {p : List PV} {v a b : V}, Nav G H v p a → Nav G H v p b → a = b
  | _, _, _, _, .nil _, .nil _ => rfl
  | _, _, _, _, .fld h1 _ h2 r, .fld g1 _ g2 r' => by
    obtain ⟨_, _, rfl⟩ := HO.ins.inj (Option.some.inj (h1.symm.trans g1))
    rw [h2] at g2; cases g2
    exact r.uniq r'
  | _, _, _, _, .key (kk := kk) h1 h2 r, n2 => by
    generalize hk : keyD kk = x at n2
    cases n2 with
    | @key _ _ kk' _ _ _ g1 g2 r' =>
      have := keyD_inj hk
      subst this
      rw [h1] at g1; cases g1
      rw [h2] at g2; cases g2
      exact r.uniq r'
  | _, _, _, _, .ix h1 h0 h2 r, .ix g1 g0 g2 r' => by
    rw [h1] at g1; cases g1
    rw [h0] at g0; cases g0
    rw [h2] at g2; cases g2
    exact r.uniq r'
section
variable {G : Cfg} {F H : Hp}
theorem OwnL.at : ∀ {ks : List Kd} {vs : List V} {ds : List D} {g : Cnt} {n : Nat} {k : Kd} {d : D}, OwnL G F H ks vs ds g → ks[n]? = some k → ds[n]? = some d → ∃ v f g0, (∀ a, g a = f a + g0 a) ∧ vs[n]? = some v ∧ Own G F H k v d f ∧
    ∀ F1 H1 k1 d1 f1, Same F F1 → (∀ a o, g0 a ≠ 0 → H a = some o → H1 a = some o) → Own G F1 H1 k1 v d1 f1 → OwnL G F1 H1 (ks.set n k1) vs (ds.set n d1) (add f1 g0)
  | _, _, _, _, n, _, _, .nil, e, _ => by simp at e
  | _, _, _, _, 0, k, d, .cons (f := f) (g := g) h r, e1, e2 => by
    cases (show some _ = some k from e1)
    cases (show some _ = some d from e2)
    exact ⟨_, f, g, fun a => rfl, rfl, h, fun F1 H1 k1 d1 f1 sf m o => .cons o (r.mono sf m)⟩
  | _, _, _, _, n + 1, k, d, .cons (f := f) (g := g) h r, e1, e2 => by
    obtain ⟨v, f2, g0, hg, hv, ho, back⟩ := OwnL.at (n := n) r e1 e2
    refine ⟨v, f2, add f g0, fun a => by simp only [add]; have := hg a; omega, hv, ho, fun F1 H1 k1 d1 f1 sf m o => ?_⟩
    have q := OwnL.cons (h.mono sf fun a o n => m a o (by simp only [add]; omega)) (back F1 H1 k1 d1 f1 sf (fun a o n => m a o (by simp only [add]; omega)) o)
    have e3 : add f (add f1 g0) = add f1 (add f g0) := by funext a; simp only [add]; omega
    rw [e3] at q
    exact q
theorem Owns.at : ∀ {k : Kd} {vs : List V} {ds : List D} {g : Cnt} {n : Nat} {d : D}, Owns G F H k vs ds g → ds[n]? = some d → ∃ v f g0, (∀ a, g a = f a + g0 a) ∧ vs[n]? = some v ∧ Own G F H k v d f ∧
    ∀ F1 H1 d1 f1, Same F F1 → (∀ a o, g0 a ≠ 0 → H a = some o → H1 a = some o) → Own G F1 H1 k v d1 f1 → Owns G F1 H1 k vs (ds.set n d1) (add f1 g0)
  | _, _, _, _, n, _, .nil, e => by simp at e
  | _, _, _, _, 0, d, .cons (f := f) (g := g) h r, e2 => by
    cases (show some _ = some d from e2)
    exact ⟨_, f, g, fun a => rfl, rfl, h, fun F1 H1 d1 f1 sf m o => .cons o (r.mono sf m)⟩
  | _, _, _, _, n + 1, d, .cons (f := f) (g := g) h r, e2 => by
    obtain ⟨v, f2, g0, hg, hv, ho, back⟩ := Owns.at (n := n) r e2
    refine ⟨v, f2, add f g0, fun a => by simp only [add]; have := hg a; omega, hv, ho, fun F1 H1 d1 f1 sf m o => ?_⟩
    have q := Owns.cons (h.mono sf fun a o n => m a o (by simp only [add]; omega)) (back F1 H1 d1 f1 sf (fun a o n => m a o (by simp only [add]; omega)) o)
    have e3 : add f (add f1 g0) = add f1 (add f g0) := by funext a; simp only [add]; omega
    rw [e3] at q
    exact q
theorem OwnL.len : ∀ {ks : List Kd} {vs : List V} {ds : List D} {g : Cnt}, OwnL G F H ks vs ds g → vs.length = ds.length ∧ ks.length = ds.length
  | _, _, _, _, .nil => ⟨rfl, rfl⟩
  | _, _, _, _, .cons _ r => ⟨by simp [r.len.1], by simp [r.len.2]⟩
theorem Owns.len : ∀ {k : Kd} {vs : List V} {ds : List D} {g : Cnt}, Owns G F H k vs ds g → vs.length = ds.length
  | _, _, _, _, .nil => rfl
  | _, _, _, _, .cons _ r => by simp [r.len]
theorem map_fst_set {α β : Type} {l : List (α × β)} {n : Nat} {q : α × β} {b : β} (h : l[n]? = some q) : (l.set n (q.1, b)).map (·.1) = l.map (·.1) := by
  obtain ⟨hn, rfl⟩ := List.getElem?_eq_some_iff.mp h
  rw [List.map_set]
  have e : l[n].1 = (l.map (·.1))[n]'(by simpa using hn) := by simp
  rw [e, List.set_getElem_self]
theorem map_snd_set {α β : Type} {l : List (α × β)} {n : Nat} {a : α} {b : β} : (l.set n (a, b)).map (·.2) = (l.map (·.2)).set n b := by rw [List.map_set]
theorem key_at {kvs : List (Key × V)} {kds : List (D × D)} (hk : kds.map (·.1) = kvs.map (fun p => keyD p.1)) {kk : Key} {n : Nat} {w : V} (e : keyAt kds (keyD kk) = some n) (hw : (kvs.map (·.2))[n]? = some w) : valV kvs kk = some w := by
  induction kvs generalizing kds n with
  | nil => simp at hw
  | cons p r ih => cases kds with
    | nil => simp at hk
    | cons a b =>
      obtain ⟨h1, h2⟩ := List.cons.inj (show a.1 :: b.map (·.1) = keyD p.1 :: r.map (fun p => keyD p.1) from hk)
      unfold keyAt at e
      rw [List.findIdx?_cons, h1, key_eqv] at e
      unfold valV
      rw [List.find?_cons]
      by_cases z : p.1 = kk
      · rw [decide_eq_true z] at e ⊢
        simp at e
        subst e
        simpa using hw
      · rw [decide_eq_false z] at e ⊢
        simp only [Bool.false_eq_true, if_false, Option.map_eq_some_iff] at e
        obtain ⟨m, e, rfl⟩ := e
        exact ih h2 (n := m) e (by simpa using hw)
theorem isKey_of {x : D} {kvs : List (Key × V)} {kds : List (D × D)} {n : Nat} (hk : kds.map (·.1) = kvs.map (fun p => keyD p.1)) (e : keyAt kds x = some n) (h : isKey x = true) : ∃ kk, x = keyD kk := by
  cases x <;> simp [isKey] at h
  · rename_i i; exact ⟨.inl i, rfl⟩
  · rename_i s
    -- the stored key is the text
    unfold keyAt at e
    rw [List.findIdx?_eq_some_iff_getElem] at e
    obtain ⟨hn, e, _⟩ := e
    have hm : kds[n].1 ∈ kds.map (·.1) := List.mem_map.mpr ⟨_, List.getElem_mem hn, rfl⟩
    rw [hk] at hm
    obtain ⟨p, _, hp⟩ := List.mem_map.mp hm
    rw [← hp] at e
    cases h1 : p.1 with
    | inl j => rw [h1] at e; simp [keyD, D.eqv] at e
    | inr z =>
      rw [h1] at e
      simp [keyD, D.eqv] at e
      exact ⟨.inr z, by rw [keyD, e]⟩
theorem Own.at : ∀ (pv : List PV) {k : Kd} {v : V} {d : D} {f : Cnt}, Own G F H k v d f → ∀ {k' : Kd} {d' : D}, getKD pv k d = some (k', d') → ∃ v' f' f0, (∀ a, f a = f' a + f0 a) ∧ Nav G H v pv v' ∧ Own G F H k' v' d' f' ∧
    ∀ F1 H1 k1 d1 f1 r, Same F F1 → (∀ a o, f0 a ≠ 0 → H a = some o → H1 a = some o) → Own G F1 H1 k1 v' d1 f1 → setKD pv k d (k1, d1) = some r → Own G F1 H1 r.1 v r.2 (add f1 f0)
  | [], k, v, d, f, o, k', d', e => by
    cases (show some (k, d) = some (k', d') from e)
    refine ⟨v, f, nil0, fun a => rfl, .nil v, o, fun F1 H1 k1 d1 f1 r sf m o1 er => ?_⟩
    cases (show some (k1, d1) = some r from er)
    exact o1.cast fun a => rfl
  | .fld c0 n :: pv, k, v, d, f, o, k', d', e => by
    cases o with
    | @ob ks a dx c fs ds g h hn r =>
      unfold getKD at e
      by_cases hc : c = c0
      case neg => rw [if_neg hc] at e; cases e
      subst hc
      rw [if_pos rfl] at e
      cases e1 : ks[n]? with
      | none => rw [e1] at e; cases e
      | some kn =>
        cases e2 : ds[n]? with
        | none => rw [e1, e2] at e; cases e
        | some dn =>
          rw [e1, e2] at e
          obtain ⟨vn, fn, g0, hg, hv, on, back⟩ := r.at e1 e2
          obtain ⟨v', f', f0, hf, nv, o', back'⟩ := Own.at pv on e
          have hlen : fs.length = ds.length := by have := r.len.1; simpa using this
          refine ⟨v', f', add (one a) (add g0 f0), fun b => by simp only [add]; have := hg b; have := hf b; omega, .fld h (by rw [hlen]; exact hn) hv nv, o', fun F1 H1 k1 d1 f1 r sf m o1 er => ?_⟩
          unfold setKD at er
          rw [if_pos rfl, e1, e2] at er
          simp only at er
          cases e3 : setKD pv kn dn (k1, d1) with
          | none => rw [e3] at er; cases er
          | some q =>
            rw [e3] at er
            cases er
            have oq := back' F1 H1 k1 d1 f1 q sf (fun b o n => m b o (by simp only [add]; omega)) o1 e3
            have ol := back F1 H1 q.1 q.2 (add f1 f0) sf (fun b o n => m b o (by simp only [add]; omega)) oq
            have hh := m a _ (by simp [add, one]) h
            refine (Own.ob (ds := ds.set n q.2) hh (by rw [List.length_set]; exact hn) ol).cast fun b => by simp only [add]; omega
    | _ => unfold getKD at e; cases e
  | .key x :: pv, k, v, d, f, o, k', d', e => by
    cases o with
    | @dK k a kvs kds g h hn r =>
      unfold getKD at e
      split at e
      · rename_i hx
        cases e1 : keyAt kds x with
        | none => rw [e1] at e; cases e
        | some n =>
          rw [e1] at e
          cases e2 : kds[n]? with
          | none => simp [e2] at e
          | some q =>
            have e : getKD pv k q.2 = some (k', d') := by simpa [e2] using e
            have e2' : (kds.map (·.2))[n]? = some q.2 := by rw [List.getElem?_map, e2]; rfl
            obtain ⟨vn, fn, g0, hg, hv, on, back⟩ := r.at e2'
            obtain ⟨v', f', f0, hf, nv, o', back'⟩ := Own.at pv on e
            obtain ⟨kk, rfl⟩ := isKey_of hn e1 hx
            refine ⟨v', f', add (one a) (add g0 f0), fun b => by simp only [add]; have := hg b; have := hf b; omega, .key h (key_at hn e1 hv) nv, o', fun F1 H1 k1 d1 f1 r1 sf m o1 er => ?_⟩
            unfold setKD at er
            rw [if_pos hx, e1] at er
            simp only [Option.bind_some, e2] at er
            cases e3 : setKD pv k q.2 (k1, d1) with
            | none => rw [e3] at er; cases er
            | some p =>
              rw [e3] at er
              simp only [Option.bind_some] at er
              split at er
              · rename_i hb
                cases er
                have oq := back' F1 H1 k1 d1 f1 p sf (fun b o n => m b o (by simp only [add]; omega)) o1 e3
                rw [Kd.eq_of_beq hb] at oq
                have ol := back F1 H1 p.2 (add f1 f0) sf (fun b o n => m b o (by simp only [add]; omega)) oq
                have hh := m a _ (by simp [add, one]) h
                refine (Own.dK (kds := kds.set n (q.1, p.2)) hh (by rw [map_fst_set e2]; exact hn) (by rw [map_snd_set]; exact ol)).cast fun b => by simp only [add]; omega
              · cases er
      · cases e
    | @dR ks a kvs kds g h hn r =>
      unfold getKD at e
      split at e
      · rename_i hx
        cases e1 : keyAt kds x with
        | none => rw [e1] at e; cases e
        | some n =>
          rw [e1] at e
          cases e0 : ks[n]? with
          | none => simp [e0] at e
          | some kn =>
          cases e2 : kds[n]? with
          | none => simp [e0, e2] at e
          | some q =>
            have e : getKD pv kn q.2 = some (k', d') := by simpa [e0, e2] using e
            have e2' : (kds.map (·.2))[n]? = some q.2 := by rw [List.getElem?_map, e2]; rfl
            obtain ⟨vn, fn, g0, hg, hv, on, back⟩ := r.at e0 e2'
            obtain ⟨v', f', f0, hf, nv, o', back'⟩ := Own.at pv on e
            obtain ⟨kk, rfl⟩ := isKey_of hn e1 hx
            refine ⟨v', f', add (one a) (add g0 f0), fun b => by simp only [add]; have := hg b; have := hf b; omega, .key h (key_at hn e1 hv) nv, o', fun F1 H1 k1 d1 f1 r1 sf m o1 er => ?_⟩
            unfold setKD at er
            rw [if_pos hx, e1] at er
            simp only [Option.bind_some, e0, e2] at er
            cases e3 : setKD pv kn q.2 (k1, d1) with
            | none => rw [e3] at er; cases er
            | some p =>
              rw [e3] at er
              cases er
              have oq := back' F1 H1 k1 d1 f1 p sf (fun b o n => m b o (by simp only [add]; omega)) o1 e3
              have ol := back F1 H1 p.1 p.2 (add f1 f0) sf (fun b o n => m b o (by simp only [add]; omega)) oq
              have hh := m a _ (by simp [add, one]) h
              refine (Own.dR (kds := kds.set n (q.1, p.2)) hh (by rw [map_fst_set e2]; exact hn) (by rw [map_snd_set]; exact ol)).cast fun b => by simp only [add]; omega
      · cases e
    | _ => unfold getKD at e; cases e
  | .ix i :: pv, k, v, d, f, o, k', d', e => by
    cases o with
    | @li k a vs ds g h r =>
      unfold getKD at e
      cases e1 : normIx ds.length i with
      | none => rw [e1] at e; cases e
      | some n =>
        rw [e1] at e
        cases e2 : ds[n]? with
        | none => simp [e2] at e
        | some dn =>
          have e : getKD pv k dn = some (k', d') := by simpa [e2] using e
          obtain ⟨vn, fn, g0, hg, hv, on, back⟩ := r.at e2
          obtain ⟨v', f', f0, hf, nv, o', back'⟩ := Own.at pv on e
          refine ⟨v', f', add (one a) (add g0 f0), fun b => by simp only [add]; have := hg b; have := hf b; omega, .ix h (by rw [r.len]; exact e1) hv nv, o', fun F1 H1 k1 d1 f1 r1 sf m o1 er => ?_⟩
          unfold setKD at er
          rw [e1] at er
          simp only [Option.bind_some, e2] at er
          cases e3 : setKD pv k dn (k1, d1) with
          | none => rw [e3] at er; cases er
          | some p =>
            rw [e3] at er
            simp only [Option.bind_some] at er
            split at er
            · rename_i hb
              cases er
              have oq := back' F1 H1 k1 d1 f1 p sf (fun b o n => m b o (by simp only [add]; omega)) o1 e3
              rw [Kd.eq_of_beq hb] at oq
              have ol := back F1 H1 p.2 (add f1 f0) sf (fun b o n => m b o (by simp only [add]; omega)) oq
              have hh := m a _ (by simp [add, one]) h
              exact (Own.li hh ol).cast fun b => by simp only [add]; omega
            · cases er
    | _ => unfold getKD at e; cases e
end
end TB

/-! TbT2: quiet expressions, paths, reads and stores there. -/
namespace TB
open PySem L2
section
variable {G : Cfgx} {F F' H H' : Hp} {σ : L2.St} {S : List Slot} {T T' : Cnt}
def tupOf : Option HO → Option HO
  | some (.tup xs) => some (.tup xs)
  | some (.frz o (.tup xs)) => some (.frz o (.tup xs))
  | _ => none
theorem tupOf_some {o : Option HO} {u : HO} (h : tupOf o = some u) : o = some u ∧ TupAt o := by
  unfold tupOf at h
  split at h
  · cases h; exact ⟨rfl, .inl ⟨_, rfl⟩⟩
  · cases h; exact ⟨rfl, .inr ⟨_, _, rfl⟩⟩
  · cases h
def exT (F H : Hp) : Hp := fun a => match F a with
  | some o => some o
  | none => tupOf (H a)
theorem exT_some {F H : Hp} {a : Addr} {u : HO} (h : exT F H a = some u) : F a = some u ∨ (F a = none ∧ H a = some u ∧ TupAt (H a)) := by
  unfold exT at h
  cases e : F a with
  | some o => rw [e] at h; exact .inl h
  | none => rw [e] at h; obtain ⟨a, b⟩ := tupOf_some h; exact .inr ⟨rfl, a, b⟩
theorem exT_of {F H : Hp} {a : Addr} {u : HO} (s : Same F H) (h : H a = some u) (t : TupAt (H a)) : exT F H a = some u := by
  unfold exT
  cases e : F a with
  | some o => rw [s _ _ e] at h; exact h
  | none =>
    show tupOf (H a) = some u
    rcases t with ⟨xs, t⟩ | ⟨o, xs, t⟩ <;> rw [t] at h ⊢ <;> exact h
mutual
theorem rep_exT {F H : Hp} (s : Same F H) : ∀ {v : V} {d : D}, d.imm = true → Rep G H v d → Rep G (exT F H) v d
  | _, _, _, .non => .non
  | _, _, _, .bl b => .bl b
  | _, _, _, .int i => .int i
  | _, _, _, .str z => .str z
  | _, _, h, .tup q r => .tup (by
      rcases q with (q | ⟨o, q⟩) | q
      · exact .inl (.inl (exT_of s q (.inl ⟨_, q⟩)))
      · exact .inl (.inr ⟨o, exT_of s q (.inr ⟨_, _, q⟩)⟩)
      · exact .inr q) (reps_exT s (by simpa [D.imm] using h) r)
  | _, _, h, .scr _ => by simp [D.imm] at h
  | _, _, h, .lst _ _ => by simp [D.imm] at h
  | _, _, h, .dK _ _ _ => by simp [D.imm] at h
  | _, _, h, .dN _ _ _ _ => by simp [D.imm] at h
  | _, _, h, .ldc _ _ _ => by simp [D.imm] at h
  | _, _, h, .ob _ _ _ => by simp [D.imm] at h
  | _, _, h, .fn _ => by simp [D.imm] at h
theorem reps_exT {F H : Hp} (s : Same F H) : ∀ {vs : List V} {ds : List D}, D.imms ds = true → Reps G H vs ds → Reps G (exT F H) vs ds
  | _, _, _, .nil => .nil
  | _, _, h, .cons a r => by
    simp only [D.imms, Bool.and_eq_true] at h
    exact .cons (rep_exT s h.1 a) (reps_exT s h.2 r)
end
/-- what is new and a tuple is frozen -/
theorem St'.exT (st : St' G F H σ S T) (e : Same H H') : Same F H' ∧ St' G (TB.exT F H') H' σ S T ∧ Step F H T (TB.exT F H') H' T := by
  have s : Same F H' := st.sub.trans e
  have sf : Same F (TB.exT F H') := fun a o h => by unfold TB.exT; rw [h]
  have nt : ∀ a, T a ≠ 0 → ¬ TupAt (H' a) := fun a n => by
    have h1 := st.there a n
    have h2 := st.noT a n
    cases q : H a with
    | none => exact absurd q h1
    | some o => rw [e _ _ q, ← q]; exact h2
  refine ⟨s, ⟨st.pi, fun a u h => ?_, st.sl.mono sf fun a o n h => e _ _ h, st.le, fun a n => ?_⟩, ⟨sf, fun a o _ h => e _ _ h, fun a n => .inl n, fun a h n => ?_, fun a h => ?_⟩⟩
  · rcases exT_some h with h | ⟨_, h, _⟩
    · exact s _ _ h
    · exact h
  · cases q : TB.exT F H' a with
    | none => exact absurd q n
    | some u =>
      rcases exT_some q with h | ⟨_, h, t⟩
      · exact st.di a (by rw [h]; simp)
      · exact Decidable.byContradiction fun z => nt a z t
  · cases q : TB.exT F H' a with
    | none => exact absurd q n
    | some u =>
      rcases exT_some q with h2 | ⟨_, h2, t⟩
      · rw [h] at h2; cases h2
      · cases z : H a with
        | none => exact .inl rfl
        | some o => rw [e _ _ z, ← z] at t; exact .inr (.inr (by rw [← z]; exact t))
  · cases q : H a with
    | none => exact absurd q h
    | some o => rw [e _ _ q]; simp
end
/-! ### quiet: nothing that is owned changes -/
def DenQ (G : Cfgx) (t : TE) (m : E) : Prop := ∀ F H σ S T Q d S', St' G F H σ S T → m S = .ok (.fz, d) S' → (∀ v F' H', Step F H T F' H' T → St' G F' H' σ S T → Same H H' → Rep G F' v d → Q v H') → t σ H Q
def TrQ (X : Cx) (G : Cfgx) (e : Expr) (m : E) : Prop := ∃ t, PE X e t ∧ DenQ G t m
def Qt (m : E) : Prop := ∀ S, m S = .bad ∨ ∃ d, m S = .ok (.fz, d) S
section
variable {X : Cx} {G : Cfgx} {W : WX} {k : Nat}
theorem qt_rd (i : Nat) (ps : List PS) : Qt (pRd i ps) := fun S => by
  unfold pRd
  split
  · exact .inr ⟨_, rfl⟩
  · exact .inl rfl
theorem qt_peek (m : E) : Qt (ePeekI m) := fun S => by
  unfold ePeekI
  split
  · split
    · exact .inr ⟨_, rfl⟩
    · exact .inl rfl
  · exact .inl rfl
theorem qt_con (d : D) : Qt (eCon d) := fun S => .inr ⟨_, rfl⟩
theorem tr_ofQ {e : Expr} {m : E} (h : TrQ X G e m) (q : Qt m) : TrE X G W e m := by
  obtain ⟨t, p, d⟩ := h
  refine ⟨t, p, fun F H σ S T Q st z => ?_⟩
  rcases q S with e | ⟨d', e⟩
  · rw [e] at z; exact z.elim
  · rw [e] at z
    have z : KE G F H σ T Q (.fz, d') S := z
    exact d F H σ S T Q d' S st e fun v F' H' s st' _ r => z v F' H' T nil0 (s.castR fun a => rfl) st' (.fz r) (fun a => st'.le a) fun _ _ => rfl
theorem q_var (i : Nat) {x : PySem.Str} {pos : Pos} (hN : X.N[i]? = some x := by rfl) (hv : Vis X.env.scope x := by first | exact Or.inl rfl | exact Or.inr (Or.inl rfl) | exact Or.inr (Or.inr rfl)) (hd : (x == ("__debug__" : PySem.Str)) = false := by decide)
    (hcd : (x == ("__classdict__" : PySem.Str)) = false := by decide) : TrQ X G (.Name x pos) (eVar i) := by
  refine ⟨_, pe_var hN hv hd hcd, fun F H σ S T Q d S' st e k => ?_⟩
  unfold eVar at e
  split at e
  · rename_i d' q
    cases e
    obtain ⟨v, f, hv, o, _⟩ := st.sl.var q
    cases o with
    | fz r => exact ⟨v, hv, k v F H (Step.refl F H T) st (Same.refl H) r⟩
  · cases e
theorem q_int {i : Int} {j} {pos : Pos} : TrQ X G (.Constant (.int i) j pos) (eCon (.int i)) := ⟨_, pe_int, fun F H σ S T Q d S' st e k => by cases e; exact k _ F H (Step.refl F H T) st (Same.refl H) (.int i)⟩
theorem q_non {j} {pos : Pos} : TrQ X G (.Constant .none j pos) (eCon .non) := ⟨_, pe_non, fun F H σ S T Q d S' st e k => by cases e; exact k _ F H (Step.refl F H T) st (Same.refl H) .non⟩
theorem q_bl {b : Bool} {j} {pos : Pos} : TrQ X G (.Constant (.bool b) j pos) (eCon (.bl b)) := ⟨_, pe_bl, fun F H σ S T Q d S' st e k => by cases e; exact k _ F H (Step.refl F H T) st (Same.refl H) (.bl b)⟩
theorem q_str {z : PySem.Str} {j} {pos : Pos} (s : List Nat) (hs : z.cps.toList = s := by rfl) : TrQ X G (.Constant (.str z) j pos) (eCon (.str s)) := ⟨_, pe_str, fun F H σ S T Q d S' st e k => by cases e; exact k _ F H (Step.refl F H T) st (Same.refl H) (hs ▸ .str z)⟩
theorem peek_world {F H : Hp} {σ : L2.St} {S : List Slot} {T : Cnt} (st : St' G F H σ S T) : St' G H H σ (S.map frz) nil0 := ⟨st.pi, Same.refl H, slots_frz st.sub st.sl, fun _ => Nat.zero_le _, fun _ _ => rfl⟩
theorem q_peek {e : Expr} {m : E} {W' : WX} (h : TrE X G W' e m) : TrQ X G e (ePeekI m) := by
  obtain ⟨t, hp, hd⟩ := h
  refine ⟨t, hp, fun F H σ S T Q d S' st e k => ?_⟩
  unfold ePeekI at e
  split at e
  · rename_i kd d' S1 em
    split at e
    · rename_i hi
      cases e
      refine hd H H σ (S.map frz) nil0 Q (peek_world st) ?_
      rw [em]
      intro v F' H' T' f s' st' o le di
      have sHH : Same H H' := fun a u e => s'.fr a u rfl e
      have rep := o.rep st'.sub
      obtain ⟨sF, st2, s2⟩ := st.exT sHH
      exact k v _ H' s2 st2 sHH (rep_exT sF hi rep)
    · cases e
  · cases e
theorem tr_peekI {e : Expr} {m : E} {W' : WX} (h : TrE X G W' e m) : TrE X G W e (ePeekI m) := tr_ofQ (q_peek h) (qt_peek m)
/-- a new list of such -/
theorem tr_peekLI {e : Expr} {m : E} {W' : WX} (h : TrE X G W' e m) : TrE X G W e (ePeekLI m) := by
  obtain ⟨t, hp, hd⟩ := h
  refine ⟨t, hp, fun F H σ S T Q st p => ?_⟩
  unfold ePeekLI at p
  refine hd H H σ (S.map frz) nil0 Q (peek_world st) ?_
  split at p
  · rename_i ds S1 em
    split at p
    · rename_i hi
      rw [em]
      have p : KE G F H σ T Q (.li .fz, .lst ds) S := p
      intro v F' H' T' f s' st' o le di
      have sHH : Same H H' := fun a u e => s'.fr a u rfl e
      have sub' := st'.sub
      cases o with
      | @li k a vs ds g h r =>
        obtain ⟨rr, rfl⟩ := reps_fz r
        obtain ⟨sF, st2, s2⟩ := st.exT sHH
        have hn : H a = none := by
          rcases s'.nT a (by simp [add, one]) with z | z
          · exact absurd rfl z
          · exact z
        have tz : T a = 0 := Decidable.byContradiction fun n => st.there a n hn
        have r2 : Reps G (exT F H') vs ds := reps_exT sF hi ((owns_fz (H := H') rr).rep sub')
        refine p (.ref a) _ H' T (add (one a) nil0) ⟨s2.sF, s2.fr, fun b n => ?_, s2.nF, s2.tl⟩ st2 (.li h (owns_fz r2)) (fun b => ?_) fun b n => ?_
        · by_cases q : b = a
          · rw [q]; exact .inr hn
          · exact .inl (by simp only [add, one, if_neg q, nil0] at n; omega)
        · by_cases q : b = a
          · rw [q]; simp [add, one, nil0, tz]
          · have := st2.le b; simp only [add, one, if_neg q, nil0]; omega
        · by_cases q : b = a
          · exfalso
            rw [q] at n
            cases z : exT F H' a with
            | none => exact n z
            | some u =>
              rcases exT_some z with z | ⟨_, _, t⟩
              · have := st.sub _ _ z; rw [hn] at this; cases this
              · rw [h] at t; rcases t with ⟨_, t⟩ | ⟨_, _, t⟩ <;> cases t
          · simp [add, one, if_neg q, nil0]
    · exact p.elim
  · exact p.elim
/-! ### paths -/
theorem Nav.mono {G : Cfg} {H H' : Hp} (e : Same H H') : ∀ {p : List PV} {v w : V}, Nav G H v p w → Nav G H' v p w
  | _, _, _, .nil v => .nil v
  | _, _, _, .fld h n g r => .fld (e _ _ h) n g (Nav.mono e r)
  | _, _, _, .key h g r => .key (e _ _ h) g (Nav.mono e r)
  | _, _, _, .ix h n g r => .ix (e _ _ h) n g (Nav.mono e r)
theorem Nav.snoc {G : Cfg} {H : Hp} {s : PV} : ∀ {p : List PV} {v w u : V}, Nav G H v p w → Nav G H w [s] u → Nav G H v (p ++ [s]) u
  | _, _, _, _, .nil v, h => h
  | _, _, _, _, .fld h n g r, q => .fld h n g (Nav.snoc r q)
  | _, _, _, _, .key h g r, q => .key h g (Nav.snoc r q)
  | _, _, _, _, .ix h n g r, q => .ix h n g (Nav.snoc r q)
def getKD1 (s : PV) (q : KD) : Option KD := getKD [s] q.1 q.2
theorem getKD_snoc (s : PV) : ∀ (p : List PV) (k : Kd) (d : D), getKD (p ++ [s]) k d = (getKD p k d).bind (getKD1 s)
  | [], k, d => rfl
  | .fld c n :: p, k, d => by
    cases k <;> first | rfl | skip
    rename_i ks
    cases d <;> first | rfl | skip
    rename_i c' ds
    show getKD (.fld c n :: (p ++ [s])) _ _ = _
    unfold getKD
    split
    · split
      · rename_i e1 e2; exact getKD_snoc s p _ _
      · rfl
    · rfl
  | .key x :: p, k, d => by
    cases k <;> first | rfl | skip
    · rename_i k
      cases d <;> first | rfl | skip
      rename_i kvs
      show getKD (.key x :: (p ++ [s])) _ _ = _
      unfold getKD
      split
      · cases keyAt kvs x with
        | none => rfl
        | some n =>
          simp only [Option.bind_some]
          cases kvs[n]? with
          | none => rfl
          | some q => exact getKD_snoc s p _ _
      · rfl
    · rename_i ks
      cases d <;> first | rfl | skip
      rename_i kvs
      show getKD (.key x :: (p ++ [s])) _ _ = _
      unfold getKD
      split
      · cases keyAt kvs x with
        | none => rfl
        | some n =>
          simp only [Option.bind_some]
          cases ks[n]? with
          | none => rfl
          | some k =>
            cases kvs[n]? with
            | none => rfl
            | some q => exact getKD_snoc s p _ _
      · rfl
  | .ix i :: p, k, d => by
    cases k <;> first | rfl | skip
    rename_i k
    cases d <;> first | rfl | skip
    rename_i ds
    show getKD (.ix i :: (p ++ [s])) _ _ = _
    unfold getKD
    cases normIx ds.length i with
    | none => rfl
    | some n =>
      simp only [Option.bind_some]
      cases ds[n]? with
      | none => rfl
      | some q => exact getKD_snoc s p _ _
def pEv1 (s : PS) (S : List Slot) : Option PV := match s with
  | .fld c n => some (.fld c n)
  | .key e => (eFzD e S).map .key
  | .ix e => match eFzD e S with
    | some (.int i) => some (.ix i)
    | _ => none
theorem pEv_snoc (s : PS) (S : List Slot) : ∀ ps, pEv (ps ++ [s]) S = (pEv ps S).bind fun pv => (pEv1 s S).map fun x => pv ++ [x]
  | [] => by
    cases s with
    | fld c n => rfl
    | key e => simp only [List.nil_append, pEv, pEv1]; cases eFzD e S <;> rfl
    | ix e =>
      simp only [List.nil_append, pEv, pEv1]
      cases eFzD e S with
      | none => rfl
      | some d => cases d <;> rfl
  | .fld c n :: ps => by
    show (pEv (ps ++ [s]) S).map _ = _
    rw [pEv_snoc s S ps]
    show _ = ((pEv ps S).map _).bind _
    cases pEv ps S with
    | none => rfl
    | some pv => cases pEv1 s S <;> rfl
  | .key e :: ps => by
    show (eFzD e S).bind (fun d => (pEv (ps ++ [s]) S).map _) = ((eFzD e S).bind fun d => (pEv ps S).map _).bind _
    cases eFzD e S with
    | none => rfl
    | some d =>
      simp only [Option.bind_some]
      rw [pEv_snoc s S ps]
      cases pEv ps S with
      | none => rfl
      | some pv => cases pEv1 s S <;> rfl
  | .ix e :: ps => by
    simp only [List.cons_append, pEv]
    cases eFzD e S with
    | none => rfl
    | some d =>
      cases d <;> first | rfl | skip
      simp only
      rw [pEv_snoc s S ps]
      cases pEv ps S with
      | none => rfl
      | some pv => cases pEv1 s S <;> rfl
def DenP (G : Cfgx) (t : TE) (i : Nat) (ps : List PS) : Prop := ∀ F H σ S T Q g, St' G F H σ S T → tgt i ps S = some g → (∀ v0 v F' H', Step F H T F' H' T → St' G F' H' σ S T → Same H H' → σ[i]? = some (some v0) → Nav G H' v0 g.pv v → Q v H') → t σ H Q
def TrP (X : Cx) (G : Cfgx) (e : Expr) (i : Nat) (ps : List PS) : Prop := ∃ t, PE X e t ∧ DenP G t i ps
theorem tgt_eq {i : Nat} {ps : List PS} {S : List Slot} {g : Tgt} (h : tgt i ps S = some g) : S[i]? = some (some (g.rk, g.rd)) ∧ pEv ps S = some g.pv ∧ getKD g.pv g.rk g.rd = some (g.k, g.d) := by
  unfold tgt at h
  split at h
  · rename_i rk rd pv e1 e2
    cases e3 : getKD pv rk rd with
    | none => rw [e3] at h; cases h
    | some kd => rw [e3] at h; cases h; exact ⟨e1, e2, e3⟩
  · cases h
theorem tgt_mk {i : Nat} {ps : List PS} {S : List Slot} {pv : List PV} {rk k : Kd} {rd d : D} (h1 : S[i]? = some (some (rk, rd))) (h2 : pEv ps S = some pv) (h3 : getKD pv rk rd = some (k, d)) : tgt i ps S = some ⟨pv, rk, rd, k, d⟩ := by
  unfold tgt
  rw [h1, h2]
  simp only [h3]; rfl
theorem tgt_snoc {i : Nat} {ps : List PS} {s : PS} {S : List Slot} {g : Tgt} (h : tgt i (ps ++ [s]) S = some g) : ∃ g0 x, tgt i ps S = some g0 ∧ pEv1 s S = some x ∧ g.pv = g0.pv ++ [x] ∧ g.rk = g0.rk ∧ g.rd = g0.rd ∧ getKD [x] g0.k g0.d = some (g.k, g.d) := by
  obtain ⟨h1, h2, h3⟩ := tgt_eq h
  rw [pEv_snoc] at h2
  cases e1 : pEv ps S with
  | none => rw [e1] at h2; cases h2
  | some pv =>
    rw [e1] at h2
    cases e2 : pEv1 s S with
    | none => rw [e2] at h2; cases h2
    | some x =>
      rw [e2] at h2
      have h2 : pv ++ [x] = g.pv := Option.some.inj h2
      rw [← h2, getKD_snoc] at h3
      cases e3 : getKD pv g.rk g.rd with
      | none => rw [e3] at h3; cases h3
      | some q => rw [e3] at h3; exact ⟨_, x, tgt_mk h1 e1 e3, rfl, h2.symm, rfl, rfl, h3⟩
/-- what stands at the path, and a way to put something else there -/
theorem tgt_own {F H : Hp} {σ : L2.St} {S : List Slot} {T : Cnt} {i : Nat} {ps : List PS} {g : Tgt} (st : St' G F H σ S T) (h : tgt i ps S = some g) : ∃ v0 v' f' T0, σ[i]? = some (some v0) ∧ (∀ a, T a = f' a + T0 a) ∧ Nav G H v0 g.pv v' ∧ Own G F H g.k v' g.d f' ∧
    ∀ F1 H1 k1 d1 f1 S1, Same F F1 → Same F1 H1 → (∀ a o, T0 a ≠ 0 → H a = some o → H1 a = some o) → Own G F1 H1 k1 v' d1 f1 → (∀ a, f1 a + T0 a ≤ 1) → (∀ a, F1 a ≠ none → f1 a + T0 a = 0) → g.put i (k1, d1) S = some S1 → St' G F1 H1 σ S1 (add f1 T0) := by
  obtain ⟨h1, h2, h3⟩ := tgt_eq h
  obtain ⟨v0, f, T0, hT, hv, so, back⟩ := st.sl.at h1
  cases so with
  | @yes k v d f o =>
    obtain ⟨v', f', f0, hf, nv, o', back'⟩ := Own.at g.pv o h3
    refine ⟨v, v', f', add f0 T0, hv, fun a => by simp only [add]; have := hT a; have := hf a; omega, nv, o', fun F1 H1 k1 d1 f1 S1 sf sub m o1 le di e => ?_⟩
    unfold Tgt.put at e
    cases e1 : setKD g.pv g.rk g.rd (k1, d1) with
    | none => rw [e1] at e; cases e
    | some r =>
      rw [e1] at e
      cases e
      have oo := back' F1 H1 k1 d1 f1 r sf (fun a o n => m a o (by simp only [add]; omega)) o1 e1
      have sl := back F1 H1 (some v) (some (r.1, r.2)) (add f1 f0) sf (fun a o n => m a o (by simp only [add]; omega)) (.yes oo)
      have e2 : σ.set i (some v) = σ := by
        obtain ⟨hi, q1⟩ := List.getElem?_eq_some_iff.mp hv
        rw [← q1, List.set_getElem_self]
      rw [e2] at sl
      have e3 : add (add f1 f0) T0 = add f1 (add f0 T0) := by funext a; simp only [add]; omega
      rw [e3] at sl
      exact ⟨st.pi, sub, sl, fun a => by have := le a; simp only [add] at this ⊢; omega, fun a n => by have := di a n; simp only [add] at this ⊢; omega⟩
theorem tp_root (i : Nat) {x : PySem.Str} {pos : Pos} (hN : X.N[i]? = some x := by rfl) (hv : Vis X.env.scope x := by first | exact Or.inl rfl | exact Or.inr (Or.inl rfl) | exact Or.inr (Or.inr rfl)) (hd : (x == ("__debug__" : PySem.Str)) = false := by decide)
    (hcd : (x == ("__classdict__" : PySem.Str)) = false := by decide) : TrP X G (.Name x pos) i [] := by
  refine ⟨_, pe_var hN hv hd hcd, fun F H σ S T Q g st e k => ?_⟩
  obtain ⟨h1, h2, h3⟩ := tgt_eq e
  obtain ⟨v, f, hv, o, _⟩ := st.sl.var h1
  have h2 : [] = g.pv := Option.some.inj h2
  exact ⟨v, hv, k v v F H (Step.refl F H T) st (Same.refl H) hv (h2 ▸ .nil v)⟩
theorem lookup_at {α : Type} : ∀ {fs : List (PySem.Str × α)} {n : Nat} {x : PySem.Str} {w : α}, (fs.map (·.1)).Nodup → (fs.map (·.1))[n]? = some x → (fs.map (·.2))[n]? = some w → fs.lookup x = some w
  | [], n, x, w, _, h, _ => by simp at h
  | p :: fs, 0, x, w, _, h1, h2 => by
    simp at h1 h2
    obtain ⟨a, b⟩ := p
    subst h1 h2
    simp [List.lookup]
  | p :: fs, n + 1, x, w, nd, h1, h2 => by
    rw [List.map_cons, List.nodup_cons] at nd
    have h1 : (fs.map (·.1))[n]? = some x := by simpa using h1
    have h2 : (fs.map (·.2))[n]? = some w := by simpa using h2
    have ne : (x == p.1) = false := beq_eq_false_iff_ne.mpr fun e => nd.1 (by rw [← e]; exact List.mem_of_getElem? h1)
    obtain ⟨a, b⟩ := p
    simp only [List.lookup, ne]
    exact lookup_at nd.2 h1 h2
theorem take_at {cn : List PySem.Str} {fs : List (PySem.Str × V)} {m n : Nat} {x : PySem.Str} (h : fs.map (·.1) = cn.take m) (hx : cn[n]? = some x) (hn : n < fs.length) : (fs.map (·.1))[n]? = some x := by
  have hl : (fs.map (·.1)).length = fs.length := by simp
  rw [h] at hl ⊢
  rw [List.getElem?_take]
  have : n < m := by rw [List.length_take] at hl; omega
  rw [if_pos this, hx]
/-- a field of what stands there -/
theorem tp_fld (c n : Nat) {e : Expr} {f : PySem.Str} {i : Nat} {ps : List PS} {pos : Pos} (h : TrP X G e i ps) (hc : L2.Cls X.K (G.ca c)) (hf : L2.NoAttr X.K (G.ca c) f) (hn : (G.cn c)[n]? = some f := by rfl) (nd : (G.cn c).Nodup := by decide)
    (hb : attributeBase e f X.env (eval e X.env) = eval e X.env := by rfl) : TrP X G (.Attribute e f pos) i (ps ++ [.fld c n]) := by
  obtain ⟨t, p, d⟩ := h
  refine ⟨_, pe_fld p hb, fun F H σ S T Q g st eg k => ?_⟩
  obtain ⟨g0, x, h1, h2, h3, h4, h5, h6⟩ := tgt_snoc eg
  cases (show some (PV.fld c n) = some x from h2)
  refine d F H σ S T _ g0 st h1 fun v0 v F1 H1 s1 st1 sH hv nv => ?_
  obtain ⟨v0', v', f', T0, hv', hT, nv', o, _⟩ := tgt_own st1 h1
  rw [hv] at hv'; cases hv'
  have := nv.uniq nv'
  subst this
  generalize hk : g0.k = gk at o h6
  generalize hd : g0.d = gd at o h6
  cases o with
  | @ob ks a dx c' fs ds gg ho hnm r =>
    unfold getKD at h6
    by_cases hcc : c' = c
    case neg => rw [if_neg hcc] at h6; cases h6
    subst hcc
    rw [if_pos rfl] at h6
    cases e1 : ks[n]? with
    | none => rw [e1] at h6; cases h6
    | some kn =>
      cases e2 : ds[n]? with
      | none => rw [e1, e2] at h6; cases h6
      | some dn =>
        obtain ⟨w, fw, g1, _, hw, ow, _⟩ := r.at e1 e2
        have hl : fs.length = ds.length := by have := r.len.1; simpa using this
        have hnl : n < fs.length := by rw [hl]; exact (List.getElem?_eq_some_iff.mp e2).1
        refine ⟨a, _, dx, fs, w, rfl, ho, hc, hf, lookup_at (by rw [hnm]; exact nd.sublist (List.take_sublist _ _)) (take_at hnm hn hnl) hw, ?_⟩
        refine k v0 w F1 H1 s1 st1 sH hv ?_
        rw [h3]
        exact nv.snoc (.fld ho (by rw [hl]; exact hnm) hw (.nil w))
  | _ => unfold getKD at h6; cases h6
theorem fzD_eq {m : E} {S : List Slot} {d : D} (h : eFzD m S = some d) : ∃ S', m S = .ok (.fz, d) S' := by
  unfold eFzD at h
  split at h
  · rename_i d' S1 e; cases h; exact ⟨_, e⟩
  · cases h
theorem keyAt_key {F : Hp} {kvs : List (Key × V)} {kds : List (D × D)} (hk : kds.map (·.1) = kvs.map (fun p => keyD p.1)) {v : V} {x : D} {n : Nat} (e : keyAt kds x = some n) (hx : isKey x = true) (r : Rep G F v x) : ∃ kk, v = kV kk ∧ x = keyD kk := key_of hx r
/-- an item of a dict that stands there -/
theorem tp_key {e ke : Expr} {i : Nat} {ps : List PS} {m : E} {pos : Pos} (C : Cok X G W k) (h : TrP X G e i ps) (hk : TrQ X G ke m) (hs : NoSl ke := by exact fun _ _ => rfl) : TrP X G (.Subscript e ke pos) i (ps ++ [.key m]) := by
  obtain ⟨t, p, d⟩ := h
  obtain ⟨u, q, d2⟩ := hk
  refine ⟨_, pe_dget (by have := C.room.units; omega) p q hs, fun F H σ S T Q g st eg k => ?_⟩
  obtain ⟨g0, x, h1, h2, h3, h4, h5, h6⟩ := tgt_snoc eg
  refine d F H σ S T _ g0 st h1 fun v0 v F1 H1 s1 st1 sH hv nv => ?_
  cases e2 : eFzD m S with
  | none => simp [pEv1, e2] at h2
  | some dk =>
    have h2 : PV.key dk = x := by simpa [pEv1, e2] using h2
    subst h2
    obtain ⟨S', em⟩ := fzD_eq e2
    refine d2 F1 H1 σ S T _ dk S' st1 em fun y F2 H2 s2 st2 sH2 ry => ?_
    obtain ⟨v0', v', f', T0, hv', hT, nv', o, _⟩ := tgt_own st2 h1
    rw [hv] at hv'; cases hv'
    have := (nv.mono sH2).uniq nv'
    subst this
    generalize hkk : g0.k = gk at o h6
    generalize hd : g0.d = gd at o h6
    cases o with
    | @dK kk a kvs kds gg ho hnm r =>
      unfold getKD at h6
      split at h6
      · rename_i hx
        cases e1 : keyAt kds dk with
        | none => rw [e1] at h6; cases h6
        | some n =>
          rw [e1] at h6
          cases e3 : kds[n]? with
          | none => simp [e3] at h6
          | some qq =>
            have e3' : (kds.map (·.2))[n]? = some qq.2 := by rw [List.getElem?_map, e3]; rfl
            obtain ⟨w, fw, g1, _, hw, ow, _⟩ := r.at e3'
            obtain ⟨kx, rfl, rfl⟩ := key_of hx ry
            have hval := key_at hnm e1 hw
            refine ⟨a, w, rfl, ?_, k v0 w F2 H2 (s1.trans s2) st2 (sH.trans sH2) hv ?_⟩
            · rw [← hval]; exact .k ho
            · rw [h3]; exact nv'.snoc (.key ho hval (.nil w))
      · cases h6
    | @dR ks a kvs kds gg ho hnm r =>
      unfold getKD at h6
      split at h6
      · rename_i hx
        cases e1 : keyAt kds dk with
        | none => rw [e1] at h6; cases h6
        | some n =>
          rw [e1] at h6
          cases e0 : ks[n]? with
          | none => simp [e0] at h6
          | some kn =>
          cases e3 : kds[n]? with
          | none => simp [e0, e3] at h6
          | some qq =>
            have e3' : (kds.map (·.2))[n]? = some qq.2 := by rw [List.getElem?_map, e3]; rfl
            obtain ⟨w, fw, g1, _, hw, ow, _⟩ := r.at e0 e3'
            obtain ⟨kx, rfl, rfl⟩ := key_of hx ry
            have hval := key_at hnm e1 hw
            refine ⟨a, w, rfl, ?_, k v0 w F2 H2 (s1.trans s2) st2 (sH.trans sH2) hv ?_⟩
            · rw [← hval]; exact .k ho
            · rw [h3]; exact nv'.snoc (.key ho hval (.nil w))
      · cases h6
    | _ => unfold getKD at h6; cases h6
/-- an item of a list that stands there -/
theorem tp_ix {e ke : Expr} {i : Nat} {ps : List PS} {m : E} {pos : Pos} (h : TrP X G e i ps) (hk : TrQ X G ke m) (hs : PlainIx ke := by exact fun _ _ => rfl) : TrP X G (.Subscript e ke pos) i (ps ++ [.ix m]) := by
  obtain ⟨t, p, d⟩ := h
  obtain ⟨u, q, d2⟩ := hk
  refine ⟨_, pe_ix ix_list p q hs, fun F H σ S T Q g st eg k => ?_⟩
  obtain ⟨g0, x, h1, h2, h3, h4, h5, h6⟩ := tgt_snoc eg
  refine d F H σ S T _ g0 st h1 fun v0 v F1 H1 s1 st1 sH hv nv => ?_
  unfold pEv1 at h2
  split at h2
  · rename_i heq; cases heq
  · rename_i heq; cases heq
  · rename_i e' heq
    cases heq
    split at h2
    · rename_i j e2
      cases h2
      obtain ⟨S', em⟩ := fzD_eq e2
      refine d2 F1 H1 σ S T _ (.int j) S' st1 em fun y F2 H2 s2 st2 sH2 ry => ?_
      cases ry
      obtain ⟨v0', v', f', T0, hv', hT, nv', o, _⟩ := tgt_own st2 h1
      rw [hv] at hv'; cases hv'
      have := (nv.mono sH2).uniq nv'
      subst this
      generalize hkk : g0.k = gk at o h6
      generalize hd : g0.d = gd at o h6
      cases o with
      | @li kk a vs ds gg ho r =>
        unfold getKD at h6
        cases e1 : normIx ds.length j with
        | none => rw [e1] at h6; cases h6
        | some n =>
          rw [e1] at h6
          cases e3 : ds[n]? with
          | none => simp [e3] at h6
          | some qq =>
            obtain ⟨w, fw, g1, _, hw, ow, _⟩ := r.at e3
            have e1' : normIx vs.length j = some n := by rw [r.len]; exact e1
            refine ⟨a, vs, j, w, rfl, rfl, .inl (.inl ho), atI_of e1' hw, k v0 w F2 H2 (s1.trans s2) st2 (sH.trans sH2) hv ?_⟩
            rw [h3]; exact nv'.snoc (.ix ho e1' hw (.nil w))
      | _ => unfold getKD at h6; cases h6
    · cases h2
/-- what is frozen there -/
theorem q_rd {e : Expr} {i : Nat} {ps : List PS} (h : TrP X G e i ps) : TrQ X G e (pRd i ps) := by
  obtain ⟨t, p, d⟩ := h
  refine ⟨t, p, fun F H σ S T Q d' S' st e k => ?_⟩
  unfold pRd at e
  split at e
  · rename_i pv rk rd dd eg
    cases e
    refine d F H σ S T _ _ st eg fun v0 v F1 H1 s1 st1 sH hv nv => ?_
    obtain ⟨v0', v', f', T0, hv', hT, nv', o, _⟩ := tgt_own st1 eg
    rw [hv] at hv'; cases hv'
    have := nv.uniq nv'
    subst this
    cases o with
    | fz r => exact k v F1 H1 s1 st1 sH r
  · cases e
theorem tr_rd {e : Expr} {i : Nat} {ps : List PS} (h : TrP X G e i ps) : TrE X G W e (pRd i ps) := tr_ofQ (q_rd h) (qt_rd i ps)
end
end TB

/-! TbT3: stores at a path. -/
namespace TB
open PySem L2
section
variable {G : Cfg} {F F' H H' : Hp}
theorem OwnL.put : ∀ {ks : List Kd} {vs : List V} {ds : List D} {g : Cnt} (n : Nat) {k : Kd} {v : V} {d : D} {f : Cnt}, OwnL G F H ks vs ds g → n < ds.length → Own G F H k v d f → ∃ g', OwnL G F H (ks.set n k) (vs.set n v) (ds.set n d) g' ∧ ∀ a, g' a ≤ g a + f a
  | _, _, _, _, n, _, _, _, _, .nil, h, _ => absurd h (Nat.not_lt_zero _)
  | _, _, _, _, 0, _, _, _, f, .cons (f := f0) (g := g) h r, _, o => ⟨add f g, .cons o r, fun a => by simp only [add]; omega⟩
  | _, _, _, _, n + 1, _, _, _, f, .cons (f := f0) (g := g) h r, hn, o => by
    obtain ⟨g', r', l⟩ := OwnL.put n r (by simpa using hn) o
    exact ⟨add f0 g', .cons h r', fun a => by have := l a; simp only [add]; omega⟩
theorem OwnL.app1 : ∀ {ks : List Kd} {vs : List V} {ds : List D} {g : Cnt} {k : Kd} {v : V} {d : D} {f : Cnt}, OwnL G F H ks vs ds g → Own G F H k v d f → ∃ g', OwnL G F H (ks ++ [k]) (vs ++ [v]) (ds ++ [d]) g' ∧ ∀ a, g' a ≤ g a + f a
  | _, _, _, _, _, _, _, f, .nil, o => ⟨add f nil0, .cons o .nil, fun a => by simp only [add, nil0]; omega⟩
  | _, _, _, _, _, _, _, f, .cons (f := f0) h r, o => by
    obtain ⟨g', r', l⟩ := OwnL.app1 r o
    exact ⟨add f0 g', .cons h r', fun a => by have := l a; simp only [add]; omega⟩
theorem Owns.put : ∀ {k : Kd} {vs : List V} {ds : List D} {g : Cnt} (n : Nat) {v : V} {d : D} {f : Cnt}, Owns G F H k vs ds g → Own G F H k v d f → ∃ g', Owns G F H k (vs.set n v) (ds.set n d) g' ∧ ∀ a, g' a ≤ g a + f a
  | _, _, _, _, n, _, _, f, .nil, _ => ⟨nil0, by simpa using Owns.nil, fun a => by simp [nil0]⟩
  | _, _, _, _, 0, _, _, f, .cons (f := f0) (g := g) h r, o => ⟨add f g, .cons o r, fun a => by simp only [add]; omega⟩
  | _, _, _, _, n + 1, _, _, f, .cons (f := f0) (g := g) h r, o => by
    obtain ⟨g', r', l⟩ := Owns.put n r o
    exact ⟨add f0 g', .cons h r', fun a => by have := l a; simp only [add]; omega⟩
theorem Owns.app1 : ∀ {k : Kd} {vs : List V} {ds : List D} {g : Cnt} {v : V} {d : D} {f : Cnt}, Owns G F H k vs ds g → Own G F H k v d f → ∃ g', Owns G F H k (vs ++ [v]) (ds ++ [d]) g' ∧ ∀ a, g' a ≤ g a + f a
  | _, _, _, _, _, _, f, .nil, o => ⟨add f nil0, .cons o .nil, fun a => by simp only [add, nil0]; omega⟩
  | _, _, _, _, _, _, f, .cons (f := f0) h r, o => by
    obtain ⟨g', r', l⟩ := Owns.app1 r o
    exact ⟨add f0 g', .cons h r', fun a => by have := l a; simp only [add]; omega⟩
end
section
variable {X : Cx} {G : Cfgx} {W : WX} {k : Nat} {F H : Hp} {σ : L2.St} {S : List Slot} {T : Cnt}
/-- what a temporary owns stays while quiet things go on -/
theorem frame_own {F1 H1 : Hp} {fe : Cnt} {kk : Kd} {v : V} {d : D} (s : Step F H T F1 H1 T) (sH : Same H H1) (o : Own G F H kk v d fe) (le : ∀ a, T a + fe a ≤ 1) (di : ∀ a, F a ≠ none → fe a = 0) :
    Step F H (add T fe) F1 H1 (add T fe) ∧ Own G F1 H1 kk v d fe ∧ ∀ a, F1 a ≠ none → fe a = 0 := by
  have th : ∀ a, fe a ≠ 0 → H a ≠ none := fun a n => o.there a n
  refine ⟨(s.frame le th).1, o.mono s.sF fun a u _ e => sH _ _ e, fun a n => ?_⟩
  by_cases z : fe a = 0
  · exact z
  · exfalso
    by_cases w : F a = none
    · exact n (s.keepF w (th a z) (by have := le a; omega) (o.noT a z))
    · exact z (di a w)
/-- something else put at the path -/
theorem put_core {i : Nat} {g : Tgt} {a : Addr} {o : HO} {fe f' f1 T0 : Cnt} {k1 : Kd} {d1 : D} {S1 : List Slot} (st : St' G F H σ S T) (hT : ∀ b, T b = f' b + T0 b) (ha : f' a ≠ 0)
    (back : ∀ F1 H1 k1 d1 f1 S1, Same F F1 → Same F1 H1 → (∀ a o, T0 a ≠ 0 → H a = some o → H1 a = some o) → Own G F1 H1 k1 (.ref a) d1 f1 → (∀ a, f1 a + T0 a ≤ 1) → (∀ a, F1 a ≠ none → f1 a + T0 a = 0) → g.put i (k1, d1) S = some S1 → St' G F1 H1 σ S1 (add f1 T0))
    (le : ∀ b, T b + fe b ≤ 1) (di : ∀ b, F b ≠ none → fe b = 0) (ow : Own G F (upd H a o) k1 (.ref a) d1 f1) (hf : ∀ b, f1 b ≤ f' b + fe b) (e : g.put i (k1, d1) S = some S1) :
    St' G F (upd H a o) σ S1 (add f1 T0) ∧ Step F H (add T fe) F (upd H a o) (add f1 T0) := by
  have hta : T a ≠ 0 := by have := hT a; omega
  have hfa : F a = none := Decidable.byContradiction fun n => hta (st.di a n)
  refine ⟨back F _ k1 d1 f1 S1 (Same.refl F) (fun x u h => ?_) (fun x u n h => ?_) ow (fun b => ?_) (fun b n => ?_) e, ⟨Same.refl F, fun x u t h => ?_, fun b n => .inl ?_, fun b h n => absurd h n, fun b h => ?_⟩⟩
  · rw [upd_ne (fun q => by rw [q, hfa] at h; cases h)]; exact st.sub _ _ h
  · have : x ≠ a := fun q => by rw [q] at n; have := hT a; have := st.le a; omega
    rw [upd_ne this]; exact h
  · have := hT b; have := hf b; have := le b; omega
  · have := hT b; have := hf b; have := st.di b n; have := di b n; omega
  · have : x ≠ a := fun q => by rw [q] at t; simp only [add] at t; omega
    rw [upd_ne this]; exact h
  · have := hT b; have := hf b; simp only [add] at n ⊢; omega
  · by_cases q : b = a
    · rw [q, upd_same]; simp
    · rw [upd_ne q]; exact h
theorem putF_set {f : PySem.Str} {v : V} : ∀ {fs : List (PySem.Str × V)} {n : Nat}, (fs.map (·.1)).Nodup → (fs.map (·.1))[n]? = some f → putF f v fs = fs.set n (f, v)
  | [], n, _, h => by simp at h
  | p :: fs, 0, _, h => by
    have h : p.1 = f := by simpa using h
    show (if p.1 = f then (p.1, v) :: fs else p :: putF f v fs) = _
    rw [if_pos h, h]; rfl
  | p :: fs, n + 1, nd, h => by
    rw [List.map_cons, List.nodup_cons] at nd
    have h : (fs.map (·.1))[n]? = some f := by simpa using h
    have ne : ¬ p.1 = f := fun e => nd.1 (by rw [e]; exact List.mem_of_getElem? h)
    show (if p.1 = f then (p.1, v) :: fs else p :: putF f v fs) = _
    rw [if_neg ne, putF_set nd.2 h]; rfl
theorem putF_new {f : PySem.Str} {v : V} : ∀ {fs : List (PySem.Str × V)}, f ∉ fs.map (·.1) → putF f v fs = fs ++ [(f, v)]
  | [], _ => rfl
  | p :: fs, h => by
    rw [List.map_cons, List.mem_cons, not_or] at h
    show (if p.1 = f then (p.1, v) :: fs else p :: putF f v fs) = _
    rw [if_neg (fun e => h.1 e.symm), putF_new h.2]; rfl
theorem nx_of {F H : Hp} {T : Cnt} {D : Ends} {S' : List Slot} (h : KS G F H T D .nx S') {σ' : L2.St} {F' H' : Hp} {T' : Cnt} (s : Step F H T F' H' T') (st : St' G F' H' σ' S' T') : D.nx σ' H' :=
  (show ∀ σ' F' H' T', Step F H T F' H' T' → St' G F' H' σ' S' T' → D.nx σ' H' from h) σ' F' H' T' s st
/-- o.f = e -/
theorem fld_put {g : Tgt} {i n c : Nat} {f : PySem.Str} {a dx : Addr} {fs : List (PySem.Str × V)} {ks : List Kd} {ds : List D} {gg fe f' T0 : Cnt} {kd : KD} {v : V} {r : List Kd × List D} {S1 : List Slot} (st : St' G F H σ S T)
    (hn : (G.cn c)[n]? = some f) (nd : (G.cn c).Nodup) (ho : H a = some (.ins (G.ca c) dx fs)) (hnm : fs.map (·.1) = (G.cn c).take ds.length) (rl : OwnL G F H ks (fs.map (·.2)) ds gg) (hf' : ∀ b, f' b = one a b + gg b) (hT : ∀ b, T b = f' b + T0 b)
    (back : ∀ F1 H1 k1 d1 f1 S1, Same F F1 → Same F1 H1 → (∀ a o, T0 a ≠ 0 → H a = some o → H1 a = some o) → Own G F1 H1 k1 (.ref a) d1 f1 → (∀ a, f1 a + T0 a ≤ 1) → (∀ a, F1 a ≠ none → f1 a + T0 a = 0) → g.put i (k1, d1) S = some S1 → St' G F1 H1 σ S1 (add f1 T0))
    (oe : Own G F H kd.1 v kd.2 fe) (le : ∀ b, T b + fe b ≤ 1) (di : ∀ b, F b ≠ none → fe b = 0) (er : fldPut ks ds n kd = some r) (es : g.put i (.ob r.1, .ob c r.2) S = some S1) :
    fs.length < 1000 ∧ ∃ T', St' G F (upd H a (.ins (G.ca c) dx (putF f v fs))) σ S1 T' ∧ Step F H (add T fe) F (upd H a (.ins (G.ca c) dx (putF f v fs))) T' := by
  have hl : fs.length = ds.length := by have := rl.len.1; simpa using this
  have ga : gg a = 0 := by have := hf' a; have := hT a; have := st.le a; simp only [one, if_true] at *; omega
  have fa : fe a = 0 := by have := hf' a; have := hT a; have := le a; simp only [one, if_true] at *; omega
  have nd' : (fs.map (·.1)).Nodup := by rw [hnm]; exact nd.sublist (List.take_sublist _ _)
  have hcn : ds.length ≤ (G.cn c).length := by
    have : (fs.map (·.1)).length = fs.length := by simp
    rw [hnm, List.length_take] at this; omega
  unfold fldPut at er
  split at er
  · rename_i hlt
    obtain ⟨hlt, h9⟩ := hlt
    cases er
    obtain ⟨g', rl', l'⟩ := rl.put n hlt oe
    have e1 := putF_set (v := v) nd' (take_at hnm hn (by omega))
    have nm : (putF f v fs).map (·.1) = (G.cn c).take (ds.set n kd.2).length := by
      rw [e1, List.map_set, List.length_set, ← hnm]
      obtain ⟨hn', e2⟩ := List.getElem?_eq_some_iff.mp (take_at hnm hn (show n < fs.length by omega))
      show (fs.map (·.1)).set n f = _
      rw [← e2, List.set_getElem_self]
    have sn : (putF f v fs).map (·.2) = (fs.map (·.2)).set n v := by rw [e1, List.map_set]
    have ow : Own G F (upd H a (.ins (G.ca c) dx (putF f v fs))) (.ob (ks.set n kd.1)) (.ref a) (.ob c (ds.set n kd.2)) (add (one a) g') := by
      refine .ob upd_same nm ?_
      rw [sn]
      refine rl'.mono (Same.refl F) fun b u nb e => ?_
      rw [upd_ne (fun q => by rw [q] at nb; have := l' a; omega)]; exact e
    obtain ⟨x, y⟩ := put_core st hT (by rw [hf' a]; simp [one]) back le di ow (fun b => by have := l' b; have := hf' b; simp only [add]; omega) es
    exact ⟨by omega, _, x, y⟩
  · split at er
    · rename_i hge heq
      obtain ⟨heq, h9⟩ := heq
      cases er
      obtain ⟨g', rl', l'⟩ := rl.app1 oe
      have hnew : f ∉ fs.map (·.1) := by
        rw [hnm]
        intro hm
        obtain ⟨j, hj⟩ := List.mem_iff_getElem?.mp hm
        have hj2 : j < ds.length := by
          have := (List.getElem?_eq_some_iff.mp hj).1
          rw [List.length_take] at this; omega
        rw [List.getElem?_take, if_pos hj2] at hj
        have := (List.getElem?_inj (List.getElem?_eq_some_iff.mp hj).1 nd).mp (hj.trans hn.symm)
        omega
      have e1 := putF_new (v := v) hnew
      have nm : (putF f v fs).map (·.1) = (G.cn c).take (ds ++ [kd.2]).length := by
        rw [e1, List.map_append, hnm, List.length_append]
        show (G.cn c).take ds.length ++ [f] = (G.cn c).take (ds.length + 1)
        rw [List.take_succ, ← heq, hn]; rfl
      have sn : (putF f v fs).map (·.2) = fs.map (·.2) ++ [v] := by rw [e1, List.map_append]; rfl
      have ow : Own G F (upd H a (.ins (G.ca c) dx (putF f v fs))) (.ob (ks ++ [kd.1])) (.ref a) (.ob c (ds ++ [kd.2])) (add (one a) g') := by
        refine .ob upd_same nm ?_
        rw [sn]
        refine rl'.mono (Same.refl F) fun b u nb e => ?_
        rw [upd_ne (fun q => by rw [q] at nb; have := l' a; omega)]; exact e
      obtain ⟨x, y⟩ := put_core st hT (by rw [hf' a]; simp [one]) back le di ow (fun b => by have := l' b; have := hf' b; simp only [add]; omega) es
      exact ⟨by omega, _, x, y⟩
    · cases er
theorem tr_pFld (c n : Nat) {o e : Expr} {f : PySem.Str} {i : Nat} {ps : List PS} {m : E} {p' pos : Pos} (h : TrP X G o i ps) (he : TrE X G W e m) (hc : L2.Cls X.K (G.ca c)) (hf : L2.NoAttr X.K (G.ca c) f) (hn : (G.cn c)[n]? = some f := by rfl) (nd : (G.cn c).Nodup := by decide)
    (hs : swapsWith e (some (.Attribute o f p')) pos.line X.env = pure false := by rfl) : TrS X G W (.Assign [.Attribute o f p'] e pos) (pFld i ps c n m) := by
  obtain ⟨t, p, d⟩ := h
  obtain ⟨u, q, d2⟩ := he
  refine ⟨_, ps_fld p q hs, fun F H σ S T D st z => d2 F H σ S T _ st (PRs.bind z fun kd S1 y => ?_)⟩
  intro v F1 H1 T1 fe s1 st1 oe le di
  have y : PRs G W F H T (KS G F H T D) (match tgt i ps S1 with
    | some t => match t.k, t.d with
      | .ob ks, .ob c' ds => if c' = c then (match fldPut ks ds n kd with
        | some r => pOk .nx (t.put i (.ob r.1, .ob c r.2) S1)
        | none => .bad) else .bad
      | _, _ => .bad
    | none => .bad) := y
  cases eg : tgt i ps S1 with
  | none => rw [eg] at y; exact y.elim
  | some g =>
    rw [eg] at y
    refine d F1 H1 σ S1 T1 _ g st1 eg fun v0 w F2 H2 s2 st2 sH hv nv => ?_
    obtain ⟨v0', v', f', T0, hv', hT, nv', o', back⟩ := tgt_own st2 eg
    rw [hv] at hv'; cases hv'
    have := nv.uniq nv'
    subst this
    obtain ⟨fr, oe2, di2⟩ := frame_own s2 sH oe le di
    obtain ⟨pv, rk, rd, gk, gd⟩ := g
    cases o' with
    | @ob ks a dx c' fs ds gg ho hnm rl =>
      by_cases hcc : c' = c
      case neg => simp only [if_neg hcc] at y; exact y.elim
      subst hcc
      simp only [if_true] at y
      cases er : fldPut ks ds n kd with
      | none => simp only [er] at y; exact y.elim
      | some r =>
        simp only [er] at y
        cases es : (⟨pv, rk, rd, .ob ks, .ob c' ds⟩ : Tgt).put i (.ob r.1, .ob c' r.2) S1 with
        | none => simp only [es] at y; exact y.elim
        | some S2 =>
          simp only [es] at y
          obtain ⟨hl, T', st3, s3⟩ := fld_put st2 hn nd ho hnm rl (fun b => rfl) hT back oe2 le di2 er es
          exact ⟨a, _, dx, fs, rfl, ho, hc, hf, hl, nx_of (show KS G F H T D .nx S2 from y) ((s1.trans fr).trans s3) st3⟩
    | _ => exact y.elim
end
end TB

/-! TbT4: dicts, lists, methods at a path. -/
namespace TB
open PySem L2
section
variable {X : Cx} {G : Cfgx} {W : WX} {k : Nat} {F H : Hp} {σ : L2.St} {S : List Slot} {T : Cnt}
/-! ### quiet arguments -/
def DenAQ (G : Cfgx) (t : TA) (ms : List E) : Prop := ∀ F H σ S T Q ds, St' G F H σ S T → eFzDs ms S = some ds → (∀ vs F' H', Step F H T F' H' T → St' G F' H' σ S T → Same H H' → Reps G F' vs ds → Q vs H') → t σ H Q
def TrAQ (X : Cx) (G : Cfgx) (es : List Expr) (ms : List E) : Prop := ∃ t, PA X es t ∧ DenAQ G t ms
theorem taq_nil : TrAQ X G [] [] := ⟨_, pa_nil, fun F H σ S T Q ds st e k => by cases e; exact k [] F H (Step.refl F H T) st (Same.refl H) .nil⟩
theorem taq_cons {e : Expr} {es : List Expr} {m : E} {ms : List E} (h : TrQ X G e m) (r : TrAQ X G es ms) (hs : starEach (e :: es) X.env = (false, eval e X.env) :: starEach es X.env := by rfl) : TrAQ X G (e :: es) (m :: ms) := by
  obtain ⟨t, p, d⟩ := h
  obtain ⟨u, q, d2⟩ := r
  refine ⟨_, pa_cons p q hs, fun F H σ S T Q ds st e k => ?_⟩
  unfold eFzDs at e
  cases e1 : eFzD m S with
  | none => rw [e1] at e; cases e
  | some x =>
    rw [e1] at e
    cases e2 : eFzDs ms S with
    | none => simp [e2] at e
    | some ys =>
      have e : x :: ys = ds := by simpa [e2] using e
      obtain ⟨S', em⟩ := fzD_eq e1
      refine d F H σ S T _ x S' st em fun v F1 H1 s1 st1 h1 r1 => d2 F1 H1 σ S T _ ys st1 e2 fun vs F2 H2 s2 st2 h2 r2 => ?_
      exact k (v :: vs) F2 H2 (s1.trans s2) st2 (h1.trans h2) (by rw [← e]; exact .cons (r1.mono s2.sF) r2)
/-- a list that stands there, changed -/
theorem list_up {g : Tgt} {i : Nat} {a : Addr} {vs ws : List V} {ys : List D} {f' T0 : Cnt} {S1 : List Slot} (st : St' G F H σ S T) (ho : H a = some (.lst vs)) (hf' : ∀ b, f' b = one a b) (hT : ∀ b, T b = f' b + T0 b)
    (back : ∀ F1 H1 k1 d1 f1 S1, Same F F1 → Same F1 H1 → (∀ a o, T0 a ≠ 0 → H a = some o → H1 a = some o) → Own G F1 H1 k1 (.ref a) d1 f1 → (∀ a, f1 a + T0 a ≤ 1) → (∀ a, F1 a ≠ none → f1 a + T0 a = 0) → g.put i (k1, d1) S = some S1 → St' G F1 H1 σ S1 (add f1 T0))
    (r : Reps G F ws ys) (es : g.put i (.li .fz, .lst ys) S = some S1) : ∃ T', St' G F (upd H a (.lst ws)) σ S1 T' ∧ Step F H T F (upd H a (.lst ws)) T' := by
  have ow : Own G F (upd H a (.lst ws)) (.li .fz) (.ref a) (.lst ys) (add (one a) nil0) := .li upd_same (owns_fz r)
  obtain ⟨x, y⟩ := put_core (fe := nil0) st hT (by rw [hf' a]; simp [one]) back (fun b => by simp only [nil0]; exact st.le b) (fun _ _ => rfl) ow (fun b => by have := hf' b; simp only [add, nil0]; omega) es
  exact ⟨_, x, y.castL fun b => by simp [add, nil0]⟩
/-- o.m(..) of a list that stands at a path -/
theorem tr_pMth {o : Expr} {i : Nat} {ps : List PS} {name : PySem.Str} {id : String} {r : V → List V → Hp → VK → Prop} {f : List D → List D → Option (D × List D)} {e : Expr} {es : List Expr} {ms : List E} {apos cpos : Pos} (slot : PySem.Slot "list" name id) (hty : typeOf (.builtin id) = pure (.type "method_descriptor")) (hm : MtR X id r) (ok : MthOk G r f)
    (ho : TrP X G o i ps) (h : TrAQ X G (e :: es) ms) (hbase : attributeBase o name X.env (eval o X.env) = eval o X.env := by rfl)
    (hfew : ((backTo cpos (starEach (e :: es) X.env)).all (fun x => !x.1) && (backToKw cpos (keywordEach [] X.env)).all (fun x => x.1.isSome)
      && decide ((e :: es).length + ([] : List Keyword).length + (if ([] : List Keyword).isEmpty then 0 else 1) < 30)) = true := by rfl)
    (hline : (apos.endLine == cpos.line) = true := by rfl) (hs : starEach (e :: es) X.env = (false, eval e X.env) :: starEach es X.env := by rfl) (hplain : (backTo cpos (starEach es X.env)).any (·.1) = false := by rfl) :
    TrE X G W (.Call (.Attribute o name apos) (e :: es) [] cpos) (pMth f i ps ms) := by
  obtain ⟨t, p, d⟩ := ho
  obtain ⟨u, q, d2⟩ := h
  refine ⟨_, pe_bm F.plainAttrs_list slot hty hm p q hbase hfew hline hs hplain, fun F H σ S T Q st z => ?_⟩
  unfold pMth at z
  cases eg : tgt i ps S with
  | none => rw [eg] at z; exact z.elim
  | some g =>
    cases ed : eFzDs ms S with
    | none => rw [eg, ed] at z; exact z.elim
    | some ds =>
      rw [eg, ed] at z
      simp only at z
      obtain ⟨pv, rk, rd, gk, gd⟩ := g
      simp only at z
      split at z
      · rename_i xs
        refine d F H σ S T _ _ st eg fun v0 w F1 H1 s1 st1 h1 hv nv => ?_
        obtain ⟨v0', v', f', T0, hv', hT, nv', o', back⟩ := tgt_own st1 eg
        rw [hv] at hv'; cases hv'
        have := nv.uniq nv'
        subst this
        cases o' with
        | @li _ a vs _ gg hl rl =>
          refine ⟨.inl ⟨rfl, vs, .inl (.inl hl)⟩, ?_⟩
          refine d2 F1 H1 σ S T _ ds st1 ed fun us F2 H2 s2 st2 h2 ru => ?_
          obtain ⟨w0, w', f2, T2, hw, hT2, nw, o2, back2⟩ := tgt_own st2 eg
          rw [hv] at hw; cases hw
          have := (nv.mono h2).uniq nw
          subst this
          cases o2 with
          | @li _ _ vs2 _ gg2 hl2 rl2 =>
            obtain ⟨rr, rfl⟩ := reps_fz rl2
            split at z
            · rename_i rd' ys e3
              refine ok F2 H2 a vs2 xs us ds rd' ys Q hl2 rr ru e3 fun v ws rv rws => ?_
              cases e4 : (⟨pv, rk, rd, .li .fz, .lst xs⟩ : Tgt).put i (.li .fz, .lst ys) S with
              | none => rw [e4] at z; exact z.elim
              | some S3 =>
                rw [e4] at z
                have z : KE G F H σ T Q (.fz, rd') S3 := z
                obtain ⟨T3, st3, s3⟩ := list_up st2 hl2 (fun b => rfl) hT2 back2 rws e4
                exact z v F2 _ T3 nil0 (((s1.trans s2).trans s3).castR fun a => rfl) st3 (.fz rv) (fun a => st3.le a) fun _ _ => rfl
            · exact z.elim
      · exact z.elim
/-- .. without arguments -/
theorem tr_pMth0 {o : Expr} {i : Nat} {ps : List PS} {name : PySem.Str} {id : String} {r : V → Hp → VK → Prop} {f : List D → List D → Option (D × List D)} {apos cpos : Pos} (slot : PySem.Slot "list" name id) (hty : typeOf (.builtin id) = pure (.type "method_descriptor")) (hm : MtR X id (fun x vs H Q => vs = [] ∧ r x H Q)) (ok : MthOk G (fun x _ H Q => r x H Q) f)
    (ho : TrP X G o i ps) (hbase : attributeBase o name X.env (eval o X.env) = eval o X.env := by rfl) (hline : (apos.endLine == cpos.line) = true := by rfl) : True := trivial
/-- o[k] = e of a dict that stands there -/
theorem dict_up {g : Tgt} {i : Nat} {a : Addr} {kvs : List (Key × V)} {kds : List (D × D)} {kk : Kd} {gg fe f' T0 : Cnt} {kx : Key} {v : V} {d : D} {S1 : List Slot} (st : St' G F H σ S T) (ho : H a = some (.dK kvs)) (hk : kds.map (·.1) = kvs.map (fun p => keyD p.1)) (r : Owns G F H kk (kvs.map (·.2)) (kds.map (·.2)) gg)
    (hf' : ∀ b, f' b = one a b + gg b) (hT : ∀ b, T b = f' b + T0 b)
    (back : ∀ F1 H1 k1 d1 f1 S1, Same F F1 → Same F1 H1 → (∀ a o, T0 a ≠ 0 → H a = some o → H1 a = some o) → Own G F1 H1 k1 (.ref a) d1 f1 → (∀ a, f1 a + T0 a ≤ 1) → (∀ a, F1 a ≠ none → f1 a + T0 a = 0) → g.put i (k1, d1) S = some S1 → St' G F1 H1 σ S1 (add f1 T0))
    (oe : Own G F H kk v d fe) (le : ∀ b, T b + fe b ≤ 1) (di : ∀ b, F b ≠ none → fe b = 0) (hn : (kk.isF || (keyAt kds (keyD kx)).isNone) = true) (es : g.put i (.dK kk, .dic (putD kds (keyD kx) d)) S = some S1) :
    ∃ T', St' G F (upd H a (.dK (putK kvs kx v))) σ S1 T' ∧ Step F H (add T fe) F (upd H a (.dK (putK kvs kx v))) T' := by
  have ga : gg a = 0 := by have := hf' a; have := hT a; have := st.le a; simp only [one, if_true] at *; omega
  have fa : fe a = 0 := by have := hf' a; have := hT a; have := le a; simp only [one, if_true] at *; omega
  have key : ∃ g', (putD kds (keyD kx) d).map (·.1) = (putK kvs kx v).map (fun p => keyD p.1) ∧ Owns G F H kk ((putK kvs kx v).map (·.2)) ((putD kds (keyD kx) d).map (·.2)) g' ∧ ∀ b, g' b ≤ gg b + fe b := by
    rcases Bool.or_eq_true_iff.mp hn with h | h
    · cases kk with
      | fz =>
        cases oe with
        | fz rv =>
          obtain ⟨rr, rfl⟩ := reps_fz r
          obtain ⟨h1, h2⟩ := put_rep hk rr kx rv
          exact ⟨nil0, h1, owns_fz h2, fun b => Nat.zero_le _⟩
      | _ => cases h
    · have e1 : (kds.any fun p => D.eqv p.1 (keyD kx)) = false := by
        unfold keyAt at h
        rw [Option.isNone_iff_eq_none, List.findIdx?_eq_none_iff] at h
        rw [List.any_eq_false]
        intro p hp
        rw [h p hp]; simp
      have e2 : (kvs.any fun kv => decide (kv.1 = kx)) = false := by rw [← put_any hk]; exact e1
      obtain ⟨g', r', l⟩ := r.app1 oe
      refine ⟨g', ?_, ?_, l⟩
      · unfold putD putK
        rw [e1, e2]
        simp only [Bool.false_eq_true, if_false, List.map_append, hk]
        rfl
      · unfold putD putK
        rw [e1, e2]
        simp only [Bool.false_eq_true, if_false, List.map_append]
        exact r'
  obtain ⟨g', h1, h2, l⟩ := key
  have ow : Own G F (upd H a (.dK (putK kvs kx v))) (.dK kk) (.ref a) (.dic (putD kds (keyD kx) d)) (add (one a) g') := by
    refine .dK upd_same h1 (h2.mono (Same.refl F) fun b u nb e => ?_)
    rw [upd_ne (fun q => by rw [q] at nb; have := l a; omega)]; exact e
  obtain ⟨x, y⟩ := put_core st hT (by rw [hf' a]; simp [one]) back le di ow (fun b => by have := l b; have := hf' b; simp only [add]; omega) es
  exact ⟨_, x, y⟩
theorem tr_pDput {o e ke : Expr} {i : Nat} {ps : List PS} {n m : E} {p' pos : Pos} (C : Cok X G W k) (h : TrP X G o i ps) (hk : TrQ X G ke n) (he : TrE X G W e m)
    (hs : swapsWith e (some (.Subscript o ke p')) pos.line X.env = pure false := by rfl) : TrS X G W (.Assign [.Subscript o ke p'] e pos) (pDput i ps n m) := by
  obtain ⟨t, p, d⟩ := h
  obtain ⟨u, q, d2⟩ := he
  obtain ⟨t3, q3, d3⟩ := hk
  refine ⟨_, ps_dput (by have := C.room.units; omega) p q3 q hs, fun F H σ S T D st z => d2 F H σ S T _ st (PRs.bind z fun kd S1 y => ?_)⟩
  intro v F1 H1 T1 fe s1 st1 oe le di
  have y : PRs G W F H T (KS G F H T D) (match tgt i ps S1, eFzD n S1 with
    | some t, some x => match t.k, t.d with
      | .dK kk, .dic kvs => if isKey x = true ∧ kvs.length < sizeMax ∧ Kd.beq kd.1 kk = true ∧ (kk.isF || (keyAt kvs x).isNone) = true then pOk .nx (t.put i (.dK kk, .dic (putD kvs x kd.2)) S1) else .bad
      | _, _ => .bad
    | _, _ => .bad) := y
  cases eg : tgt i ps S1 with
  | none => rw [eg] at y; exact y.elim
  | some g =>
    cases ek : eFzD n S1 with
    | none => rw [eg, ek] at y; exact y.elim
    | some x =>
      rw [eg, ek] at y
      obtain ⟨pv, rk, rd, gk, gd⟩ := g
      simp only at y
      split at y
      · rename_i kk kds
        split at y
        · rename_i hc
          obtain ⟨hx, hz, hb, hn⟩ := hc
          refine d F1 H1 σ S1 T1 _ _ st1 eg fun v0 w F2 H2 s2 st2 sH hv nv => ?_
          obtain ⟨S', em⟩ := fzD_eq ek
          refine d3 F2 H2 σ S1 T1 _ x S' st2 em fun yv F3 H3 s3 st3 sH3 ry => ?_
          obtain ⟨v0', v', f', T0, hv', hT, nv', o', back⟩ := tgt_own st3 eg
          rw [hv] at hv'; cases hv'
          have := (nv.mono sH3).uniq nv'
          subst this
          obtain ⟨fr, oe2, di2⟩ := frame_own (s2.trans s3) (sH.trans sH3) oe le di
          cases o' with
          | @dK _ a kvs _ gg ho hnm rl =>
            obtain ⟨kx, rfl, rfl⟩ := key_of hx ry
            rw [Kd.eq_of_beq hb] at oe2
            cases es : (⟨pv, rk, rd, .dK kk, .dic kds⟩ : Tgt).put i (.dK kk, .dic (putD kds (keyD kx) kd.2)) S1 with
            | none => rw [es] at y; exact y.elim
            | some S2 =>
              rw [es] at y
              obtain ⟨T', st4, s4⟩ := dict_up st3 ho hnm rl (fun b => rfl) hT back oe2 le di2 hn es
              have hl : kvs.length = kds.length := by have := congrArg List.length hnm; simpa using this.symm
              have l2 : sizeLine = sizeMax := rfl
              exact ⟨a, _, rfl, .k ho (by rw [hl, l2]; exact hz), nx_of (show KS G F H T D .nx S2 from y) ((s1.trans fr).trans s4) st4⟩
        · exact y.elim
      · exact y.elim
theorem val_at {kvs : List (Key × V)} {kds : List (D × D)} {F : Hp} (hk : kds.map (·.1) = kvs.map (fun p => keyD p.1)) (r : Reps G F (kvs.map (·.2)) (kds.map (·.2))) (kk : Key) : match valD kds (keyD kk), valV kvs kk with
    | some d, some v => Rep G F v d
    | none, none => True
    | _, _ => False := by
  induction kvs generalizing kds with
  | nil => cases kds with
    | nil => exact trivial
    | cons a b => simp at hk
  | cons p q ih => cases kds with
    | nil => simp at hk
    | cons a b =>
      obtain ⟨h1, h2⟩ := List.cons.inj (show a.1 :: b.map (·.1) = keyD p.1 :: q.map (fun p => keyD p.1) from hk)
      cases r with
      | cons r1 r2 =>
        have := ih h2 r2
        unfold valD valV at this ⊢
        rw [List.find?_cons, List.find?_cons, h1, key_eqv]
        by_cases z : p.1 = kk
        · rw [decide_eq_true z]; exact r1
        · rw [decide_eq_false z]; exact this
theorem q_get2 {o ke ze : Expr} {i : Nat} {ps : List PS} {m n : E} {apos pos : Pos} (C : Cok X G W k) (h : TrP X G o i ps) (hk : TrQ X G ke m) (hz : TrQ X G ze n) (m2 : M2 X o "get" apos ke ze pos := by exact ⟨rfl, rfl, rfl, rfl⟩) : TrQ X G (.Call (.Attribute o "get" apos) [ke, ze] [] pos) (pGet2 i ps m n) := by
  obtain ⟨t, p, d⟩ := h
  obtain ⟨t2, p2, d2⟩ := hk
  obtain ⟨t3, p3, d3⟩ := hz
  refine ⟨_, pe_dget2 (by have := C.room.units; omega) p p2 p3 m2, fun F H σ S T Q d0 S' st e k => ?_⟩
  unfold pGet2 at e
  cases eg : tgt i ps S with
  | none => rw [eg] at e; cases e
  | some g =>
    cases e1 : eFzD m S with
    | none => rw [eg, e1] at e; cases e
    | some x =>
      cases e2 : eFzD n S with
      | none => rw [eg, e1, e2] at e; cases e
      | some w =>
        rw [eg, e1, e2] at e
        obtain ⟨pv, rk, rd, gk, gd⟩ := g
        simp only at e
        split at e
        · rename_i kds
          split at e
          · rename_i hx
            cases e
            refine d F H σ S T _ _ st eg fun v0 u F1 H1 s1 st1 h1 hv nv => ?_
            obtain ⟨v0', v', f', T0, hv', hT, nv', o', _⟩ := tgt_own st1 eg
            rw [hv] at hv'; cases hv'
            have := nv.uniq nv'
            subst this
            cases o' with
            | @dK _ a kvs _ gg ho hnm rl =>
              obtain ⟨Sx, em⟩ := fzD_eq e1
              obtain ⟨Sy, en⟩ := fzD_eq e2
              refine ⟨a, rfl, .inl ⟨kvs, .inl ho⟩, ?_⟩
              refine d2 F1 H1 σ S T _ x Sx st1 em fun yv F2 H2 s2 st2 h2 ry => d3 F2 H2 σ S T _ w Sy st2 en fun zv F3 H3 s3 st3 h3 rz => ?_
              obtain ⟨rr, rfl⟩ := reps_fz rl
              obtain ⟨kx, rfl, rfl⟩ := key_of hx ry
              have sF := s2.sF.trans s3.sF
              have va := val_at hnm (rr.mono sF) kx
              refine ⟨_, .k (h3 _ _ (h2 _ _ ho)), ?_⟩
              refine k _ F3 H3 ((s1.trans s2).trans s3) st3 ((h1.trans h2).trans h3) ?_
              cases q1 : valD kds (keyD kx) with
              | none =>
                cases q2 : valV kvs kx with
                | none => exact rz
                | some v => rw [q1, q2] at va; exact va.elim
              | some dd =>
                cases q2 : valV kvs kx with
                | none => rw [q1, q2] at va; exact va.elim
                | some v => rw [q1, q2] at va; exact va
          · cases e
        · cases e
end
end TB

/-! TbT5: methods, objects made. -/
namespace TB
open PySem L2
theorem AVs.app {G : Cfg} {F H : Hp} {σ : L2.St} {as bs : List AV} {vs ws : List V} {f g : Cnt} (h : AVs G F H σ as vs f) (r : AVs G F H σ bs ws g) : AVs G F H σ (as ++ bs) (vs ++ ws) (add f g) := by
  induction h with
  | nil =>
    have e : add nil0 g = g := by funext a; simp [add, nil0]
    show AVs G F H σ bs ws (add nil0 g)
    rw [e]; exact r
  | v r0 _ ih => exact .v r0 ih
  | @o _ _ _ _ f1 f2 hk o _ ih =>
    have : AVs G F H σ _ _ (add f1 (add f2 g)) := .o hk o ih
    have e : add f1 (add f2 g) = add (add f1 f2) g := by funext a; simp only [add]; omega
    exact e ▸ this
  | b x _ ih => exact .b x ih
theorem AVs.noT {G : Cfg} {F H : Hp} {σ : L2.St} {as : List AV} {vs : List V} {f : Cnt} (h : AVs G F H σ as vs f) (a : Addr) (n : f a ≠ 0) : ¬ TupAt (H a) := by
  induction h with
  | nil => exact absurd rfl n
  | v _ _ ih => exact ih n
  | @o _ _ _ _ f g _ o _ ih =>
    by_cases q : f a = 0
    · exact ih (by simp only [add] at n; omega)
    · exact o.noT a q
  | b _ _ ih => exact ih n
/-- constants as arguments -/
inductive Dfs (G : Cfg) : List V → List D → Prop
  | nil : Dfs G [] []
  | cons {v : V} {d : D} {vs : List V} {ds : List D} : (∀ F, Rep G F v d) → Dfs G vs ds → Dfs G (v :: vs) (d :: ds)
theorem Dfs.avs {G : Cfg} {F H : Hp} {σ : L2.St} : ∀ {vs : List V} {ds : List D}, Dfs G vs ds → AVs G F H σ (ds.map .v) vs nil0
  | _, _, .nil => .nil
  | _, _, .cons h r => .v (h F) r.avs
theorem Dfs.len {G : Cfg} : ∀ {vs : List V} {ds : List D}, Dfs G vs ds → vs.length = ds.length
  | _, _, .nil => rfl
  | _, _, .cons _ r => by simp [r.len]
section
variable {X : Cx} {CX : CXT} {k : Nat} {f C : Addr} {fd : FuncData} {ps : List PySem.Str} {sp : Sp} {dvs : List V} {ds : List Value} {E : L2.St → XK} {x m : PySem.Str} {p pos apos : Pos} {e o : Expr} {es : List Expr} {ta : TE} {t : TA}
/-- a def called where what it raises is wished for at the caller's slots -/
theorem fn_slots {pins : List (Addr × Obj)} {σ : L2.St} {H : Hp} {s : Shared} {Q : VK} {us : List Value} {vs : List V} (F : FnOk X.prog X.w X.K X.mg X.base CX k f fd ps sp) (hr : Room k X.A) (hb : Binds X.K fd ps ds) (hd : Vals dvs ds) (hx : PassesAt CX X σ (E σ)) (I : Inv X pins σ H s) (r : Vals vs us)
    (h : sp (vs ++ dvs) H Q (E σ)) : wpAny (model X.prog X.w) X.A (call (.ref f) us) (EP X pins σ Q) X.xe s := by
  have r2 := r.append hd
  have hl : (us ++ ds).length = ps.length := r2.length ▸ F.len _ _ _ _ h
  refine wpAny_call (codeAny_mono (F.run X.A X.stack s H ⟨us, []⟩ _ _ Q (E σ) hr I.env0 (hb s us I.kIn hl) r2 h) ?_)
  rintro (ex | fl) s' hq
  · exact hx pins H s ex s' I hq
  · cases fl <;> first | exact I.after hq | exact False.elim hq
def tMethS2 (C : Addr) (m : PySem.Str) (sp : Sp) (dvs : List V) (E : L2.St → XK) (ta : TE) (t : TA) : TE := fun σ H Q => ta σ H fun x H1 => ∃ a dx fs, x = .ref a ∧ H1 a = some (.ins C dx fs) ∧ fs.lookup m = none ∧ t σ H1 fun vs H2 => sp (x :: (vs ++ dvs)) H2 Q (E σ)
theorem pe_methS2 {pl : Sem Bool} (he : PE X o ta) (c : L2.Cls X.K C) (hm : L2.Meth X.K C m f) (F : FnOk X.prog X.w X.K X.mg X.base CX k f fd ps sp) (hr : Room k X.A) (hb : Binds X.K fd ps ds) (hd : Vals dvs ds) (hx : ∀ σ, PassesAt CX X σ (E σ)) (ha : PA X (e :: es) t)
    (hst : starEach (e :: es) X.env = (false, eval e X.env) :: starEach es X.env := by rfl) (hpl : (backTo pos (starEach es X.env)).any (·.1) = false := by rfl)
    (ht : eval (.Call (.Attribute o m apos) (e :: es) [] pos) X.env = (do
      let recv ← eval o X.env
      standAt apos.atName
      let (g, first) ← holding [recv] (getMethod recv m pl)
      callWith pos g first (backTo pos (starEach (e :: es) X.env)) (backToKw pos (keywordEach [] X.env))) := by rfl) : PE X (.Call (.Attribute o m apos) (e :: es) [] pos) (tMethS2 C m sp dvs E ta t) := by
  refine ⟨fun pins s σ H Q I h => PySem.W.methodCall_KW (pl := pl) (thn (he.run pins s σ H _ I h) ?_) ht⟩
  rintro u s1 ⟨x, H1, I1, rx, a, dx, fs, rfl, ea, l, q⟩
  cases rx
  refine getmeth_ok I1 ea c hm l (PySem.W.callWith_K (first := [.ref a]) (h₀ := X.base) I.ok.mod.kin hm.kp (thn (ha.run pos pins s1 σ H1 _ I1 q) ?_) hst hpl)
  rintro us s2 ⟨vs, H2, I2, r, q2⟩
  exact ⟨I2.kIn, fn_slots (us := .ref a :: us) (vs := .ref a :: vs) F hr hb hd (hx σ) I2 (.cons rfl r) q2⟩
theorem pe_methS20 {pl : Sem Bool} (he : PE X o ta) (c : L2.Cls X.K C) (hm : L2.Meth X.K C m f) (F : FnOk X.prog X.w X.K X.mg X.base CX k f fd ps sp) (hr : Room k X.A) (hb : Binds X.K fd ps ds) (hd : Vals dvs ds) (hx : ∀ σ, PassesAt CX X σ (E σ))
    (ht : eval (.Call (.Attribute o m apos) [] [] pos) X.env = (do
      let recv ← eval o X.env
      standAt apos.atName
      let (g, first) ← holding [recv] (getMethod recv m pl)
      callWith pos g first (backTo pos (starEach [] X.env)) (backToKw pos (keywordEach [] X.env))) := by rfl) : PE X (.Call (.Attribute o m apos) [] [] pos) (tMethS2 C m sp dvs E ta tNil) := by
  refine ⟨fun pins s σ H Q I h => PySem.W.methodCall_KW (pl := pl) (thn (he.run pins s σ H _ I h) ?_) ht⟩
  rintro u s1 ⟨x, H1, I1, rx, a, dx, fs, rfl, ea, l, q⟩
  cases rx
  exact getmeth_ok I1 ea c hm l (PySem.W.callWith_K0 (first := [.ref a]) I1.kIn hm.kp (fn_slots (us := [.ref a]) (vs := [.ref a]) F hr hb hd (hx σ) I1 (.cons rfl .nil) q))
end
section
variable {X : Cx} {G : Cfgx} {W : WX} {k : Nat} {F H : Hp} {σ : L2.St} {S : List Slot} {T : Cnt}
/-- a receiver: as an argument alone -/
def DenR (G : Cfgx) (W : WX) (t : TE) (r : Ar) : Prop := ∀ F H σ S T Q, St' G F H σ S T → PR G W F H σ T (fun as S' => ∀ x v F' H' T' f, as = [x] → Step F H T F' H' (add T' f) → St' G F' H' σ S' T' → AVs G F' H' σ [x] [v] f → (∀ a, T' a + f a ≤ 1) → (∀ a, F' a ≠ none → f a = 0) → Q v H') (arEv [r] S) → t σ H Q
def TrR (X : Cx) (G : Cfgx) (W : WX) (e : Expr) (r : Ar) : Prop := ∃ t, PE X e t ∧ DenR G W t r
theorem rc_b (i : Nat) {x : PySem.Str} {pos : Pos} (hN : X.N[i]? = some x := by rfl) (hv : Vis X.env.scope x := by first | exact Or.inl rfl | exact Or.inr (Or.inl rfl) | exact Or.inr (Or.inr rfl)) (hd : (x == ("__debug__" : PySem.Str)) = false := by decide)
    (hcd : (x == ("__classdict__" : PySem.Str)) = false := by decide) : TrR X G W (.Name x pos) (.b i) := by
  refine ⟨_, pe_var hN hv hd hcd, fun F H σ S T Q st p => ?_⟩
  unfold arEv at p
  cases e : S[i]? with
  | none => rw [e] at p; exact p.elim
  | some s =>
    cases s with
    | none => rw [e] at p; exact p.elim
    | some kd =>
      rw [e] at p
      obtain ⟨v, f, hv, o, _⟩ := st.sl.var e
      exact ⟨v, hv, p (.b i) v F H T nil0 rfl ((Step.refl F H T).castR fun a => rfl) st (.b hv .nil) (fun a => st.le a) fun _ _ => rfl⟩
theorem rc_v {e : Expr} {m : E} (h : TrE X G W e m) : TrR X G W e (.v m) := by
  obtain ⟨t, p, d⟩ := h
  refine ⟨t, p, fun F H σ S T Q st z => d.dat F H σ S T _ st (PR.bind z fun dd S1 y => ?_)⟩
  intro v F1 H1 T1 s1 st1 r1
  exact y (.v dd) v F1 H1 T1 nil0 rfl (s1.castR fun a => rfl) st1 (.v r1 .nil) (fun a => st1.le a) fun _ _ => rfl
theorem rc_o {e : Expr} {m : E} (h : TrE X G W e m) : TrR X G W e (.o m) := by
  obtain ⟨t, p, d⟩ := h
  refine ⟨t, p, fun F H σ S T Q st z => d F H σ S T _ st (PR.bind z fun kd S1 y => ?_)⟩
  intro v F1 H1 T1 f1 s1 st1 o1 le1 di1
  cases hk : kd.1.isF with
  | true =>
    have y : PR G W F H σ T _ ((if kd.1.isF then (fun _ => .bad : M (List AV)) else M.pure (.o kd :: [])) S1) := y
    rw [hk, if_pos rfl] at y
    exact y.elim
  | false =>
    have y : PR G W F H σ T _ ((if kd.1.isF then (fun _ => .bad : M (List AV)) else M.pure (.o kd :: [])) S1) := y
    rw [hk, if_neg (by simp)] at y
    exact y (.o kd) v F1 H1 T1 (add f1 nil0) rfl (s1.castR fun a => by simp [add, nil0]) st1 (.o hk o1 .nil) (fun a => by simpa [add, nil0] using le1 a) fun a n => by simpa [add, nil0] using di1 a n
/-- the receiver is an instance of the class -/
theorem isObj_at {x : AV} {v : V} {f : Cnt} {c : Nat} (st : St' G F H σ S T) (av : AVs G F H σ [x] [v] f) (h : isObj c x S = true) : ∃ a dx fs n, v = .ref a ∧ H a = some (.ins (G.ca c) dx fs) ∧ fs.map (·.1) = (G.cn c).take n := by
  cases av with
  | v r _ =>
    cases r with
    | ob hh hn _ =>
      have h : (_ == c) = true := h
      cases eq_of_beq h
      exact ⟨_, _, _, _, rfl, st.sub _ _ hh, hn⟩
    | _ => simp [isObj] at h
  | @o kd x as vs f g hk o _ =>
    obtain ⟨kk, dd⟩ := kd
    cases o with
    | fz r => cases hk
    | ob hh hn _ =>
      have h : (_ == c) = true := h
      cases eq_of_beq h
      exact ⟨_, _, _, _, rfl, hh, hn⟩
    | _ => simp [isObj] at h
  | @b i x as vs g hx _ =>
    have h : (match S[i]? with
      | some (some (.ob _, .ob c' _)) => c' == c
      | _ => false) = true := h
    split at h
    · rename_i ks c' ds e
      cases eq_of_beq h
      obtain ⟨v2, f2, hv2, o, _⟩ := st.sl.var e
      rw [hx] at hv2; cases hv2
      cases o with
      | ob hh hn _ => exact ⟨_, _, _, _, rfl, hh, hn⟩
    · cases h
theorem lookup_none {fs : List (PySem.Str × V)} {cn : List PySem.Str} {n : Nat} {m : PySem.Str} (h : fs.map (·.1) = cn.take n) (hm : m ∉ cn) : fs.lookup m = none := by
  rw [List.lookup_eq_none_iff]
  intro p hp
  have : p.1 ∈ cn := List.mem_of_mem_take (by rw [← h]; exact List.mem_map.mpr ⟨p, hp, rfl⟩)
  simp only [beq_iff_eq, bne_iff_ne, ne_eq, Bool.not_eq_true', beq_eq_false_iff_ne]
  intro e; exact hm (e ▸ this)
theorem arEv1 {r : Ar} {S S' : List Slot} {as : List AV} (h : arEv [r] S = .ok as S') : ∃ x, as = [x] := by
  have := arEv_len [r] S S' as h
  match as, this with
  | [x], _ => exact ⟨x, rfl⟩
/-- receiver and arguments in hand -/
theorem recv_core {fn : Fn} {n : Nat} {x : AV} {v : V} {vs : List V} {avs : List AV} {dvs : List V} {dds : List D} {F1 H1 F2 H2 : Hp} {T1 T2 f1 f2 : Cnt} {S2 : List Slot} {Q : VK} (hn : 1 + avs.length + dds.length = n) (hd : Dfs G dvs dds)
    (s1 : Step F H T F1 H1 (add T1 f1)) (a1 : AVs G F1 H1 σ [x] [v] f1) (le1 : ∀ a, T1 a + f1 a ≤ 1) (di1 : ∀ a, F1 a ≠ none → f1 a = 0)
    (s2 : Step F1 H1 T1 F2 H2 (add T2 f2)) (st2 : St' G F2 H2 σ S2 T2) (a2 : AVs G F2 H2 σ avs vs f2) (le2 : ∀ a, T2 a + f2 a ≤ 1) (di2 : ∀ a, F2 a ≠ none → f2 a = 0)
    (h : PR G W F H σ T (KE G F H σ T Q) (callAV fn (x :: (avs ++ dds.map .v)) S2)) : spF G n fn (v :: (vs ++ dvs)) H2 Q (WE W σ) := by
  have th : ∀ a, f1 a ≠ 0 → H1 a ≠ none := fun a z => a1.there a z
  obtain ⟨b1, b2, b3⟩ := s2.frame le1 th
  have a1' : AVs G F2 H2 σ [x] [v] f1 := a1.mono s2.sF b3
  have av : AVs G F2 H2 σ (x :: (avs ++ dds.map .v)) (v :: (vs ++ dvs)) (add f1 (add f2 nil0)) := a1'.app (a2.app hd.avs)
  refine call_core (fun ks _ => ?_) (s1.trans (b1.castR fun a => ?_)) st2 av (fun a => ?_) (fun a z => ?_) h
  · have := avs_len a2
    have := hd.len
    simp only [List.length_cons, List.length_append]; omega
  · simp only [add, nil0]; omega
  · by_cases z : f1 a = 0
    · have := le2 a; simp only [add, nil0]; omega
    · have y := b2 a z; have := le1 a; simp only [add, nil0] at y ⊢; omega
  · by_cases q : f1 a = 0
    · have := di2 a z; simp only [add, nil0]; omega
    · exfalso
      by_cases w : F1 a = none
      · exact z (s2.keepF w (th a q) (by have := le1 a; omega) (a1.noT a q))
      · exact q (di1 a w)
theorem den_meth {c n : Nat} {m : PySem.Str} {fn : Fn} {ta : TE} {t : TA} {r : Ar} {ms : List Ar} {dvs : List V} {dds : List D} (hn : 1 + ms.length + dds.length = n) (hd : Dfs G dvs dds) (hm : m ∉ G.cn c) (hr : DenR G W ta r) (ha : DenAr G W t (arEv ms)) :
    DenE G W (tMethS2 (G.ca c) m (spF G n fn) dvs (WE W) ta t) (eMeth c fn r ms dds) := fun F H σ S T Q st p => by
  refine hr F H σ S T _ st (PR.bind p fun as1 S1 y => ?_)
  rintro x v F1 H1 T1 f1 rfl s1 st1 a1 le1 di1
  have y : PR G W F H σ T (KE G F H σ T Q) (if isObj c x S1 = true then (M.bind (arEv ms) fun vs S => callAV fn (x :: (vs ++ dds.map .v)) S) S1 else .bad) := y
  by_cases ho : isObj c x S1 = true
  case neg => rw [if_neg ho] at y; exact y.elim
  rw [if_pos ho] at y
  obtain ⟨a, dx, fs, j, rfl, hH, hfs⟩ := isObj_at st1 a1 ho
  refine ⟨a, dx, fs, rfl, hH, lookup_none hfs hm, ?_⟩
  have y : PR G W F H σ T (KE G F H σ T Q) ((arEv ms S1).bind fun vs S => callAV fn (x :: (vs ++ dds.map .v)) S) := y
  cases e : arEv ms S1 with
  | bad => rw [e] at y; exact y.elim
  | exc xc S2 =>
    rw [e] at y
    refine ha F1 H1 σ S1 T1 _ st1 ?_
    rw [e]
    intro cls dxx F' H' T' s' st' ex
    have th : ∀ a, f1 a ≠ 0 → H1 a ≠ none := fun a z => a1.there a z
    obtain ⟨b1, _, _⟩ := s'.frame le1 th
    exact (show PX G W F H σ T xc S2 from y) cls dxx F' H' T' (s1.trans (b1.less fun a => by simp only [add]; omega)) st' ex
  | ok avs S2 =>
    rw [e] at y
    refine ha F1 H1 σ S1 T1 _ st1 ?_
    rw [e]
    intro vs F2 H2 T2 f2 s2 st2 a2 le2 di2
    exact recv_core (by rw [arEv_len ms S1 S2 avs e]; exact hn) hd s1 a1 le1 di1 s2 st2 a2 le2 di2 y
theorem tr_meth (c : Nat) {fn : Fn} {f : Addr} {fd : FuncData} {ps : List PySem.Str} {m : PySem.Str} {apos pos : Pos} {o e : Expr} {es : List Expr} {r : Ar} {ms : List Ar} {dvs : List V} {dds : List D} {ds : List Value} (C : Cok X G W k) (F : FnOk X.prog X.w X.K X.mg X.base (L2N.CX X.prog X.w) k f fd ps (spF G ps.length fn))
    (hc : L2.Cls X.K (G.ca c)) (hm : L2.Meth X.K (G.ca c) m f) (hb : Binds X.K fd ps ds) (hr : TrR X G W o r) (ha : TrAr X G W (e :: es) ms) (hd : Dfs G dvs dds := by exact .nil) (hvs : Vals dvs ds := by exact .nil) (hn : 1 + ms.length + dds.length = ps.length := by rfl) (hcn : m ∉ G.cn c := by decide) {pl : Sem Bool}
    (hst : starEach (e :: es) X.env = (false, eval e X.env) :: starEach es X.env := by rfl) (hpl : (backTo pos (starEach es X.env)).any (·.1) = false := by rfl)
    (ht : eval (.Call (.Attribute o m apos) (e :: es) [] pos) X.env = (do
      let recv ← eval o X.env
      standAt apos.atName
      let (g, first) ← holding [recv] (getMethod recv m pl)
      callWith pos g first (backTo pos (starEach (e :: es) X.env)) (backToKw pos (keywordEach [] X.env))) := by rfl) : TrE X G W (.Call (.Attribute o m apos) (e :: es) [] pos) (eMeth c fn r ms dds) := by
  obtain ⟨t1, p1, d1⟩ := hr
  obtain ⟨t2, p2, d2⟩ := ha
  exact ⟨_, pe_methS2 (pl := pl) p1 hc hm F C.room hb hvs (fun σ => L2N.passAt C.tk σ) p2 hst hpl ht, den_meth hn hd hcn d1 d2⟩
theorem tr_meth0 (c : Nat) {fn : Fn} {f : Addr} {fd : FuncData} {ps : List PySem.Str} {m : PySem.Str} {apos pos : Pos} {o : Expr} {r : Ar} {dvs : List V} {dds : List D} {ds : List Value} (C : Cok X G W k) (F : FnOk X.prog X.w X.K X.mg X.base (L2N.CX X.prog X.w) k f fd ps (spF G ps.length fn))
    (hc : L2.Cls X.K (G.ca c)) (hm : L2.Meth X.K (G.ca c) m f) (hb : Binds X.K fd ps ds) (hr : TrR X G W o r) (hd : Dfs G dvs dds := by exact .nil) (hvs : Vals dvs ds := by exact .nil) (hn : 1 + ([] : List Ar).length + dds.length = ps.length := by rfl) (hcn : m ∉ G.cn c := by decide) {pl : Sem Bool}
    (ht : eval (.Call (.Attribute o m apos) [] [] pos) X.env = (do
      let recv ← eval o X.env
      standAt apos.atName
      let (g, first) ← holding [recv] (getMethod recv m pl)
      callWith pos g first (backTo pos (starEach [] X.env)) (backToKw pos (keywordEach [] X.env))) := by rfl) : TrE X G W (.Call (.Attribute o m apos) [] [] pos) (eMeth c fn r [] dds) := by
  obtain ⟨t1, p1, d1⟩ := hr
  refine ⟨_, pe_methS20 (pl := pl) p1 hc hm F C.room hb hvs (fun σ => L2N.passAt C.tk σ) ht, den_meth (t := tNil) (ms := []) hn hd hcn d1 fun F H σ S T Q st p => ?_⟩
  exact (show KAr G F H σ T Q [] S from p) [] F H T nil0 ((Step.refl F H T).castR fun a => rfl) st .nil (fun a => st.le a) fun _ _ => rfl
/-! ### new objects -/
theorem den_make {c n : Nat} {fn : Fn} {t : TA} {ms : List Ar} (hn : 1 + ms.length = n) (ha : DenAr G W t (arEv ms)) : DenE G W (tMake (G.ca c) (spF G n fn) [] (fun _ _ _ => False) t) (eMake c fn ms) := fun F H σ S T Q st p => by
  have p : PR G W F H σ T (KE G F H σ T Q) ((arEv ms S).bind _) := p
  refine ha F H σ S T _ st ?_
  cases e : arEv ms S with
  | bad => rw [e] at p; exact p.elim
  | exc x S1 => rw [e] at p; exact p
  | ok avs S1 =>
    rw [e] at p
    intro vs F1 H1 T1 f1 s1 st1 av le1 di1 x dx hx hdx hne
    have p : PR G W F H σ T (KE G F H σ T Q) (match arIn avs S1 with
      | none => .bad
      | some (ks, S1) => match fn ((.ob [], .ob c []) :: ks) with
        | .ret (_, .non) (o :: os) => (match arOut avs os S1 with | some S2 => .ok o S2 | none => .bad)
        | _ => .bad) := p
    cases ei : arIn avs S1 with
    | none => rw [ei] at p; exact p.elim
    | some q =>
      obtain ⟨ks, S2⟩ := q
      rw [ei] at p
      simp only at p
      have fx : F1 x = none := st1.sub.free hx
      have fdx : F1 dx = none := st1.sub.free hdx
      have tx : T1 x = 0 := Decidable.byContradiction fun z => st1.there x z hx
      have tdx : T1 dx = 0 := Decidable.byContradiction fun z => st1.there dx z hdx
      have f1x : f1 x = 0 := Decidable.byContradiction fun z => av.there x z hx
      have f1dx : f1 dx = 0 := Decidable.byContradiction fun z => av.there dx z hdx
      let H2 : Hp := upd (upd H1 dx (.own x)) x (.ins (G.ca c) dx [])
      have k12 : Same H1 H2 := fun a o h => by
        show upd (upd H1 dx (.own x)) x _ a = some o
        rw [upd_ne (ne_of_none h hx), upd_ne (ne_of_none h hdx)]; exact h
      have st2 : St' G F1 H2 σ S1 T1 := ⟨st1.pi, st1.sub.trans k12, st1.sl.mono (Same.refl F1) fun a o _ h => k12 _ _ h, st1.le, st1.di⟩
      have av2 : AVs G F1 H2 σ avs vs f1 := av.mono (Same.refl F1) fun a o _ h => k12 _ _ h
      have s2 : Step F1 H1 T1 F1 H2 (add T1 (one x)) := by
        refine ⟨Same.refl F1, fun a o _ h => k12 _ _ h, fun a z => ?_, fun a h z => absurd h z, fun a h => ?_⟩
        · by_cases q : a = x
          · rw [q]; exact .inr hx
          · exact .inl (by simp only [add, one, if_neg q] at z; omega)
        · cases q : H1 a with
          | none => exact absurd q h
          | some o => rw [k12 _ _ q]; simp
      obtain ⟨Ta, Tr, h1, h2, h3, h4⟩ := ar_in av2 st2.sl ei
      have ox : Own G F1 H2 (.ob []) (.ref x) (.ob c []) (add (one x) nil0) := .ob (dx := dx) (fs := []) upd_same rfl .nil
      have le : ∀ a, one x a + Ta a + Tr a ≤ 1 := fun a => by
        have := h4 a; have := le1 a
        by_cases q : a = x
        · rw [q] at this ⊢
          have := h4 x
          simp only [one, if_true]; omega
        · simp only [one, if_neg q]; omega
      have di : ∀ a, F1 a ≠ none → one x a + Ta a + Tr a = 0 := fun a n => by
        have := h4 a; have := st1.di a n; have := di1 a n
        by_cases q : a = x
        · rw [q] at n; exact absurd fx n
        · simp only [one, if_neg q]; omega
      have th : ∀ a, Tr a ≠ 0 → H2 a ≠ none := fun a n => h2.there a n
      have nt : ∀ a, Tr a ≠ 0 → ¬ TupAt (H2 a) := fun a n => h2.noT a n
      have lv : vs.length = ms.length := by rw [avs_len av, arEv_len ms S S1 avs e]
      have base : Step F H T F1 H2 (add (add (add (one x) nil0) Ta) Tr) := by
        have q1 := (s1.trans (s2.frame (R := f1) (fun a => by have := le1 a; omega) (fun a n => av.there a n)).1)
        exact q1.less fun a => by have := h4 a; simp only [add, nil0]; omega
      refine ⟨F1, add (add (one x) nil0) Ta, (.ob [], .ob c []) :: ks, by simp [lv]; omega, st2.sub, .cons ox (by simpa using h1), fun a => by have := le a; simp only [add, nil0]; omega, fun a n => by have := di a n; simp only [add, nil0]; omega, ?_⟩
      cases hfn : fn ((.ob [], .ob c []) :: ks) with
      | bad => rw [hfn] at p; exact p.elim
      | exc xc os => rw [hfn] at p; exact p.elim
      | ret r os =>
        rw [hfn] at p
        obtain ⟨rk, rd⟩ := r
        cases rd <;> first | exact p.elim | skip
        cases os with
        | nil => exact p.elim
        | cons ok os =>
          simp only at p
          cases ho : arOut avs os S2 with
          | none => simp only [ho] at p; exact p.elim
          | some S3 =>
            simp only [ho] at p
            have p : KE G F H σ T Q ok S3 := p
            intro v F' H' To f2 s' sub' ou o2 le2 di2
            have hv : v = .non := by
              cases o2 with
              | fz r => cases r; rfl
            refine ⟨hv, ?_⟩
            cases ou with
            | skip h _ => cases h
            | @own _ k' _ d' _ _ _ _ g1 g2 _ hk' o3 ou =>
              obtain ⟨b1, b2, b3⟩ := s'.frame (R := Tr) (fun a => by have := le a; simp only [add, nil0]; omega) th
              obtain ⟨T3, sl3, l3⟩ := ar_out av2 h3 (by simpa using ou) (h2.mono s'.sF b3) ho
              have tz : ∀ a, Tr a ≠ 0 → g1 a = 0 ∧ g2 a = 0 := fun a n => by have := b2 a n; simp only [add] at this; omega
              have fz : ∀ a, Tr a ≠ 0 → F' a = none := fun a n => by
                have w : F1 a = none := Decidable.byContradiction fun w => by have := di a w; omega
                exact s'.keepF w (th a n) (by have := le a; simp only [add, nil0]; omega) (nt a n)
              have le3 : ∀ a, T3 a + g1 a ≤ 1 := fun a => by
                have := l3 a
                by_cases z : Tr a = 0
                · have := le2 a; simp only [add] at this; omega
                · have := tz a z; have := le a; omega
              refine p (.ref x) F' H' T3 g1 (base.trans (b1.less fun a => by have := l3 a; simp only [add]; omega)) ⟨st1.pi, sub', sl3, fun a => by have := le3 a; omega, fun a n => ?_⟩ o3 le3 fun a n => by have := di2 a n; simp only [add] at this; omega
              have := l3 a
              by_cases z : Tr a = 0
              · have := di2 a n; simp only [add] at this; omega
              · exact absurd (fz a z) n
theorem pass_none {P : Program} {w : World} (X : Cx) : Passes (L2N.CX P w) X (fun _ _ _ => False) := fun pins σ H s e s' _ c => by
  obtain ⟨_, _, _, _, _, _, _, _, _, _, _, _, z⟩ := c
  exact z.elim
theorem tr_make (c : Nat) {j : Nat} {fn : Fn} {f : Addr} {fd : FuncData} {ps : List PySem.Str} {x : PySem.Str} {p pos : Pos} {e : Expr} {es : List Expr} {ms : List Ar} (C : Cok X G W k) (hj : j + 1 ≤ k) (F : FnOk X.prog X.w X.K X.mg X.base (L2N.CX X.prog X.w) j f fd ps (spF G ps.length fn)) (hm : X.mg x = some (.ref (G.ca c)))
    (M : L2.Mk X.K (G.ca c) f) (hb : Binds X.K fd ps []) (ha : TrAr X G W (e :: es) ms) (hn : 1 + ms.length = ps.length := by rfl) (hg : Gl X x := by rfl) (hdb : (x == ("__debug__" : PySem.Str)) = false := by decide) (he : starEach (e :: es) X.env = (false, eval e X.env) :: starEach es X.env := by rfl) (hpl : (backTo pos (starEach es X.env)).any (·.1) = false := by rfl) :
    TrE X G W (.Call (.Name x p) (e :: es) [] pos) (eMake c fn ms) := by
  obtain ⟨t, pa, da⟩ := ha
  exact ⟨_, pe_make M F (C.room.mono hj) hg hm hb .nil (pass_none X) pa hdb he hpl, den_make hn da⟩
end
end TB

/-! TbN4: dicts whose keys are tuples of numbers, texts, tuples. -/
namespace TB
open PySem L2
mutual
def toNK : D → NestedKey
  | .int i => .num i
  | .str s => .text ⟨s.toArray⟩
  | .tup xs => .tup (toNKs xs)
  | _ => .none
def toNKs : List D → List NestedKey
  | [] => []
  | x :: xs => toNK x :: toNKs xs
end
mutual
theorem nkD_to : ∀ (n : Nat) (d : D), d.nk n = true → nkD (toNK d) = d ∧ (toNK d).depth ≤ n := by
  intro n d h
  cases d with
  | int i => exact ⟨rfl, Nat.zero_le _⟩
  | str s => exact ⟨by simp [toNK, nkD], Nat.zero_le _⟩
  | tup xs =>
    cases n with
    | zero => simp [D.nk] at h
    | succ n =>
      obtain ⟨a, b⟩ := nkDs_to n xs (by simpa [D.nk] using h)
      exact ⟨by simp only [toNK, nkD, a], by simp only [toNK, NestedKey.depth]; omega⟩
  | _ => simp [D.nk] at h
theorem nkDs_to : ∀ (n : Nat) (ds : List D), D.nks n ds = true → nkDs (toNKs ds) = ds ∧ NestedKey.depthAll (toNKs ds) ≤ n
  | _, [], _ => ⟨rfl, Nat.zero_le _⟩
  | n, x :: xs, h => by
    simp only [D.nks, Bool.and_eq_true] at h
    obtain ⟨a, b⟩ := nkD_to n x h.1
    obtain ⟨c, d⟩ := nkDs_to n xs h.2
    exact ⟨by simp only [toNKs, nkDs, a, c], by simp only [toNKs, NestedKey.depthAll]; omega⟩
end
mutual
theorem nk_eqv : ∀ a b : NestedKey, D.eqv (nkD a) (nkD b) = NestedKey.beq a b
  | .none, .none => rfl
  | .none, .num _ => rfl
  | .none, .text _ => rfl
  | .none, .tup _ => rfl
  | .num _, .none => rfl
  | .num a, .num b => by simp [nkD, D.eqv, NestedKey.beq, BEq.beq]
  | .num _, .text _ => rfl
  | .num _, .tup _ => rfl
  | .text _, .none => rfl
  | .text _, .num _ => rfl
  | .text a, .text b => by
    have := key_eqv (.inr a) (.inr b)
    simp only [keyD] at this
    simp only [nkD, NestedKey.beq]
    rw [this]
    exact decide_eq_decide.mpr ⟨fun e => Sum.inr.inj e, fun e => e ▸ rfl⟩
  | .text _, .tup _ => rfl
  | .tup _, .none => rfl
  | .tup _, .num _ => rfl
  | .tup _, .text _ => rfl
  | .tup xs, .tup ys => by
    simp only [nkD, D.eqv, NestedKey.beq]
    exact nks_eqv xs ys
theorem nks_eqv : ∀ a b : List NestedKey, D.eqvs (nkDs a) (nkDs b) = NestedKey.beqAll a b
  | [], [] => rfl
  | [], _ :: _ => rfl
  | _ :: _, [] => rfl
  | a :: as, b :: bs => by simp only [nkDs, D.eqvs, NestedKey.beqAll, nk_eqv a b, nks_eqv as bs]
end
theorem nk_dec (a b : NestedKey) : D.eqv (nkD a) (nkD b) = decide (a = b) := by rw [nk_eqv, NestedKey.decide_eq]
section
variable {X : Cx} {G : Cfgx} {pins : List (Addr × Obj)} {σ : L2.St} {H : Hp} {s : Shared}
mutual
theorem nested_of (I : Inv X pins σ H s) (hK : X.K = G.K) : ∀ (k : NestedKey) (v : V) (u : Value), Rep G H v (nkD k) → RelV v u → NestedIs s.heap k u
  | .none, v, u, r, e => by
    simp only [nkD] at r
    cases r
    cases (show u = Value.none from e)
    exact .none
  | .num i, v, u, r, e => by
    simp only [nkD] at r
    cases r
    obtain ⟨t, rfl⟩ := (show ∃ t, u = Value.int i t from e)
    exact .int i t
  | .text z, v, u, r, e => by
    simp only [nkD] at r
    generalize hz : z.cps.toList = l at r
    cases r with
    | str z' =>
      have : z = z' := by
        cases z; cases z'
        have h := Array.toList_inj.mp hz
        simp at h
        rw [h]
      subst this
      obtain ⟨t, rfl⟩ := (show ∃ t, u = Value.str z t from e)
      exact .text z t
  | .tup ks, v, u, r, e => by
    simp only [nkD] at r
    cases r with
    | tup h rs =>
      obtain rfl : u = Value.ref _ := e
      obtain ⟨its, rv, ⟨o, ho, hc, n, hd⟩, _⟩ := I.tuple (by rw [hK]; exact h)
      exact .tup ho hc hd (by simpa using nesteds_of I hK ks _ _ rs rv)
theorem nesteds_of (I : Inv X pins σ H s) (hK : X.K = G.K) : ∀ (ks : List NestedKey) (vs : List V) (us : List Value), Reps G H vs (nkDs ks) → Vals vs us → NestedAll s.heap ks us
  | [], vs, us, r, e => by
    simp only [nkDs] at r
    cases r; cases e
    exact .nil
  | k :: ks, vs, us, r, e => by
    simp only [nkDs] at r
    cases r with
    | cons a b =>
      cases e with
      | cons c d => exact .cons (nested_of I hK k _ _ a c) (nesteds_of I hK ks _ _ b d)
end
abbrev NT := NestedKey × Addr × V
def valN (xs : List NT) (k : NestedKey) : Option V := (xs.find? fun x => decide (x.1 = k)).map (·.2.2)
def putN (xs : List NT) (k : NestedKey) (b : Addr) (v : V) : List NT := if (xs.any fun x => decide (x.1 = k)) = true then xs.map (fun x => if x.1 = k then (x.1, x.2.1, v) else x) else xs ++ [(k, b, v)]
abbrev NRel : List NT → List (NestedKey × Addr × Value) → Prop := Paired fun p q => p.1 = q.1 ∧ p.2.1 = q.2.1 ∧ RelV p.2.2 q.2.2
theorem nrel_mem {xs : List NT} {us : List (NestedKey × Addr × Value)} (r : NRel xs us) : ∀ q ∈ us, ∃ p ∈ xs, p.1 = q.1 ∧ p.2.1 = q.2.1 := by
  induction r with
  | nil => intro q h; simp at h
  | cons a _ ih =>
    intro q h
    rcases List.mem_cons.mp h with rfl | h
    · exact ⟨_, List.mem_cons_self, a.1, a.2.1⟩
    · obtain ⟨p, hp, e⟩ := ih q h
      exact ⟨p, List.mem_cons_of_mem _ hp, e⟩
theorem nrel_val {xs : List NT} {us : List (NestedKey × Addr × Value)} (r : NRel xs us) (k : NestedKey) : RelO (valN xs k) ((atKey us k).map (·.2)) := by
  induction r with
  | nil => exact (show RelO none none from trivial)
  | @cons p q xs us a r ih =>
    obtain ⟨e1, e2, e3⟩ := a
    unfold valN atKey at ih ⊢
    rw [List.find?_cons, List.find?_cons, ← e1]
    by_cases z : p.1 = k
    · rw [decide_eq_true z]; exact e3
    · rw [decide_eq_false z]; exact ih
theorem nrel_any {xs : List NT} {us : List (NestedKey × Addr × Value)} (r : NRel xs us) (k : NestedKey) : (xs.any fun x => decide (x.1 = k)) = (atKey us k).isSome := by
  induction r with
  | nil => rfl
  | @cons p q xs us a r ih =>
    obtain ⟨e1, e2, e3⟩ := a
    unfold atKey at ih ⊢
    rw [List.any_cons, List.find?_cons, ← e1]
    by_cases z : p.1 = k
    · rw [decide_eq_true z]; rfl
    · rw [decide_eq_false z, Bool.false_or]; exact ih
theorem nrel_mapPut {xs : List NT} {us : List (NestedKey × Addr × Value)} (r : NRel xs us) (k : NestedKey) {v : V} {u : Value} (e : RelV v u) : NRel (xs.map fun x => if x.1 = k then (x.1, x.2.1, v) else x) (us.map (putAt k u)) := by
  induction r with
  | nil => exact .nil
  | @cons p q xs us a r ih =>
    obtain ⟨e1, e2, e3⟩ := a
    refine .cons ?_ ih
    show (if p.1 = k then (p.1, p.2.1, v) else p).1 = (if q.1 = k then (q.1, q.2.1, u) else q).1 ∧ _ ∧ _
    unfold putAt
    by_cases z : p.1 = k
    · have z2 : q.1 = k := by rw [← e1]; exact z
      simp only [if_pos z, if_pos z2]; exact ⟨e1, e2, e⟩
    · have z2 : ¬ q.1 = k := by rw [← e1]; exact z
      simp only [if_neg z, if_neg z2]; exact ⟨e1, e2, e3⟩
theorem nrel_app1 {xs : List NT} {us : List (NestedKey × Addr × Value)} (r : NRel xs us) {p : NT} {q : NestedKey × Addr × Value} (e : p.1 = q.1 ∧ p.2.1 = q.2.1 ∧ RelV p.2.2 q.2.2) : NRel (xs ++ [p]) (us ++ [q]) := by
  induction r with
  | nil => exact .cons e .nil
  | cons a _ ih => exact .cons a ih
theorem nrel_put {xs : List NT} {us : List (NestedKey × Addr × Value)} (r : NRel xs us) (k : NestedKey) (b : Addr) {v : V} {u : Value} (e : RelV v u) : NRel (putN xs k b v) (storedH us k b u) := by
  unfold putN storedH
  rw [nrel_any r k]
  split
  · exact nrel_mapPut r k e
  · exact nrel_app1 r ⟨rfl, rfl, e⟩
theorem nrel_len {xs : List NT} {us : List (NestedKey × Addr × Value)} (r : NRel xs us) : xs.length = us.length := Paired.length r
/-- the keys stand -/
def KeysAt (G : Cfg) (H : Hp) (xs : List NT) : Prop := ∀ x ∈ xs, Rep G H (.ref x.2.1) (nkD x.1)
theorem ndo_at (I : Inv X pins σ H s) (hK : X.K = G.K) (hw : X.w = G.w) {a : Addr} {xs : List NT} (e : Rd H a (NDO G.w a xs)) (hk : KeysAt G H xs) : (a == sysModules) = false ∧ xs.length ≤ sizeLine ∧ ∃ us, NRel xs us ∧ s.heap.DictOfH (nestedKind X.prog X.w) a us := by
  obtain ⟨⟨h1, h2, h3, us, r, o, es, ep, g1, g2, g3, g4, g5⟩, _, _⟩ := (show ObjOk X.prog X.w H s.heap a (NDO G.w a xs) from e.ok I.hok)
  refine ⟨h1, h2, us, r, o, es, ep, g1, g2, g3, ?_, fun q hq => ?_, g5⟩
  · rw [g4, hw]; rfl
  · obtain ⟨p, hp, e1, e2⟩ := nrel_mem r q hq
    have := nested_of I hK p.1 _ (.ref p.2.1) (hk p hp) rfl
    exact ⟨by rw [← e1, ← e2]; exact this, by rw [← e1]; exact h3 p hp⟩
theorem key_at' (I : Inv X pins σ H s) (hK : X.K = G.K) {y : V} {u : Value} {d : D} (r : Rep G H y d) (e : RelV y u) (hd : isNK d = true) : ∃ b, y = .ref b ∧ u = .ref b ∧ (nestedKind X.prog X.w).is s.heap (toNK d) b ∧ nkD (toNK d) = d ∧ (toNK d).depth ≤ 8 := by
  simp only [isNK, Bool.and_eq_true] at hd
  obtain ⟨h1, h2⟩ := nkD_to 8 d hd.2
  have q := nested_of I hK (toNK d) y u (by rw [h1]; exact r) e
  cases d with
  | tup xs =>
    cases r with
    | tup h rs =>
      obtain rfl : u = Value.ref _ := e
      exact ⟨_, rfl, rfl, ⟨q, h2⟩, h1, h2⟩
  | _ => simp [D.isTup] at hd
theorem ndo_new {w : World} {P : Program} {H : Hp} {h : Heap} {a : Addr} {xs : List NT} {us : List (NestedKey × Addr × Value)} (h1 : (a == sysModules) = false) (h2 : xs.length ≤ sizeLine) (h3 : ∀ x ∈ xs, x.1.depth ≤ 8) (r : NRel xs us) (hd : h.DictOfH (nestedKind P w) a us) : ObjOk P w H h a (NDO w a xs) := by
  obtain ⟨o, es, ep, g1, g2, g3, g4, g5, g6⟩ := hd
  refine ⟨⟨h1, h2, h3, us, r, o, es, ep, g1, g2, g3, by rw [g4]; rfl, g6⟩, ⟨o, g1⟩, ?_⟩
  rintro k1 k2 ⟨a1, a2, a3, us', r', o', es', ep', b1, b2⟩ kp
  exact ⟨a1, a2, a3, us', r', o', es', ep', kp _ b1, b2⟩
/-! ### the rules -/
def rNSet (G : Cfg) : TSet := fun o i v H Q => ∃ (a b : Addr) (xs : List NT) (d : D), o = .ref a ∧ i = .ref b ∧ H a = some (NDO G.w a xs) ∧ KeysAt G H xs ∧ Rep G H i d ∧ isNK d = true ∧ xs.length < sizeLine ∧ Q (upd H a (NDO G.w a (putN xs (toNK d) b v)))
theorem putN_depth {xs : List NT} {k : NestedKey} {b : Addr} {v : V} (h : ∀ x ∈ xs, x.1.depth ≤ 8) (hk : k.depth ≤ 8) : ∀ x ∈ putN xs k b v, x.1.depth ≤ 8 := by
  intro x hx
  unfold putN at hx
  split at hx
  · obtain ⟨y, hy, rfl⟩ := List.mem_map.mp hx
    split <;> exact h y hy
  · rcases List.mem_append.mp hx with hx | hx
    · exact h x hx
    · simp at hx; rw [hx]; exact hk
theorem putN_len (xs : List NT) (k : NestedKey) (b : Addr) (v : V) : (putN xs k b v).length ≤ xs.length + 1 := by
  unfold putN; split <;> simp
theorem set_N (hK : X.K = G.K) (hw : X.w = G.w) (hu : X.A.units + 64 < cLine) : PSet X (rNSet G) := by
  intro pins s σ H o i v ov iv u Q I ro ri rv ⟨a, b, xs, d, eo, ei, ha, hk, hr, hd, hl, q⟩
  subst eo ei
  obtain rfl : ov = Value.ref a := ro
  obtain ⟨b', e1, e2, k1, k2, k3⟩ := key_at' I hK hr ri hd
  cases e1
  subst e2
  obtain ⟨h1, h2, us, r, dd⟩ := ndo_at I hK hw (.inl ha) hk
  have h3 : ∀ x ∈ xs, x.1.depth ≤ 8 := by
    obtain ⟨⟨_, _, h3, _⟩, _⟩ := (show ObjOk X.prog X.w H s.heap a (NDO G.w a xs) from I.hok _ _ ha)
    exact h3
  refine wpAny_setItem_heap (hsz := by rw [← nrel_len r]; exact h2) (show X.A.in1.units + 8 < cLine by show X.A.units + 1 + 8 < _; omega) k1 dd fun h' dd' hs => ?_
  obtain ⟨od, _, _, ho, _⟩ := id dd'
  refine ⟨_, d_write I (by rw [ha]; exact True.intro) hs ⟨od, ho⟩ ?_, q⟩
  rw [← hw]
  exact ndo_new h1 (by have := putN_len xs (toNK d) b v; omega) (putN_depth h3 k3) (nrel_put r (toNK d) b rv) dd'
def rNGet (G : Cfg) : V → V → Hp → VK → Prop := fun o i H Q => ∃ (a : Addr) (xs : List NT) (d : D) (v : V), o = .ref a ∧ Rd H a (NDO G.w a xs) ∧ KeysAt G H xs ∧ Rep G H i d ∧ isNK d = true ∧ valN xs (toNK d) = some v ∧ Q v H
theorem get_N (hK : X.K = G.K) (hw : X.w = G.w) (hu : X.A.units + 64 < cLine) : PGet X (rNGet G) := by
  intro pins s σ H o i ov iv Q I ro ri ⟨a, xs, d, v, eo, ha, hk, hr, hd, hv, q⟩
  subst eo
  obtain rfl : ov = Value.ref a := ro
  obtain ⟨b, e1, e2, k1, k2, k3⟩ := key_at' I hK hr ri hd
  subst e1 e2
  obtain ⟨h1, h2, us, r, dd⟩ := ndo_at I hK hw ha hk
  have := nrel_val r (toNK d)
  rw [hv] at this
  cases ek : atKey us (toNK d) with
  | none => rw [ek] at this; exact this.elim
  | some p =>
    rw [ek] at this
    exact wpAny_getItem_heap (show X.A.in1.units + 8 < cLine by show X.A.units + 1 + 8 < _; omega) k1 dd ek ⟨v, H, I.tok _, this, q⟩
end
end TB

/-! TbN5: the rules of dicts whose keys are tuples. -/
namespace TB
open PySem L2
section
variable {G : Cfgx} {F : Hp}
theorem putN_any : ∀ {xs : List NT} {kds : List (D × D)}, kds.map (·.1) = xs.map (fun x => nkD x.1) → ∀ k : NestedKey, (kds.any fun p => D.eqv p.1 (nkD k)) = xs.any fun x => decide (x.1 = k)
  | [], [], _, _ => rfl
  | [], _ :: _, h, _ => by simp at h
  | _ :: _, [], h, _ => by simp at h
  | x :: xs, p :: kds, h, k => by
    obtain ⟨h1, h2⟩ := List.cons.inj (show p.1 :: kds.map (·.1) = nkD x.1 :: xs.map (fun x => nkD x.1) from h)
    rw [List.any_cons, List.any_cons, putN_any h2 k, h1, nk_dec]
theorem putN_map : ∀ {xs : List NT} {kds : List (D × D)}, kds.map (·.1) = xs.map (fun x => nkD x.1) → Reps G F (xs.map fun x => .ref x.2.1) (kds.map (·.1)) → Reps G F (xs.map (·.2.2)) (kds.map (·.2)) → ∀ (k : NestedKey) {v : V} {d : D}, Rep G F v d →
    (kds.map fun p => if D.eqv p.1 (nkD k) = true then (p.1, d) else p).map (·.1) = (xs.map fun x => if x.1 = k then (x.1, x.2.1, v) else x).map (fun x => nkD x.1) ∧
    Reps G F ((xs.map fun x => if x.1 = k then (x.1, x.2.1, v) else x).map fun x => .ref x.2.1) ((kds.map fun p => if D.eqv p.1 (nkD k) = true then (p.1, d) else p).map (·.1)) ∧
    Reps G F ((xs.map fun x => if x.1 = k then (x.1, x.2.1, v) else x).map (·.2.2)) ((kds.map fun p => if D.eqv p.1 (nkD k) = true then (p.1, d) else p).map (·.2))
  | [], [], _, _, _, _, _, _, _ => ⟨rfl, .nil, .nil⟩
  | [], _ :: _, h, _, _, _, _, _, _ => by simp at h
  | _ :: _, [], h, _, _, _, _, _, _ => by simp at h
  | x :: xs, p :: kds, h, q, r, k, v, d, rv => by
    obtain ⟨h1, h2⟩ := List.cons.inj (show p.1 :: kds.map (·.1) = nkD x.1 :: xs.map (fun x => nkD x.1) from h)
    cases q with
    | cons q1 q2 =>
      cases r with
      | cons r1 r2 =>
        obtain ⟨i1, i2, i3⟩ := putN_map h2 q2 r2 k rv
        have e : D.eqv p.1 (nkD k) = decide (x.1 = k) := by rw [h1, nk_dec]
        simp only [List.map_cons]
        by_cases z : x.1 = k
        · rw [e, decide_eq_true z]
          simp only [if_pos z, if_true]
          exact ⟨by rw [i1, h1], .cons q1 i2, .cons rv i3⟩
        · rw [e, decide_eq_false z]
          simp only [if_neg z, Bool.false_eq_true, if_false]
          exact ⟨by rw [i1, h1], .cons q1 i2, .cons r1 i3⟩
theorem putN_rep {xs : List NT} {kds : List (D × D)} (h : kds.map (·.1) = xs.map (fun x => nkD x.1)) (q : Reps G F (xs.map fun x => .ref x.2.1) (kds.map (·.1))) (r : Reps G F (xs.map (·.2.2)) (kds.map (·.2))) (k : NestedKey) {b : Addr} {v : V} {d : D} (rk : Rep G F (.ref b) (nkD k)) (rv : Rep G F v d) :
    (putD kds (nkD k) d).map (·.1) = (putN xs k b v).map (fun x => nkD x.1) ∧ Reps G F ((putN xs k b v).map fun x => .ref x.2.1) ((putD kds (nkD k) d).map (·.1)) ∧ Reps G F ((putN xs k b v).map (·.2.2)) ((putD kds (nkD k) d).map (·.2)) := by
  unfold putD putN
  rw [putN_any h k]
  split
  · exact putN_map h q r k rv
  · simp only [List.map_append, h]
    exact ⟨rfl, by rw [← h]; exact q.app (.cons rk .nil), r.app (.cons rv .nil)⟩
theorem valN_at : ∀ {xs : List NT} {kds : List (D × D)}, kds.map (·.1) = xs.map (fun x => nkD x.1) → Reps G F (xs.map (·.2.2)) (kds.map (·.2)) → ∀ k : NestedKey, match valD kds (nkD k), valN xs k with
    | some d, some v => Rep G F v d
    | none, none => True
    | _, _ => False
  | [], [], _, _, _ => trivial
  | [], _ :: _, h, _, _ => by simp at h
  | _ :: _, [], h, _, _ => by simp at h
  | x :: xs, p :: kds, h, r, k => by
    obtain ⟨h1, h2⟩ := List.cons.inj (show p.1 :: kds.map (·.1) = nkD x.1 :: xs.map (fun x => nkD x.1) from h)
    cases r with
    | cons r1 r2 =>
      have := valN_at h2 r2 k
      unfold valD valN at this ⊢
      rw [List.find?_cons, List.find?_cons, h1, nk_dec]
      by_cases z : x.1 = k
      · rw [decide_eq_true z]; exact r1
      · rw [decide_eq_false z]; exact this
theorem keysAt_of {xs : List NT} {kds : List (D × D)} (h : kds.map (·.1) = xs.map (fun x => nkD x.1)) (q : Reps G F (xs.map fun x => .ref x.2.1) (kds.map (·.1))) : KeysAt G F xs := by
  induction xs generalizing kds with
  | nil => intro x hx; simp at hx
  | cons x xs ih => cases kds with
    | nil => simp at h
    | cons p kds =>
      obtain ⟨h1, h2⟩ := List.cons.inj (show p.1 :: kds.map (·.1) = nkD x.1 :: xs.map (fun x => nkD x.1) from h)
      cases q with
      | cons q1 q2 =>
        intro y hy
        rcases List.mem_cons.mp hy with rfl | hy
        · rw [← h1]; exact q1
        · exact ih h2 q2 y hy
theorem keysAt_mono {F H : Hp} (e : Same F H) {xs : List NT} (h : KeysAt G F xs) : KeysAt G H xs := fun x hx => (h x hx).mono e
/-- the form of a key: a tuple, its address -/
theorem nk_ref {F : Hp} {y : V} {d : D} (r : Rep G F y d) (hd : isNK d = true) : ∃ b, y = .ref b ∧ nkD (toNK d) = d := by
  simp only [isNK, Bool.and_eq_true] at hd
  obtain ⟨h1, _⟩ := nkD_to 8 d hd.2
  cases d with
  | tup xs => cases r with
    | tup h rs => exact ⟨_, rfl, h1⟩
  | _ => simp [D.isTup] at hd
end
section
variable {X : Cx} {G : Cfgx} {W : WX} {k : Nat} {F H : Hp} {σ : L2.St} {S : List Slot} {T : Cnt}
theorem ownN_some {i : Nat} {xs : List (D × D)} (e : ownN S i = some xs) : S[i]? = some (some (.dN, .dit xs)) := by
  unfold ownN at e
  split at e
  · rename_i h; cases e; exact h
  · cases e
theorem own_nd {i : Nat} {kds : List (D × D)} (st : St' G F H σ S T) (e : ownN S i = some kds) : ∃ a xs, σ[i]? = some (some (.ref a)) ∧ H a = some (NDO G.w a xs) ∧ kds.map (·.1) = xs.map (fun x => nkD x.1) ∧ Reps G F (xs.map fun x => .ref x.2.1) (kds.map (·.1)) ∧ Reps G F (xs.map (·.2.2)) (kds.map (·.2)) ∧
    ∀ ws ys, ys.map (·.1) = ws.map (fun x => nkD x.1) → Reps G F (ws.map fun x => .ref x.2.1) (ys.map (·.1)) → Reps G F (ws.map (·.2.2)) (ys.map (·.2)) → St' G F (upd H a (NDO G.w a ws)) σ (S.set i (some (.dN, .dit ys))) T ∧ Step F H T F (upd H a (NDO G.w a ws)) T := by
  obtain ⟨v, f, hv, o, hf, back⟩ := own_at st (ownN_some e)
  cases o with
  | @dN a xs kds h hk q r =>
    have t1 : T a ≠ 0 := by have := hf a; simp only [add, one, if_true] at this; omega
    have fa : F a = none := Decidable.byContradiction fun n => t1 (st.di a n)
    have sub2 : ∀ o, Same F (upd H a o) := fun o b u q => by
      by_cases z : b = a
      · subst z; rw [fa] at q; cases q
      · rw [upd_ne z]; exact st.sub _ _ q
    refine ⟨a, xs, hv, h, hk, q, r, fun ws ys k' q' rw' => ?_⟩
    obtain ⟨T', st', ht⟩ := back F (upd H a (NDO G.w a ws)) .dN (.dit ys) (add (one a) nil0) (Same.refl F) (sub2 _) (fun b u n z q => by
      by_cases y : b = a
      · subst y; simp [add, one] at z
      · rw [upd_ne y]; exact q) (.dN upd_same k' q' rw') (fun b => Nat.le_refl _) (fun b n => .inl n)
    have eT : T' = T := by funext b; have := ht b; omega
    subst eT
    refine ⟨st', Same.refl F, fun b u z q => ?_, fun b n => .inl n, fun b h n => absurd h n, fun b n => ?_⟩
    · by_cases y : b = a
      · subst y; exact absurd z t1
      · rw [upd_ne y]; exact q
    · by_cases y : b = a
      · subst y; rw [upd_same]; simp
      · rw [upd_ne y]; exact n
def tDNewN (w : World) : TE := fun _ H Q => ∀ p, H p = none → Q (.ref p) (upd H p (NDO w p []))
theorem pe_dnewN {pos : Pos} (hw : X.w = G.w) : PE X (.Dict [] [] pos) (tDNewN G.w) := ⟨fun pins s σ H Q I h =>
  wpAny_Dict_empty ⟨.ref s.heap.objs.size, _, I.laid (a := s.heap.objs.size) (o := NDO G.w s.heap.objs.size []) (t' := s.toks) (fun _ _ q => Heap.get?_push_of_some _ q) (Nat.le_refl _) (by
    rw [← hw]
    exact ndo_new (beq_eq_false_iff_ne.mpr (Ne.symm (Nat.ne_of_lt I.big))) (Nat.zero_le _) (fun x hx => by simp at hx) .nil (Heap.DictOfH.new _)), rfl, h _ (I.hok.fresh (Nat.le_refl _))⟩⟩
theorem tr_nnew {pos : Pos} (hw : X.w = G.w) : TrE X G W (.Dict [] [] pos) eNnew := ⟨_, pe_dnewN hw, fun F H σ S T Q st z => by
  have z : KE G F H σ T Q (.dN, .dit []) S := z
  intro p hp
  obtain ⟨st2, s, le, fp⟩ := st.newT (o := NDO G.w p []) hp
  refine z (.ref p) F _ T (add (one p) nil0) (s.castR fun a => rfl) st2 (.dN (kds := []) (xs := []) upd_same rfl .nil .nil) (fun a => le a) fun a n => ?_
  by_cases q : a = p
  · subst q; rw [fp] at n; exact absurd rfl n
  · simp [add, one, nil0, q]⟩
theorem has_ndS {α : Type} {K : α → List Slot → Prop} {i : Nat} {f : Unit → M α} (p : PRs G W F H T K ((hasN i S).bind f)) : (∃ xs, ownN S i = some xs) ∧ PRs G W F H T K (f () S) := by
  unfold hasN at p
  cases e : ownN S i with
  | none => rw [e] at p; exact p.elim
  | some xs => rw [e] at p; exact ⟨⟨xs, rfl⟩, p⟩
/-- d[k] = e -/
theorem tr_nput (i : Nat) {x : PySem.Str} {e kx : Expr} {m n : E} {p pos' pos : Pos} (C : Cok X G W k) (hw : X.w = G.w) (hu : X.A.units + 64 < cLine) (h : TrE X G W e m) (h2 : TrE X G W kx n)
    (hN : X.N[i]? = some x := by rfl) (hv : Vis X.env.scope x := by first | exact Or.inl rfl | exact Or.inr (Or.inl rfl) | exact Or.inr (Or.inr rfl)) (hd : (x == ("__debug__" : PySem.Str)) = false := by decide) (hcd : (x == ("__classdict__" : PySem.Str)) = false := by decide)
    (ha : ∀ v, assign (.Subscript (.Name x p) kx pos') X.env v = (do
      let ov ← holding [v] (eval (.Name x p) X.env)
      let iv ← holding [v, ov] (eval kx X.env)
      standAt pos'
      holding [v, ov, iv] (setItem ov iv v)
      release [v, ov, iv] []) := by intro _; rfl)
    (hs : swapsWithSole [.Subscript (.Name x p) kx pos'] e pos.line X.env = pure false := by rfl) (hw2 : swappedStores [.Subscript (.Name x p) kx pos'] e X.env = pure none := by rfl) (h1 : (assignEach [.Subscript (.Name x p) kx pos'] X.env).map (·.2) = [assign (.Subscript (.Name x p) kx pos') X.env] := by rfl) :
    TrS X G W (.Assign [.Subscript (.Name x p) kx pos'] e pos) (sNput i n m) := by
  obtain ⟨t, q, d⟩ := h
  obtain ⟨u, q2, d2⟩ := h2
  refine ⟨_, ps_asg q (pg_sub (pe_var hN hv hd hcd) q2 (set_N C.hK hw hu) ha) hs hw2 h1, fun F H σ S T D st z => d.dat F H σ S T _ st (PRs.bind z fun y S1 z1 => ?_)⟩
  intro v F1 H1 T1 s1 st1 r1
  obtain ⟨⟨xs0, e0⟩, z1⟩ := has_ndS (PRs.reS s1 z1)
  obtain ⟨a, vs0, hv0, _⟩ := own_nd st1 e0
  refine ⟨_, hv0, ?_⟩
  refine d2.dat F1 H1 σ S1 T1 _ st1 (PRs.bind z1 fun kk S2 z2 => ?_)
  intro w F2 H2 T2 s2 st2 r2
  have z2 := PRs.reS s2 z2
  cases e2 : ownN S2 i with
  | none => rw [e2] at z2; exact z2.elim
  | some kds =>
    rw [e2] at z2
    obtain ⟨a', xs, hv2, hH, hk, hq, rs, up⟩ := own_nd st2 e2
    rw [hv0] at hv2
    cases hv2
    have z2 : PRs G W F2 H2 T2 (KS G F2 H2 T2 D) (if isNK kk = true ∧ kds.length < sizeMax then .ok .nx (S2.set i (some (.dN, .dit (putD kds kk y)))) else .bad) := z2
    split at z2
    · rename_i hz
      obtain ⟨b, eb, en⟩ := nk_ref r2 hz.1
      subst eb
      obtain ⟨p1, p2, p3⟩ := putN_rep hk hq rs (toNK kk) (b := b) (by rw [en]; exact r2) (r1.mono s2.sF)
      rw [en] at p1 p2 p3
      obtain ⟨st3, s3⟩ := up (putN xs (toNK kk) b v) (putD kds kk y) p1 p2 p3
      have hl : xs.length = kds.length := by
        have := congrArg List.length hk
        simpa using this.symm
      exact ⟨a, b, xs, kk, rfl, rfl, hH, keysAt_mono st2.sub (keysAt_of hk hq), r2.mono st2.sub, hz.1, by rw [hl]; exact hz.2, (show KS G F2 H2 T2 D .nx _ from z2) σ F2 _ T2 s3 st3⟩
    · exact z2.elim
end
end TB

/-! TbN6: .get, op=, sorted of dicts whose keys are tuples; at a path too. -/
namespace TB
open PySem L2 PyProof.Rows
mutual
theorem reads_lt {h : Heap} : ∀ {v : Value} {d : PyData} {as : List Addr}, Reads h v d as → ∀ a ∈ as, a < h.objs.size
  | _, _, _, .none, a, m => by simp at m
  | _, _, _, .bool _, a, m => by simp at m
  | _, _, _, .int _ _, a, m => by simp at m
  | _, _, _, .str _ _, a, m => by simp at m
  | _, _, _, .list g _ _ r, a, m => by
    rcases List.mem_cons.mp m with rfl | m
    · exact Heap.lt_size g
    · exact readsAll_lt r a m
  | _, _, _, .tuple _ _ _ r, a, m => readsAll_lt r a m
  | _, _, _, .dict g _ _ r q, a, m => by
    rcases List.mem_append.mp m with m | m
    · rcases List.mem_cons.mp m with rfl | m
      · exact Heap.lt_size g
      · exact readsAll_lt r a m
    · exact readsAll_lt q a m
theorem readsAll_lt {h : Heap} : ∀ {vs : List Value} {ds : List PyData} {as : List Addr}, ReadsAll h vs ds as → ∀ a ∈ as, a < h.objs.size
  | _, _, _, .nil, a, m => by simp at m
  | _, _, _, .cons r q, a, m => by
    rcases List.mem_append.mp m with m | m
    · exact reads_lt r a m
    · exact readsAll_lt q a m
end
theorem each_imp {α β : Type} {R R' : α → β → Prop} (h : ∀ a b, R a b → R' a b) : ∀ {as : List α} {bs : List β}, PySem.W.EachIs R as bs → PySem.W.EachIs R' as bs
  | _, _, .nil => .nil
  | _, _, .cons a r => .cons (h _ _ a) (each_imp h r)
theorem nrel_refs {xs : List NT} {us : List (NestedKey × Addr × Value)} (r : NRel xs us) : Vals (xs.map fun x => V.ref x.2.1) (us.map fun y => Value.ref y.2.1) := by
  induction r with
  | nil => exact .nil
  | @cons p q _ _ a _ ih => exact .cons (show Value.ref q.2.1 = Value.ref p.2.1 by rw [a.2.1]) ih
section
variable {X : Cx} {G : Cfgx} {W : WX} {k : Nat} {F H : Hp} {σ : L2.St} {S : List Slot} {T : Cnt}
/-- sorted(d): its keys -/
def rSortedN (G : Cfg) (K : PySem.W.Frag) : List V → Hp → VK → Prop := fun vs H Q => ∃ (d : Addr) (xs : List NT) (bs : List (V × PyData)), vs = [V.ref d] ∧ Rd H d (NDO G.w d xs) ∧ KeysAt G H xs ∧ bs.map (·.1) = xs.map (fun x => V.ref x.2.1) ∧ (∀ b ∈ bs, Dp K H b.1 b.2) ∧ PySem.W.AllAlike (bs.map (·.2)) ∧ PySem.W.Sortable (bs.map (·.2)) ∧ (∀ b ∈ bs, b.2.depth ≤ 60) ∧
  ∀ p, H p = none → Q (.ref p) (upd H p (.lst ((bs.mergeSort (PySem.W.dataLe false (·.2))).map (·.1))))
theorem cr_sortedN (hK : X.K = G.K) (hw : X.w = G.w) (hr : Room k X.A) : CallR X (.builtin "sorted") (rSortedN G X.K) := by
  intro pins s σ H vs us Q I r ⟨d, xs, bs, e, ha, hk, he, hd, hal, hsk, hz, q⟩
  subst e
  obtain ⟨u, rfl, ru⟩ := vals1 r
  obtain rfl : u = Value.ref d := ru
  obtain ⟨h1, h2, us, rel, dd⟩ := ndo_at I hK hw ha hk
  obtain ⟨es, ep, raw, hs, het⟩ := dd.raw
  have hl : us.length = xs.length := (nrel_len rel).symm
  have rv : Vals (bs.map (·.1)) (us.map fun y => Value.ref y.2.1) := by rw [he]; exact nrel_refs rel
  have hun : X.A.units + 100 < cLine := by have := hr.un; omega
  refine Calls.call_function_entry kind_sorted plain_sorted entry_sorted (args_sorted1 _) ?_
  unfold Builtin.«sorted»
  refine wpAny_bind (m := checkCount "sorted" 1 1 _) (wpAny_pure ?_)
  refine wpAny_bind (PySem.W.kdu_collect (A := X.A.in1) (KdlSrc.rawDict h1) hr.hd raw (by rw [hs, hl]; exact h2) fun h' tk acc hk' hacc => ?_)
  have ea : acc.toList = us.map fun y => Value.ref y.2.1 := by
    refine List.ext_getElem? fun j => ?_
    rw [Array.getElem?_toList]
    cases ej : acc[j]? with
    | none =>
      rw [Array.getElem?_eq_none_iff] at ej
      rw [eq_comm, List.getElem?_eq_none_iff, List.length_map]
      rw [hacc.1, hs] at ej; exact ej
    | some v =>
      obtain ⟨hi, ev⟩ := hacc.2 j v ej
      obtain ⟨y, hy, g1, _, _⟩ := het j hi
      rw [List.getElem?_map, hy, ev, g1]; rfl
  refine wpAny_bind (wpAny_newList ?_ (by rw [ea, List.length_map, hl]; exact h2))
  rw [ea]
  have I1 : Inv X pins σ H { s with heap := h'.push { cls := .type "list", data := .seq (us.map fun y => Value.ref y.2.1).toArray }, toks := tk } :=
    I.kept (t' := tk) fun b o e => Heap.get?_push_of_some _ (hk' _ _ e)
  obtain ⟨e1, e2⟩ := dp_reads_each I rv hd
  have e3 : PySem.W.EachIs (fun u (b : V × PyData) => ∃ as, Reads (h'.push { cls := .type "list", data := .seq (us.map fun y => Value.ref y.2.1).toArray }) u b.2 as ∧ h'.objs.size ∉ as) (us.map fun y => Value.ref y.2.1) bs :=
    each_imp (fun u b ⟨as, r⟩ => ⟨as, PyProof.Rows.Reads.keeps (fun _ _ e => Heap.get?_push_of_some _ (hk' _ _ e)) r, fun m => by
      have r' := PyProof.Rows.Reads.keeps hk' r
      exact absurd (reads_lt r' _ m) (Nat.lt_irrefl _)⟩) e2
  have blen : bs.length = xs.length := by have := congrArg List.length he; simpa using this
  have ho : (h'.push { cls := .type "list", data := .seq (us.map fun y => Value.ref y.2.1).toArray }).get? h'.objs.size = some (seqObj "list" (us.map fun y => Value.ref y.2.1).toArray 0) := Heap.get?_push_size _ rfl
  refine wpAny_bind (wpAny_holding (PySem.W.list_sort_data (enc := fun b : V × PyData => b.2) (n := 0) ho e1 e3 hal hsk (by rw [blen]; exact h2) (fun b hb => by have := hz b hb; show X.A.units + 1 + 1 + _ < _; omega) fun out hout heach => ?_))
  obtain ⟨n, hn⟩ := sortedHeap_at (out := List.toArray out) ho
  have I0 : Inv X pins σ H { s with heap := h', toks := tk } := I.kept (t' := tk) hk'
  refine wpAny_pure ⟨_, rfl, .ref h'.objs.size, _, I0.laid (t' := tk) (a := h'.objs.size) (o := .lst ((bs.mergeSort (PySem.W.dataLe false (·.2))).map (·.1))) (fun b o g => ?_) (Nat.le_refl _) ⟨?_, out, n, vals_each heach, hn⟩, rfl, q _ (I0.hok.fresh (Nat.le_refl _))⟩
  · rw [sortedHeap_old (Nat.ne_of_lt (Heap.lt_size g)) (by rw [size_push']; exact Nat.lt_succ_of_lt (Heap.lt_size g))]
    exact Heap.get?_push_of_some _ g
  · rw [List.length_map, List.length_mergeSort, blen]
    exact h2

theorem sn_sortN (hK : X.K = G.K) : SN G (rSortedN G X.K) fSortN1 := fun F H σ S T xs ds kd Q st rs e k => by
  rcases rs with _ | ⟨r1, _ | ⟨r2, r3⟩⟩
  · simp [fSortN1] at e
  · cases r1 <;> simp only [fSortN1, fSortN, reduceCtorEq] at e
    rename_i d nts kds hl hk hq hv
    split at e
    · rename_i hz
      cases e
      have sub := st.sub
      have hsort := hz
      unfold sortOk at hz
      obtain ⟨hz, h3⟩ := Bool.and_eq_true_iff.mp hz
      obtain ⟨h1, h2⟩ := Bool.and_eq_true_iff.mp hz
      have hlen : (nts.map fun x => V.ref x.2.1).length = (kds.map (·.1)).length := hq.len
      have e1 : (((nts.map fun x => V.ref x.2.1).zip (kds.map (·.1))).map fun p => (p.1, toPy p.2)).map (·.1) = nts.map fun x => V.ref x.2.1 := by
        rw [List.map_map]; exact zip_fst hlen
      have e2 : (((nts.map fun x => V.ref x.2.1).zip (kds.map (·.1))).map fun p => (p.1, toPy p.2)).map (·.2) = (kds.map (·.1)).map toPy := by
        have : (((nts.map fun x => V.ref x.2.1).zip (kds.map (·.1))).map fun p => (p.1, toPy p.2)).map (·.2) = (((nts.map fun x => V.ref x.2.1).zip (kds.map (·.1))).map (·.2)).map toPy := by rw [List.map_map, List.map_map]; rfl
        rw [this, zip_snd hlen]
      have hz := zip_reps (hq.mono sub)
      refine ⟨d, nts, ((nts.map fun x => V.ref x.2.1).zip (kds.map (·.1))).map fun p => (p.1, toPy p.2), rfl, same_rd sub hl, keysAt_mono sub (keysAt_of hk hq), e1, ?_, ?_, ?_, ?_, fun p hp => ?_⟩
      · intro b hb
        obtain ⟨p, hp, rfl⟩ := List.mem_map.mp hb
        rw [hK]
        exact dp_of 60 p.2 p.1 (lays_mem h3 _ (mem_zip_snd hp)) (hz p hp)
      · rw [e2]
        intro d hd d' hd'
        obtain ⟨x, hx, rfl⟩ := List.mem_map.mp hd
        obtain ⟨y, hyy, rfl⟩ := List.mem_map.mp hd'
        exact alk_py x y (alkAll_ok h2 x hx y hyy)
      · rw [e2]
        refine .inl fun d hd => ?_
        obtain ⟨x, hx, rfl⟩ := List.mem_map.mp hd
        have := List.all_eq_true.mp h1 x hx
        cases x with
        | tup xs =>
          cases xs with
          | nil => simp [D.isTup1] at this
          | cons x xs => exact ⟨toPy x, toPys xs, by simp only [toPy, toPys]⟩
        | _ => simp [D.isTup1] at this
      · intro b hb
        obtain ⟨p, hp, rfl⟩ := List.mem_map.mp hb
        exact (lay_py 60 p.2 (lays_mem h3 _ (mem_zip_snd hp))).2
      · have m1 : (((nts.map fun x => V.ref x.2.1).zip (kds.map (·.1))).mergeSort fun p q => leD p.2 q.2).map (fun p => (p.1, toPy p.2)) = (((nts.map fun x => V.ref x.2.1).zip (kds.map (·.1))).map fun p => (p.1, toPy p.2)).mergeSort (PySem.W.dataLe false (·.2)) := by
          refine List.map_mergeSort fun p hp q hq => ?_
          rw [PySem.W.dataLe_eq]
          show leD p.2 q.2 = !PySem.W.dataLt (toPy q.2) (toPy p.2)
          rw [lt_py 60 60 q.2 p.2 (alkAll_ok h2 _ (mem_zip_snd hq) _ (mem_zip_snd hp)) (lays_mem h3 _ (mem_zip_snd hq)) (lays_mem h3 _ (mem_zip_snd hp))]
          rfl
        have m2 : (((nts.map fun x => V.ref x.2.1).zip (kds.map (·.1))).mergeSort fun p q => leD p.2 q.2).map (·.2) = sortD (kds.map (·.1)) := by
          have := List.map_mergeSort (r := fun p q : V × D => leD p.2 q.2) (s := leD) (f := (·.2)) (l := (nts.map fun x => V.ref x.2.1).zip (kds.map (·.1))) fun p hp q hq => rfl
          rw [this, zip_snd hlen]; rfl
        have m3 : ((((nts.map fun x => V.ref x.2.1).zip (kds.map (·.1))).map fun p => (p.1, toPy p.2)).mergeSort (PySem.W.dataLe false (·.2))).map (·.1) = (((nts.map fun x => V.ref x.2.1).zip (kds.map (·.1))).mergeSort fun p q => leD p.2 q.2).map (·.1) := by
          rw [← m1, List.map_map]; rfl
        rw [m3]
        refine KE.newL k st ?_ p hp
        rw [← m2]
        exact reps_zip fun p hp => zip_reps hq p ((List.mergeSort_perm _ _).mem_iff.mp hp)
    · cases e
  · cases r1 <;> simp [fSortN1] at e
/-! ### at a path -/
theorem nd_up {g : Tgt} {i : Nat} {a b : Addr} {xs : List NT} {kds : List (D × D)} {x y : D} {v : V} {f' T0 : Cnt} {S1 : List Slot} (st : St' G F H σ S T) (ho : H a = some (NDO G.w a xs)) (hk : kds.map (·.1) = xs.map (fun x => nkD x.1)) (hq : Reps G F (xs.map fun x => .ref x.2.1) (kds.map (·.1))) (hr : Reps G F (xs.map (·.2.2)) (kds.map (·.2)))
    (hx : nkD (toNK x) = x) (rb : Rep G F (.ref b) x) (rv : Rep G F v y) (hf' : ∀ b, f' b = one a b) (hT : ∀ b, T b = f' b + T0 b)
    (back : ∀ F1 H1 k1 d1 f1 S1, Same F F1 → Same F1 H1 → (∀ a o, T0 a ≠ 0 → H a = some o → H1 a = some o) → Own G F1 H1 k1 (.ref a) d1 f1 → (∀ a, f1 a + T0 a ≤ 1) → (∀ a, F1 a ≠ none → f1 a + T0 a = 0) → g.put i (k1, d1) S = some S1 → St' G F1 H1 σ S1 (add f1 T0))
    (es : g.put i (.dN, .dit (putD kds x y)) S = some S1) : ∃ T', St' G F (upd H a (NDO G.w a (putN xs (toNK x) b v))) σ S1 T' ∧ Step F H T F (upd H a (NDO G.w a (putN xs (toNK x) b v))) T' := by
  obtain ⟨p1, p2, p3⟩ := putN_rep hk hq hr (toNK x) (b := b) (by rw [hx]; exact rb) rv
  rw [hx] at p1 p2 p3
  have ow : Own G F (upd H a (NDO G.w a (putN xs (toNK x) b v))) .dN (.ref a) (.dit (putD kds x y)) (add (one a) nil0) := .dN upd_same p1 p2 p3
  obtain ⟨x, y⟩ := put_core (fe := nil0) st hT (by rw [hf' a]; simp [one]) back (fun b => by simp only [nil0]; exact st.le b) (fun _ _ => rfl) ow (fun b => by have := hf' b; simp only [add, nil0]; omega) es
  exact ⟨_, x, y.castL fun b => by simp [add, nil0]⟩
theorem nd_len {xs : List NT} {kds : List (D × D)} (hk : kds.map (·.1) = xs.map (fun x => nkD x.1)) : xs.length = kds.length := by
  have := congrArg List.length hk
  simpa using this.symm
theorem tr_pNput {o e ke : Expr} {i : Nat} {ps : List PS} {n m : E} {p' pos : Pos} (C : Cok X G W k) (hw : X.w = G.w) (h : TrP X G o i ps) (hk : TrQ X G ke n) (he : TrE X G W e m)
    (ha : ∀ v, assign (.Subscript o ke p') X.env v = (do
      let ov ← holding [v] (eval o X.env)
      let iv ← holding [v, ov] (eval ke X.env)
      standAt p'
      holding [v, ov, iv] (setItem ov iv v)
      release [v, ov, iv] []) := by intro _; rfl)
    (hs : swapsWithSole [.Subscript o ke p'] e pos.line X.env = pure false := by rfl) (hw2 : swappedStores [.Subscript o ke p'] e X.env = pure none := by rfl) (h1 : (assignEach [.Subscript o ke p'] X.env).map (·.2) = [assign (.Subscript o ke p') X.env] := by rfl) :
    TrS X G W (.Assign [.Subscript o ke p'] e pos) (pNput i ps n m) := by
  obtain ⟨t, p, d⟩ := h
  obtain ⟨u, q, d2⟩ := he
  obtain ⟨t3, q3, d3⟩ := hk
  have hu : X.A.units + 64 < cLine := by have := C.room.units; omega
  refine ⟨_, ps_asg q (pg_sub p q3 (set_N C.hK hw hu) ha) hs hw2 h1, fun F H σ S T D st z => d2.dat F H σ S T _ st (PRs.bind z fun y S1 z1 => ?_)⟩
  intro v F1 H1 T1 s1 st1 r1
  have z1 := PRs.reS s1 z1
  have z1 : PRs G W F1 H1 T1 (KS G F1 H1 T1 D) (match tgt i ps S1, eFzD n S1 with
    | some t, some x => match t.k, t.d with
      | .dN, .dit kvs => if isNK x = true ∧ kvs.length < sizeMax then pOk .nx (t.put i (.dN, .dit (putD kvs x y)) S1) else .bad
      | _, _ => .bad
    | _, _ => .bad) := z1
  cases eg : tgt i ps S1 with
  | none => rw [eg] at z1; exact z1.elim
  | some g =>
    cases ek : eFzD n S1 with
    | none => rw [eg, ek] at z1; exact z1.elim
    | some x =>
      rw [eg, ek] at z1
      obtain ⟨pv, rk, rd, gk, gd⟩ := g
      simp only at z1
      split at z1
      · rename_i kds
        split at z1
        · rename_i hc
          obtain ⟨hx, hz⟩ := hc
          refine d F1 H1 σ S1 T1 _ _ st1 eg fun v0 w F2 H2 s2 st2 sH hv nv => ?_
          obtain ⟨S', em⟩ := fzD_eq ek
          refine d3 F2 H2 σ S1 T1 _ x S' st2 em fun yv F3 H3 s3 st3 sH3 ry => ?_
          obtain ⟨v0', v', f', T0, hv', hT, nv', o', back⟩ := tgt_own st3 eg
          rw [hv] at hv'; cases hv'
          have := (nv.mono sH3).uniq nv'
          subst this
          cases o' with
          | @dN a xs _ ho hkk hq hr =>
            obtain ⟨b, rfl, en⟩ := nk_ref ry hx
            cases es : (⟨pv, rk, rd, .dN, .dit kds⟩ : Tgt).put i (.dN, .dit (putD kds x y)) S1 with
            | none => rw [es] at z1; exact z1.elim
            | some S2 =>
              rw [es] at z1
              obtain ⟨T', st4, s4⟩ := nd_up (v := v) (y := y) st3 ho hkk hq hr en ry (r1.mono (s2.sF.trans s3.sF)) (fun b => rfl) hT back es
              exact ⟨a, b, xs, x, rfl, rfl, ho, keysAt_mono st3.sub (keysAt_of hkk hq), ry.mono st3.sub, hx, by rw [nd_len hkk]; exact hz, nx_of (show KS G F1 H1 T1 D .nx S2 from z1) ((s2.trans s3).trans s4) st4⟩
        · exact z1.elim
      · exact z1.elim
/-! .get -/
def IsN (w : World) (H : Hp) (a : Addr) : Prop := ∃ xs, Rd H a (NDO w a xs)
theorem isN_at {pins : List (Addr × Obj)} {s : Shared} {w : World} {a : Addr} (I : Inv X pins σ H s) (h : IsN w H a) : s.TypeIs (.ref a) "dict" ∧ ∀ b, Value.ref a = .ref b → ∃ ob, s.heap.get? b = some ob ∧ ob.dict = none := by
  obtain ⟨xs, e⟩ := h
  obtain ⟨⟨h1, h2, h3, us, r, o, es, ep, g1, g2, g3, g4, g5⟩, _, _⟩ := (show ObjOk X.prog X.w H s.heap a (NDO w a xs) from e.ok I.hok)
  refine ⟨⟨o, g1, g2.1⟩, fun b q => ?_⟩
  cases q
  exact ⟨o, g1, g2.2.1⟩
def tNGet2 (G : Cfg) (td ty tx : TE) : TE := fun σ H Q => td σ H fun x H1 => ∃ a, x = .ref a ∧ IsN G.w H1 a ∧ ty σ H1 fun y H2 => tx σ H2 fun z H3 => ∃ (xs : List NT) (d : D), Rd H3 a (NDO G.w a xs) ∧ KeysAt G H3 xs ∧ Rep G H3 y d ∧ isNK d = true ∧ Q ((valN xs (toNK d)).getD z) H3
theorem atKey_pairs {us : List (NestedKey × Addr × Value)} {n : NestedKey} : valueAt (pairsH us) n = (atKey us n).map (·.2) := valueAt_pairsH us n
theorem pe_nget2 {o e f : Expr} {apos cpos : Pos} {td ty tx : TE} (hK : X.K = G.K) (hw : X.w = G.w) (hu : X.A.units + 64 < cLine) (ho : PE X o td) (he : PE X e ty) (hf : PE X f tx) (m : M2 X o "get" apos e f cpos) : PE X (.Call (.Attribute o "get" apos) [e, f] [] cpos) (tNGet2 G td ty tx) := by
  refine ⟨fun pins s σ H Q I h => ?_⟩
  refine wpAny_Call_method m.base m.few m.line PySem.F.plainAttrs_dict PySem.F.slot_dict_get PySem.F.type_dict_get (thn (ho.run pins s σ H _ I h) fun u s1 ⟨x, H1, I1, rx, a, ex, d, q1⟩ => ?_)
  subst ex
  obtain rfl : u = Value.ref a := rx
  obtain ⟨t1, t2⟩ := isN_at I1 d
  refine ⟨t1, t2, ?_⟩
  rw [m.trees]
  refine Calls.callWith_builtin rfl (Calls.evalArgs_plain (Calls.spliced_cons (thn (he.run pins s1 σ H1 _ I1 q1) fun iv s2 ⟨y, H2, I2, ry, q2⟩ =>
    Calls.spliced_cons (thn (hf.run pins s2 σ H2 _ I2 q2) fun fv s3 ⟨z, H3, I3, rz, xs, dd, ha, hk, rd, hd, q3⟩ => Calls.spliced_nil ?_))))
  obtain ⟨b, e1, e2, k1, k2, k3⟩ := key_at' I3 hK rd ry hd
  subst e1 e2
  obtain ⟨h1, h2, us, r, hdd⟩ := ndo_at I3 hK hw ha hk
  refine getOr_keyed (show X.A.in1.units + 8 < cLine by show X.A.units + 1 + 8 < _; omega) k1 h1 ⟨us, hdd, rfl⟩ ?_
  refine ⟨_, H3, I3.tok _, ?_, q3⟩
  rw [atKey_pairs]
  have := nrel_val r (toNK dd)
  cases e1 : valN xs (toNK dd) with
  | none =>
    cases e2 : (atKey us (toNK dd)).map (·.2) with
    | none => exact rz
    | some v => rw [e1, e2] at this; exact this.elim
  | some v =>
    cases e2 : (atKey us (toNK dd)).map (·.2) with
    | none => rw [e1, e2] at this; exact this.elim
    | some u => rw [e1, e2] at this; exact this
theorem q_nget2 {o ke ze : Expr} {i : Nat} {ps : List PS} {m n : E} {apos pos : Pos} (C : Cok X G W k) (hw : X.w = G.w) (h : TrP X G o i ps) (hk : TrQ X G ke m) (hz : TrQ X G ze n) (m2 : M2 X o "get" apos ke ze pos := by exact ⟨rfl, rfl, rfl, rfl⟩) : TrQ X G (.Call (.Attribute o "get" apos) [ke, ze] [] pos) (pNget2 i ps m n) := by
  obtain ⟨t, p, d⟩ := h
  obtain ⟨t2, p2, d2⟩ := hk
  obtain ⟨t3, p3, d3⟩ := hz
  refine ⟨_, pe_nget2 C.hK hw (by have := C.room.units; omega) p p2 p3 m2, fun F H σ S T Q d0 S' st e k => ?_⟩
  unfold pNget2 at e
  cases eg : tgt i ps S with
  | none => rw [eg] at e; cases e
  | some g =>
    cases e1 : eFzD m S with
    | none => rw [eg, e1] at e; cases e
    | some x =>
      cases e2 : eFzD n S with
      | none => rw [eg, e1, e2] at e; cases e
      | some w =>
        rw [eg, e1, e2] at e
        obtain ⟨pv, rk, rd, gk, gd⟩ := g
        simp only at e
        split at e
        · rename_i kds
          split at e
          · rename_i hx
            cases e
            refine d F H σ S T _ _ st eg fun v0 u F1 H1 s1 st1 h1 hv nv => ?_
            obtain ⟨v0', v', f', T0, hv', hT, nv', o', _⟩ := tgt_own st1 eg
            rw [hv] at hv'; cases hv'
            have := nv.uniq nv'
            subst this
            cases o' with
            | @dN a xs _ ho hkk hq hr =>
              obtain ⟨Sx, em⟩ := fzD_eq e1
              obtain ⟨Sy, en⟩ := fzD_eq e2
              refine ⟨a, rfl, ⟨xs, .inl ho⟩, ?_⟩
              refine d2 F1 H1 σ S T _ x Sx st1 em fun yv F2 H2 s2 st2 h2 ry => d3 F2 H2 σ S T _ w Sy st2 en fun zv F3 H3 s3 st3 h3 rz => ?_
              have sF := s2.sF.trans s3.sF
              obtain ⟨b, eb, enk⟩ := nk_ref ry hx
              have va := valN_at hkk (hr.mono sF) (toNK x)
              rw [enk] at va
              refine ⟨xs, x, .inl (h3 _ _ (h2 _ _ ho)), keysAt_mono ((sF.trans st3.sub)) (keysAt_of hkk hq), ry.mono (s3.sF.trans st3.sub), hx, ?_⟩
              refine k _ F3 H3 ((s1.trans s2).trans s3) st3 ((h1.trans h2).trans h3) ?_
              cases q1 : valD kds x with
              | none =>
                cases q2 : valN xs (toNK x) with
                | none => exact rz
                | some v => rw [q1, q2] at va; exact va.elim
              | some dd =>
                cases q2 : valN xs (toNK x) with
                | none => rw [q1, q2] at va; exact va.elim
                | some v => rw [q1, q2] at va; exact va
          · cases e
        · cases e
end
end TB

/-! TbY1: tuples sorted whose places are of one kind up to the first that differs. -/
namespace TB
open PySem PySem.W PySem.Calls PyProof.Rows PySem.SeqAt
mutual
theorem toks_same : ∀ (x y : PyData), PyData.eqv x y = true → keyToks x = keyToks y
  | .none, y, h => by cases y <;> first | rfl | (simp [PyData.eqv] at h)
  | .bool a, y, h => by
    cases y with
    | bool b => have e : a = b := by simpa [PyData.eqv] using h
                rw [e]
    | int j => have e : (if a = true then 1 else 0 : Int) = j := by simpa [PyData.eqv] using h
               simp only [keyToks]; rw [e]
    | _ => simp [PyData.eqv] at h
  | .int i, y, h => by
    cases y with
    | bool b => have e : i = (if b = true then 1 else 0 : Int) := by simpa [PyData.eqv] using h
                simp only [keyToks]; rw [e]
    | int j => have e : i = j := by simpa [PyData.eqv] using h
               rw [e]
    | _ => simp [PyData.eqv] at h
  | .str a, y, h => by
    cases y with
    | str b => have e : a = b := by simpa [PyData.eqv] using h
               rw [e]
    | _ => simp [PyData.eqv] at h
  | .list xs, y, h => by
    cases y with
    | list ys => simp only [keyToks]; exact toks_sames xs ys (by simpa [PyData.eqv] using h)
    | _ => simp [PyData.eqv] at h
  | .tuple xs, y, h => by
    cases y with
    | tuple ys => simp only [keyToks]; exact toks_sames xs ys (by simpa [PyData.eqv] using h)
    | _ => simp [PyData.eqv] at h
  | .dict _, y, h => by cases y <;> simp [PyData.eqv] at h
theorem toks_sames : ∀ (xs ys : List PyData), PyData.eqvAll xs ys = true → keyToksAll xs = keyToksAll ys
  | [], [], _ => rfl
  | [], _ :: _, h => by simp [PyData.eqvAll] at h
  | _ :: _, [], h => by simp [PyData.eqvAll] at h
  | x :: xs, y :: ys, h => by
    rw [eqv_all_cons] at h
    obtain ⟨h1, h2⟩ := Bool.and_eq_true_iff.mp h
    rw [toks_all_cons, toks_all_cons, toks_same x y h1, toks_sames xs ys h2]
end
/-- comparable: of one kind up to the first place that differs -/
def wks : List PyData → List PyData → Bool
  | x :: xs, y :: ys => if PyData.eqv x y = true then wks xs ys else alike x y
  | _, _ => true
/-- what can be sorted so: tuples, their first places alike, no tuples, each two comparable -/
structure WkAll (ds : List PyData) : Prop where
  tup : ∀ d ∈ ds, ∃ x r, d = .tuple (x :: r) ∧ (∀ xs, x ≠ .tuple xs)
  head : ∀ d ∈ ds, ∀ e ∈ ds, ∀ x r y t, d = .tuple (x :: r) → e = .tuple (y :: t) → alike x y = true
  wk : ∀ d ∈ ds, ∀ e ∈ ds, ∀ xs ys, d = .tuple xs → e = .tuple ys → wks xs ys = true
  lay : ∀ d ∈ ds, d.canLay0 = true
theorem toks_yes {x y : PyData} {xs ys : List PyData} (e : PyData.eqv x y = true) : PyProof.Rows.lexLt itemOrd (keyToksAll (x :: xs)) (keyToksAll (y :: ys)) = PyProof.Rows.lexLt itemOrd (keyToksAll xs) (keyToksAll ys) := by
  rw [toks_all_cons, toks_all_cons, toks_same x y e, lex_self (O := itemOrd), lex_pre]
section
variable {prog : Program} {w : World} {A : Around} {s : Shared}
theorem kat_wk {b fin : Bool} {Q : Bool → Shared → Prop} : ∀ (xs ys : List PyData) (i : Nat) (vs us : List Value) (as bs : List Addr), ReadsAll s.heap vs xs as → ReadsAll s.heap us ys bs → wks xs ys = true → PyData.canLayAll0 xs = true → PyData.canLayAll0 ys = true →
    A.units + min (PyData.depthAll xs) (PyData.depthAll ys) < cLine → (b = true → i = 0 → ∀ x r t, xs = x :: r → x ≠ .tuple t) → fin = decide (xs.length < ys.length) → Q (PyProof.Rows.lexLt itemOrd (keyToksAll xs) (keyToksAll ys)) s → KatLex prog w A b fin Q (vs.zip us) i s := by
  intro xs
  induction xs with
  | nil =>
    intro ys i vs us as bs ra rb _ _ _ _ _ hf q
    cases ra
    rw [List.zip_nil_left]
    cases ys with
    | nil =>
      rw [lex_irrefl] at q
      exact kat_nil (by rw [hf]; exact q)
    | cons y ys =>
      rw [toks_all_cons] at q
      simp only [keyToksAll] at q
      rw [lex_diff (O := itemOrd) (by simp)] at q
      exact kat_nil (by rw [hf]; simpa [itemLt] using q)
  | cons x xs ih =>
    intro ys i vs us as bs ra rb hw l1 l2 hu hb hf q
    cases ys with
    | nil =>
      cases rb
      rw [toks_all_cons] at q
      simp only [keyToksAll] at q
      rw [lex_diff (O := itemOrd) (by simp)] at q
      rw [List.zip_nil_right]
      exact kat_nil (by rw [hf]; simpa [itemLt] using q)
    | cons y ys =>
      cases ra with
      | cons r rs =>
        cases rb with
        | cons r2 rs2 =>
          have m1 : x.canLay0 = true ∧ PyData.canLayAll0 xs = true := by simpa [PyData.canLayAll0] using l1
          have m2 : y.canLay0 = true ∧ PyData.canLayAll0 ys = true := by simpa [PyData.canLayAll0] using l2
          rw [List.zip_cons_cons]
          refine kat_cons (SeqAt.eqAt_reads x y A s _ _ _ _ r r2 m1.1 m2.1 (room_head hu) prog w _ _ ?_)
          cases hx : PyData.eqv x y with
          | true =>
            rw [toks_yes hx] at q
            have hw2 : wks xs ys = true := by unfold wks at hw; rw [if_pos hx] at hw; exact hw
            exact kat_yes (ih ys (i + 1) _ _ _ _ rs rs2 hw2 m1.2 m2.2 (room_tail hu) (fun _ z => absurd z (Nat.succ_ne_zero i)) (by rw [hf]; simp) q)
          | false =>
            have ha : alike x y = true := by unfold wks at hw; rw [if_neg (by rw [hx]; exact Bool.false_ne_true)] at hw; exact hw
            rw [dataLt_all_no ha hx] at q
            refine kat_no (oneLt_alike (fun hbi t => ?_) r r2 ha (ne_none_of ha hx) (room_head hu) q)
            rw [Bool.and_eq_true] at hbi
            exact hb hbi.1 (by simpa using hbi.2) x xs t rfl
theorem kind_some {h : Heap} {ds : List PyData} (hl : ∀ d ∈ ds, d.canLay0 = true) {v : Value} {d : PyData} {as : List Addr} (hd : d ∈ ds) (r : Reads h v d as) : (dataKind h ds).keyOf v = some (keyToks d) := by
  have ex : ∃ d, d ∈ ds ∧ ∃ as, Reads h v d as := ⟨d, hd, as, r⟩
  have e : (dataKind h ds).keyOf v = some (keyToks ex.choose) := by
    unfold dataKind
    simp only [dif_pos ex]
  obtain ⟨h1, as2, h2⟩ := ex.choose_spec
  rw [e, SeqAt.Reads.unique _ _ _ _ _ (hl _ h1) h2 r]
theorem sorts_wk {vs : List Value} {ds : List PyData} (e : EachIs (fun v d => ∃ as, Reads s.heap v d as) vs ds) (W : WkAll ds) (hu : ∀ d ∈ ds, A.units + d.depth < cLine) : SortsAt prog w A s (dataKind s.heap ds) vs := by
  refine ⟨fun v hv => ?_, ?_⟩
  · obtain ⟨d, hd, as, r⟩ := e.left v hv
    exact ⟨_, kind_some W.lay hd r⟩
  · cases ds with
    | nil =>
      cases e
      refine ⟨general', fun E x y a b Q ha _ _ => ?_, fun h2 => absurd h2 (by simp)⟩
      obtain ⟨d, _, hd, _⟩ := dataKind_inv ha
      cases hd
    | cons d0 ds0 =>
      obtain ⟨x0, r0, e0, nt⟩ := W.tup d0 List.mem_cons_self
      have first : ∀ x r, PyData.tuple (x :: r) ∈ d0 :: ds0 → alike x x0 = true := fun x r m => W.head _ m _ List.mem_cons_self x r x0 r0 rfl e0
      refine ⟨tuples' (dataType x0 != Value.type "tuple"), fun E x y a b Q ha hb q => ?_, fun h2 E Q q => ?_⟩
      · obtain ⟨d, as, hd, ra, rfl⟩ := dataKind_inv ha
        obtain ⟨d2, as2, hd2, rb, rfl⟩ := dataKind_inv hb
        obtain ⟨x1, r1, rfl, n1⟩ := W.tup d hd
        obtain ⟨x2, r2, rfl, n2⟩ := W.tup d2 hd2
        have q : Q (dataLt (.tuple (x1 :: r1)) (.tuple (x2 :: r2))) s := q
        rw [dataLt_tuple] at q
        have l1 : PyData.canLayAll0 (x1 :: r1) = true := by have := W.lay _ hd; simpa [PyData.canLay0] using this
        have l2 : PyData.canLayAll0 (x2 :: r2) = true := by have := W.lay _ hd2; simpa [PyData.canLay0] using this
        have room : A.units + min (PyData.tuple (x1 :: r1)).depth (PyData.tuple (x2 :: r2)).depth < cLine := Nat.lt_of_le_of_lt (Nat.add_le_add_left (Nat.min_le_left _ _) _) (hu _ hd)
        cases ra with
        | @tuple l o xs n _ _ h1 h2 h3 h4 =>
          cases rb with
          | @tuple l' o' xs' n' _ _ k1 k2 k3 k4 =>
            have z1 : xs.size = (x1 :: r1).length := by simpa using SeqAt.ReadsAll.length _ _ _ h4
            have z2 : xs'.size = (x2 :: r2).length := by simpa using SeqAt.ReadsAll.length _ _ _ k4
            refine kat_lt h1 h3 k1 k3 (kat_wk (x1 :: r1) (x2 :: r2) 0 _ _ _ _ h4 k4 (W.wk _ hd _ hd2 _ _ rfl rfl) l1 l2 (by have := SeqAt.room_in room; omega) (fun _ _ x r t ex => ?_) (by rw [z1, z2]) q)
            cases ex
            exact n1 t
      · obtain ⟨fs, t1, t2, t3⟩ := each_katTups e fun d hd => by
          obtain ⟨x, r, e, _⟩ := W.tup d hd
          exact ⟨x, r, e⟩
        refine kat_kind (T := dataType x0) t1 (by omega) (fun f hf => ?_) (beq_self_eq_true _) q
        obtain ⟨x, r, as, m1, m2⟩ := t3 f hf
        rw [← dataType_alike (first x r m1)]
        exact looks_reads m2
end
theorem vals_wk {β : Type} {h : Heap} {R : Value → β → Prop} {enc : β → PyData} {vs : List Value} {bs : List β} (e : EachIs R vs bs) (er : EachIs (fun v b => ∃ as, Reads h v (enc b) as) vs bs) (W : WkAll (bs.map enc)) :
    EachIs R (sortVals (dataKind h (bs.map enc)) false vs vs) (bs.mergeSort (dataLe false enc)) := by
  have ek : EachIs (fun v d => (dataKind h (bs.map enc)).keyOf v = some (keyToks d)) vs (bs.map enc) := (each_mem (each_map (R := fun v d => ∃ as, Reads h v d as) enc er)).mono fun v d ⟨⟨as, r⟩, hd⟩ => kind_some W.lay hd r
  exact sortVals_each (κ := dataKind h (bs.map enc)) (fun b => keyToks (enc b)) e (each_of_map enc ek)
section
variable {prog : Program} {w : World} {A : Around} {E : Value → Shared → Prop} {s : Shared} {β : Type} {vs : List Value} {bs : List β} {enc : β → PyData} {R : Value → β → Prop}
theorem sorted_wk {l : Addr} {Q : Value → Shared → Prop} (hl : s.heap.IsList l vs.toArray) (e : EachIs R vs bs) (er : EachIs (fun v b => ∃ as, Reads s.heap v (enc b) as) vs bs) (W : WkAll (bs.map enc)) (hL : bs.length ≤ sizeLine)
    (hu : ∀ b ∈ bs, A.units + 2 + (enc b).depth < cLine) (fin : ∀ out, out.length = bs.length → EachIs R out (bs.mergeSort (dataLe false enc)) → Q (.ref (s.heap.objs.size + 1)) { s with heap := sortedAll s.heap vs (List.toArray out) }) :
    wpAny (model prog w) A (call (.builtin "sorted") [.ref l]) Q E s := by
  have er2 : EachIs (fun v b => ∃ as, Reads (sortingHeap (copyHeap s.heap vs) (s.heap.objs.size + 1) vs) v (enc b) as) vs bs := er.mono fun _ _ ⟨as, r⟩ => ⟨as, PyProof.Rows.Reads.keeps (fun _ _ => sorting_copy_old) r⟩
  have S : SortsAt prog w A.in1.in1 { s with heap := sortingHeap (copyHeap s.heap vs) (s.heap.objs.size + 1) vs } (dataKind (sortingHeap (copyHeap s.heap vs) (s.heap.objs.size + 1) vs) (bs.map enc)) vs :=
    sorts_wk (s := { s with heap := sortingHeap (copyHeap s.heap vs) (s.heap.objs.size + 1) vs }) (each_map (R := fun v d => ∃ as, Reads (sortingHeap (copyHeap s.heap vs) (s.heap.objs.size + 1) vs) v d as) enc er2) W fun d hd => by
      obtain ⟨b, hb, rfl⟩ := List.mem_map.mp hd
      exact hu b hb
  exact sorted_vals hl S (by rw [e.length]; exact hL) (fin _ (by rw [sortVals_length false rfl]; exact e.length) (vals_wk e er2 W))
theorem list_sort_wk {a : Addr} {n : Nat} {Q : Value → Shared → Prop} (ho : s.heap.get? a = some (seqObj "list" vs.toArray n)) (e : EachIs R vs bs) (er : EachIs (fun v b => ∃ as, Reads (sortingHeap s.heap a vs) v (enc b) as) vs bs) (W : WkAll (bs.map enc)) (hL : bs.length ≤ sizeLine)
    (hu : ∀ b ∈ bs, A.units + 1 + (enc b).depth < cLine) (fin : ∀ out, out.length = bs.length → EachIs R out (bs.mergeSort (dataLe false enc)) → Q .none { s with heap := sortedHeap s.heap a vs (List.toArray out) }) :
    wpAny (model prog w) A (call (.builtin "list.sort") [.ref a]) Q E s := by
  have S : SortsAt prog w A.in1 { s with heap := sortingHeap s.heap a vs } (dataKind (sortingHeap s.heap a vs) (bs.map enc)) vs :=
    sorts_wk (s := { s with heap := sortingHeap s.heap a vs }) (each_map (R := fun v d => ∃ as, Reads (sortingHeap s.heap a vs) v d as) enc er) W fun d hd => by
      obtain ⟨b, hb, rfl⟩ := List.mem_map.mp hd
      exact hu b hb
  refine wpAny_call_entry slot_list_sort ⟨_, ho, rfl⟩ entry_list_sort (list_sort_vals ho S (by rw [e.length]; exact hL) ⟨.none, rfl, ?_⟩) (args_list_sort _)
  exact fin _ (by rw [sortVals_length false rfl]; exact e.length) (vals_wk e er W)
end
end TB

/-! TbY3: a >= b of such tuples. -/
namespace TB
open PySem PySem.W PySem.Calls PyProof.Rows PySem.SeqAt
open AutoSeq1 (wpAny_loadPart')
open MeetsSeq MeetsSeq2 MeetsSeq3 SeqRoads2
/-- only the first place that differs is asked -/
theorem tuple_geW (l b : Addr) (us vs : Array Value) (n m : Nat) (dl db : Option Addr) (sl sb : Array (Option Value)) (e r : Nat → Bool) :
    Meets (Builtin.«tuple.__ge__» ⟨[.ref l, .ref b], []⟩)
      (fun A R s => s.heap.get? l = some { cls := .type "tuple", dict := dl, data := .seq us n, slots := sl } ∧ s.heap.get? b = some { cls := .type "tuple", dict := db, data := .seq vs m, slots := sb } ∧
        (∀ j (h1 : j < us.size) (h2 : j < vs.size), EqAt A.in1 s us[j] vs[j] (e j)) ∧ (∀ j (h1 : j < us.size) (h2 : j < vs.size), (∀ i, i < j → e i = true) → e j = false → RcOp .GtE A.in1 s us[j] vs[j] (r j)) ∧
        R (.ok (.ret (.bool (firstLt e r (decide (us.size ≥ vs.size)) (List.range (min us.size vs.size)))))) s) :=
  .of_wp fun prog w A R s h => by
    obtain ⟨h0, g, d, tk, os⟩ := s
    obtain ⟨gl, gb, eqs, cmp, fin⟩ := h
    have sub2 := AutoSeq1.sub_tuple_tuple
    have zl : (us.toList.zip vs.toList).length = min us.size vs.size := by simp
    wp_walk using wpAny_loadPart' gl, wpAny_loadPart' gb, wpAny_forIn_list _ (fun todo acc st => acc.1 = none ∧ st = ⟨h0, g, d, tk, os⟩ ∧ ∃ i, (∀ j, j < i → e j = true) ∧ todo = (us.toList.zip vs.toList).drop i ∧
      R (.ok (.ret (.bool (firstLt e r (decide (us.size ≥ vs.size)) ((List.range (min us.size vs.size)).drop i))))) ⟨h0, g, d, tk, os⟩) _
    case turn =>
      rintro ⟨y, x⟩ todo acc st ⟨ha, rfl, i, pre, hz, hR⟩
      have il : i < (us.toList.zip vs.toList).length := Nat.lt_of_not_le fun c => by rw [List.drop_of_length_le c] at hz; cases hz
      have im : i < min us.size vs.size := zl ▸ il
      have i1 : i < us.size := Nat.lt_of_lt_of_le im (Nat.min_le_left _ _)
      have i2 : i < vs.size := Nat.lt_of_lt_of_le im (Nat.min_le_right _ _)
      rw [List.drop_eq_getElem_cons il] at hz
      obtain ⟨hyx, hrest⟩ := List.cons.inj hz
      have ey : y = us[i] := by simpa using congrArg Prod.fst hyx
      have ex : x = vs[i] := by simpa using congrArg Prod.snd hyx
      subst ey ex
      have ed : (List.range (min us.size vs.size)).drop i = i :: (List.range (min us.size vs.size)).drop (i + 1) := by simp [List.drop_eq_getElem_cons, im]
      rw [ed] at hR
      refine wpAny_bind (eqs i i1 i2 prog w _ _ ?_)
      cases c : e i with
      | true =>
        rw [firstLt_yes c] at hR
        wp_walk
        refine ⟨rfl, rfl, i + 1, fun j hj => ?_, hrest, hR⟩
        rcases Nat.lt_succ_iff_lt_or_eq.mp hj with hj | rfl
        · exact pre j hj
        · exact c
      | false =>
        rw [firstLt_no c] at hR
        have cm := fun Q E => cmp i i1 i2 pre c prog w Q E
        generalize PySem.richCompare CmpOp.GtE us[i] vs[i] = rc at cm ⊢
        wp_walk
        refine cm _ _ ?_
        wp_walk
        exact ⟨_, rfl, hR⟩
    case fin =>
      rintro ⟨acc, u⟩ st ⟨ha, rfl, i, pre, hz, hR⟩
      simp only at ha
      subst ha
      have ge : min us.size vs.size ≤ i := Nat.le_of_not_lt fun c => by
        rw [← zl] at c
        rw [List.drop_eq_getElem_cons c] at hz
        cases hz
      rw [List.drop_of_length_le (by simpa using ge)] at hR
      wp_walk
      exact ⟨_, rfl, by simpa [Builtin.Tuple.tupleCompareSizes, firstLt] using hR⟩
    case h => exact ⟨rfl, rfl, 0, fun _ z => absurd z (Nat.not_lt_zero _), rfl, by simpa using fin⟩
theorem first_wk : ∀ (xs ys : List PyData), wks xs ys = true →
    firstLt (pairEq xs ys) (fun j => dataLt (xs.getD j .none) (ys.getD j .none)) (decide (xs.length < ys.length)) (List.range (min xs.length ys.length)) = PyProof.Rows.lexLt itemOrd (keyToksAll xs) (keyToksAll ys)
  | [], [], _ => by simp [firstLt, keyToksAll, lex_irrefl]
  | [], y :: ys, _ => by
    rw [toks_all_cons]
    simp only [keyToksAll]
    rw [lex_diff (O := itemOrd) (by simp)]
    simp [firstLt, itemLt]
  | x :: xs, [], _ => by
    rw [toks_all_cons]
    simp only [keyToksAll]
    rw [lex_diff (O := itemOrd) (by simp)]
    simp [firstLt, itemLt]
  | x :: xs, y :: ys, h => by
    have e1 : min (x :: xs).length (y :: ys).length = min xs.length ys.length + 1 := by simp only [List.length_cons]; omega
    have e2 : decide ((x :: xs).length < (y :: ys).length) = decide (xs.length < ys.length) := decide_eq_decide.mpr (by simp only [List.length_cons]; omega)
    rw [e1, e2, List.range_succ_eq_map]
    unfold wks at h
    cases c : PyData.eqv x y with
    | true =>
      rw [if_pos c] at h
      rw [firstLt_yes (show pairEq (x :: xs) (y :: ys) 0 = true from c), firstLt_map, toks_yes c, ← first_wk xs ys h]
      rfl
    | false =>
      rw [if_neg (by rw [c]; exact Bool.false_ne_true)] at h
      rw [firstLt_no (show pairEq (x :: xs) (y :: ys) 0 = false from c), dataLt_all_no h c]
      rfl
theorem wks_at : ∀ (xs ys : List PyData) (j : Nat), wks xs ys = true → (∀ i, i < j → pairEq xs ys i = true) → j < xs.length → j < ys.length → pairEq xs ys j = false → alike (xs.getD j .none) (ys.getD j .none) = true
  | [], _, _, _, _, h, _, _ => absurd h (Nat.not_lt_zero _)
  | _ :: _, [], _, _, _, _, h, _ => absurd h (Nat.not_lt_zero _)
  | x :: xs, y :: ys, 0, h, _, _, _, c => by
    unfold wks at h
    rw [if_neg (by rw [show PyData.eqv x y = false from c]; exact Bool.false_ne_true)] at h
    exact h
  | x :: xs, y :: ys, j + 1, h, pre, h1, h2, c => by
    unfold wks at h
    rw [if_pos (show PyData.eqv x y = true from pre 0 (Nat.succ_pos _))] at h
    exact wks_at xs ys j h (fun i hi => pre (i + 1) (Nat.succ_lt_succ hi)) (Nat.lt_of_succ_lt_succ h1) (Nat.lt_of_succ_lt_succ h2) c
theorem reads_at {h : Heap} : ∀ {vs : List Value} {xs : List PyData} {as : List Addr}, ReadsAll h vs xs as → ∀ (j : Nat) (hj : j < vs.length), ∃ bs, Reads h vs[j] (xs.getD j .none) bs
  | _, _, _, .nil, j, hj => absurd hj (Nat.not_lt_zero _)
  | _, _, _, .cons r rs, 0, _ => ⟨_, r⟩
  | _, _, _, .cons r rs, j + 1, hj => reads_at rs j (Nat.lt_of_succ_lt_succ hj)
theorem depth_at : ∀ (xs : List PyData) (j : Nat), j < xs.length → (xs.getD j .none).depth ≤ PyData.depthAll xs
  | [], _, h => absurd h (Nat.not_lt_zero _)
  | x :: xs, 0, _ => by simp only [PyData.depthAll, List.getD_cons_zero]; omega
  | x :: xs, j + 1, h => by
    have := depth_at xs j (Nat.lt_of_succ_lt_succ h)
    simp only [PyData.depthAll, List.getD_cons_succ]; omega
/-- a >= b of tuples that are comparable -/
theorem ge_wk {A : Around} {s : Shared} {xs ys : List PyData} {a b : Value} {as bs : List Addr} (ra : Reads s.heap a (.tuple xs) as) (rb : Reads s.heap b (.tuple ys) bs) (hw : wks xs ys = true) (l1 : PyData.canLayAll0 xs = true) (l2 : PyData.canLayAll0 ys = true)
    (hu : A.units + min (PyData.tuple xs).depth (PyData.tuple ys).depth < cLine) : RcOp .GtE A s a b (!dataLt (.tuple xs) (.tuple ys)) := by
  cases ra with
  | @tuple l o us n _ _ h1 h2 h3 h4 =>
    cases rb with
    | @tuple l' o' vs m _ _ k1 k2 k3 k4 =>
      have n1 : us.size = xs.length := by simpa using ReadsAll.length _ _ _ h4
      have n2 : vs.size = ys.length := by simpa using ReadsAll.length _ _ _ k4
      have ef : firstLt (pairEq xs ys) (fun j => !dataLt (xs.getD j .none) (ys.getD j .none)) (decide (us.size ≥ vs.size)) (List.range (min us.size vs.size)) = !dataLt (.tuple xs) (.tuple ys) := by
        rw [n1, n2]
        have e : decide (xs.length ≥ ys.length) = !decide (xs.length < ys.length) := by
          rw [← decide_not]
          exact decide_eq_decide.mpr Nat.not_lt.symm
        rw [e, firstLt_not, first_wk xs ys hw, dataLt_tuple]
      rw [← ef]
      intro prog w E Q q
      obtain ⟨cls, dd, data, sl⟩ := o
      obtain ⟨cls2, dd2, data2, sl2⟩ := o'
      simp only at h2 h3 k2 k3
      subst h2 h3 k2 k3
      refine richCompare_meets_room (op := .GtE) ⟨_, h1, rfl⟩ ⟨_, k1, rfl⟩ F.slot_tuple_ge F.entry_tuple_ge (F.args_tuple_ge_2 _ _) (tuple_geW l l' us vs n m dd dd2 sl sl2 (pairEq xs ys) (fun j => !dataLt (xs.getD j .none) (ys.getD j .none)))
        ⟨h1, k1, fun j j1 j2 => ?_, fun j j1 j2 pre c => ?_, ⟨(fun x => nomatch x), q⟩⟩ (room_here hu)
      · have := eqAt_readsAll xs ys A.in1 s us.toList vs.toList _ _ h4 k4 l1 l2 (room_in hu) j (by simpa using j1) (by simpa using j2)
        simpa using this
      · obtain ⟨c1, r1⟩ := reads_at h4 j (by simpa using j1)
        obtain ⟨c2, r2⟩ := reads_at k4 j (by simpa using j2)
        have al := wks_at xs ys j hw pre (by omega) (by omega) c
        have d1 := depth_at xs j (by omega)
        have d2 := depth_at ys j (by omega)
        have rm := room_in hu
        have u1 : A.in1.units = A.units + 1 := rfl
        have := rcGe_alike _ _ A.in1 s _ _ _ _ r1 r2 al (ne_none_of al c) (by omega)
        simpa using this
end TB

/-! TbY2: sorted, of rows of several forms. -/
namespace TB
open PySem L2 PyProof.Rows
theorem lts_wk : ∀ (xs ys : List D) (n m : Nat), wkDs xs ys = true → D.lays n xs = true → D.lays m ys = true → PyProof.Rows.lexLt itemOrd (PySem.W.keyToksAll (toPys xs)) (PySem.W.keyToksAll (toPys ys)) = D.lts xs ys
  | [], [], _, _, _, _, _ => by simp [toPys, PySem.W.keyToksAll, D.lts, PyProof.Rows.lex_irrefl]
  | [], y :: ys, _, _, _, _, _ => by
    simp only [toPys, PySem.W.keyToksAll, D.lts]
    exact (PyProof.Rows.lex_diff (O := itemOrd) (by decide)).trans (by decide)
  | x :: xs, [], _, _, _, _, _ => by
    simp only [toPys, PySem.W.keyToksAll, D.lts]
    exact (PyProof.Rows.lex_diff (O := itemOrd) (by decide)).trans (by decide)
  | x :: xs, y :: ys, n, m, h, hx, hy => by
    unfold D.lays at hx hy
    obtain ⟨a1, a2⟩ := Bool.and_eq_true_iff.mp hx
    obtain ⟨b1, b2⟩ := Bool.and_eq_true_iff.mp hy
    have ee := eqv_py n m x y a1 b1
    simp only [toPys, D.lts]
    unfold wkDs at h
    by_cases z : D.eqv x y = true
    · rw [if_pos z] at h
      rw [if_pos z, toks_yes (by rw [ee]; exact z)]
      exact lts_wk xs ys n m h a2 b2
    · rw [if_neg z] at h
      have z2 : D.eqv x y = false := by simpa using z
      rw [if_neg z, PySem.W.dataLt_all_no (alk_py x y h) (by rw [ee]; exact z2)]
      exact lt_py n m x y h a1 b1
theorem wks_py : ∀ (xs ys : List D) (n m : Nat), wkDs xs ys = true → D.lays n xs = true → D.lays m ys = true → wks (toPys xs) (toPys ys) = true
  | [], _, _, _, _, _, _ => by simp [toPys, wks]
  | _ :: _, [], _, _, _, _, _ => by simp [toPys, wks]
  | x :: xs, y :: ys, n, m, h, hx, hy => by
    unfold D.lays at hx hy
    obtain ⟨a1, a2⟩ := Bool.and_eq_true_iff.mp hx
    obtain ⟨b1, b2⟩ := Bool.and_eq_true_iff.mp hy
    have ee := eqv_py n m x y a1 b1
    unfold wkDs at h
    simp only [toPys]
    unfold wks
    by_cases z : D.eqv x y = true
    · rw [if_pos z] at h
      rw [if_pos (by rw [ee]; exact z)]
      exact wks_py xs ys n m h a2 b2
    · rw [if_neg z] at h
      rw [if_neg (by rw [ee]; exact z)]
      exact alk_py x y h
theorem tupH_cons {d : D} (h : d.isTupH = true) : ∃ x xs, d = .tup (x :: xs) ∧ ∀ ys, toPy x ≠ .tuple ys := by
  cases d with
  | tup xs =>
    cases xs with
    | nil => simp [D.isTupH] at h
    | cons x xs =>
      refine ⟨x, xs, rfl, ?_⟩
      cases x <;> first | exact absurd h Bool.false_ne_true | (intro ys q; cases q)
  | _ => simp [D.isTupH] at h
theorem wk_lays {xs : List D} (h : (D.tup xs).lay 60 = true) : D.lays 59 xs = true := by simpa [D.lay] using h
theorem wkall_of {ds : List D} (h : sortWk ds = true) : WkAll (ds.map toPy) ∧ D.lays 60 ds = true ∧ ∀ x ∈ ds, ∀ y ∈ ds, PySem.W.dataLt (toPy x) (toPy y) = D.lt x y := by
  unfold sortWk at h
  obtain ⟨h, h3⟩ := Bool.and_eq_true_iff.mp h
  obtain ⟨h1, h2⟩ := Bool.and_eq_true_iff.mp h
  have tp : ∀ d ∈ ds, ∃ x xs, d = .tup (x :: xs) ∧ ∀ ys, toPy x ≠ .tuple ys := fun d hd => tupH_cons (List.all_eq_true.mp h1 d hd)
  have pw : ∀ d ∈ ds, ∀ e ∈ ds, wkD d e = true := fun d hd e he => List.all_eq_true.mp (List.all_eq_true.mp h2 d hd) e he
  refine ⟨⟨fun d hd => ?_, fun d hd e he x r y t q1 q2 => ?_, fun d hd e he xs ys q1 q2 => ?_, fun d hd => ?_⟩, h3, fun x hx y hy => ?_⟩
  · obtain ⟨a, ha, rfl⟩ := List.mem_map.mp hd
    obtain ⟨x, xs, rfl, nt⟩ := tp a ha
    exact ⟨toPy x, toPys xs, by simp only [toPy, toPys], nt⟩
  · obtain ⟨a, ha, rfl⟩ := List.mem_map.mp hd
    obtain ⟨b, hb, rfl⟩ := List.mem_map.mp he
    obtain ⟨x1, xs1, rfl, _⟩ := tp a ha
    obtain ⟨y1, ys1, rfl, _⟩ := tp b hb
    simp only [toPy, toPys, PyData.tuple.injEq, List.cons.injEq] at q1 q2
    rw [← q1.1, ← q2.1]
    have := pw _ ha _ hb
    unfold wkD at this
    exact alk_py _ _ (Bool.and_eq_true_iff.mp this).1
  · obtain ⟨a, ha, rfl⟩ := List.mem_map.mp hd
    obtain ⟨b, hb, rfl⟩ := List.mem_map.mp he
    obtain ⟨x1, xs1, rfl, _⟩ := tp a ha
    obtain ⟨y1, ys1, rfl, _⟩ := tp b hb
    have e1 : toPys (x1 :: xs1) = xs := by simpa [toPy] using q1
    have e2 : toPys (y1 :: ys1) = ys := by simpa [toPy] using q2
    rw [← e1, ← e2]
    have := pw _ ha _ hb
    unfold wkD at this
    exact wks_py _ _ 59 59 (Bool.and_eq_true_iff.mp this).2 (wk_lays (lays_mem h3 _ ha)) (wk_lays (lays_mem h3 _ hb))
  · obtain ⟨a, ha, rfl⟩ := List.mem_map.mp hd
    exact (lay_py 60 a (lays_mem h3 _ ha)).1
  · obtain ⟨x1, xs1, rfl, _⟩ := tp x hx
    obtain ⟨y1, ys1, rfl, _⟩ := tp y hy
    have := pw _ hx _ hy
    unfold wkD at this
    show PySem.W.dataLt (.tuple (toPys _)) (.tuple (toPys _)) = D.lts _ _
    rw [PySem.W.dataLt_tuple]
    exact lts_wk _ _ 59 59 (Bool.and_eq_true_iff.mp this).2 (wk_lays (lays_mem h3 _ hx)) (wk_lays (lays_mem h3 _ hy))
section
variable {X : Cx} {G : Cfgx} {W : WX} {k : Nat} {F H : Hp} {σ : L2.St} {S : List Slot} {T : Cnt}
def rSortedW (K : PySem.W.Frag) : List V → Hp → VK → Prop := fun vs H Q => ∃ (a : Addr) (bs : List (V × PyData)), vs = [V.ref a] ∧ SqL K H a (bs.map (·.1)) ∧ (∀ b ∈ bs, Dp K H b.1 b.2) ∧ WkAll (bs.map (·.2)) ∧ (∀ b ∈ bs, b.2.depth ≤ 60) ∧
  ∀ p, H p = none → Q (.ref p) (upd H p (.lst ((bs.mergeSort (PySem.W.dataLe false (·.2))).map (·.1))))
theorem cr_sortedW {X : Cx} (hu : X.A.units + 64 < cLine) : CallR X (.builtin "sorted") (rSortedW X.K) := by
  intro pins s σ H vs us Q I r ⟨a, bs, e, hs, hd, hw, hz, q⟩
  subst e
  obtain ⟨its, rv, hl, hzl⟩ := I.list hs
  obtain ⟨u, rfl, ru⟩ := vals1 r
  obtain rfl : u = Value.ref a := ru
  obtain ⟨e1, e2⟩ := dp_reads_each I rv hd
  have hlen : bs.length ≤ sizeLine := by simpa using hzl
  refine sorted_wk (enc := fun b : V × PyData => b.2) hl.isList e1 e2 hw hlen (fun b hb => by have := hz b hb; omega) fun out ho he => ?_
  obtain ⟨n, hn⟩ := sortedAll_at s.heap its (List.toArray out)
  exact ⟨.ref (s.heap.objs.size + 1), _, I.laid (t' := s.toks) (o := .lst ((bs.mergeSort (PySem.W.dataLe false (·.2))).map (·.1))) (fun b o e => sortedAll_old e) (Nat.le_succ _) ⟨by rw [List.length_map, List.length_mergeSort]; exact hlen, out, n, vals_each he, hn⟩, rfl, q _ (I.hok.fresh (Nat.le_succ _))⟩
/-- the items, their data -/
theorem zip_core (hK : X.K = G.K) {xs : List V} {ds : List D} {Q : VK} (st : St' G F H σ S T) (rs : Reps G F xs ds) (h : sortWk ds = true) (k : KE G F H σ T Q (.li .fz, .lst (sortD ds)) S) :
    ∃ bs : List (V × PyData), bs.map (·.1) = xs ∧ (∀ b ∈ bs, Dp X.K H b.1 b.2) ∧ WkAll (bs.map (·.2)) ∧ (∀ b ∈ bs, b.2.depth ≤ 60) ∧ ∀ p, H p = none → Q (.ref p) (upd H p (.lst ((bs.mergeSort (PySem.W.dataLe false (·.2))).map (·.1)))) := by
  obtain ⟨wk, ly, lt⟩ := wkall_of h
  have hlen : xs.length = ds.length := rs.len
  have e1 : ((xs.zip ds).map fun p => (p.1, toPy p.2)).map (·.1) = xs := by rw [List.map_map]; exact zip_fst hlen
  have e2 : ((xs.zip ds).map fun p => (p.1, toPy p.2)).map (·.2) = ds.map toPy := by
    have : ((xs.zip ds).map fun p => (p.1, toPy p.2)).map (·.2) = ((xs.zip ds).map (·.2)).map toPy := by rw [List.map_map, List.map_map]; rfl
    rw [this, zip_snd hlen]
  have hz := zip_reps (rs.mono st.sub)
  refine ⟨(xs.zip ds).map fun p => (p.1, toPy p.2), e1, fun b hb => ?_, by rw [e2]; exact wk, fun b hb => ?_, fun p hp => ?_⟩
  · obtain ⟨p, hp, rfl⟩ := List.mem_map.mp hb
    rw [hK]
    exact dp_of 60 p.2 p.1 (lays_mem ly _ (mem_zip_snd hp)) (hz p hp)
  · obtain ⟨p, hp, rfl⟩ := List.mem_map.mp hb
    exact (lay_py 60 p.2 (lays_mem ly _ (mem_zip_snd hp))).2
  · have m1 : ((xs.zip ds).mergeSort fun p q => leD p.2 q.2).map (fun p => (p.1, toPy p.2)) = ((xs.zip ds).map fun p => (p.1, toPy p.2)).mergeSort (PySem.W.dataLe false (·.2)) := by
      refine List.map_mergeSort fun p hp q hq => ?_
      rw [PySem.W.dataLe_eq]
      show leD p.2 q.2 = !PySem.W.dataLt (toPy q.2) (toPy p.2)
      rw [lt _ (mem_zip_snd hq) _ (mem_zip_snd hp)]; rfl
    have m2 : ((xs.zip ds).mergeSort fun p q => leD p.2 q.2).map (·.2) = sortD ds := by
      have := List.map_mergeSort (r := fun p q : V × D => leD p.2 q.2) (s := leD) (f := (·.2)) (l := xs.zip ds) fun p hp q hq => rfl
      rw [this, zip_snd hlen]; rfl
    have m3 : (((xs.zip ds).map fun p => (p.1, toPy p.2)).mergeSort (PySem.W.dataLe false (·.2))).map (·.1) = ((xs.zip ds).mergeSort fun p q => leD p.2 q.2).map (·.1) := by
      rw [← m1, List.map_map]; rfl
    rw [m3]
    refine KE.newL k st ?_ p hp
    rw [← m2]
    exact reps_zip fun p hp => zip_reps rs p ((List.mergeSort_perm _ _).mem_iff.mp hp)
theorem sn_sortW (hK : X.K = G.K) : SN G (rSortedW X.K) fSortW := fun F H σ S T xs ds kd Q st rs e k => by
  rcases rs with _ | ⟨r1, _ | ⟨r2, r3⟩⟩
  · simp [fSortW] at e
  · cases r1 <;> simp only [fSortW, reduceCtorEq] at e
    rename_i a ys as hl ra
    split at e
    · rename_i hz
      cases e
      obtain ⟨bs, b1, b2, b3, b4, b5⟩ := zip_core hK st ra hz.1 k
      exact ⟨a, bs, rfl, by rw [b1]; exact .inl (.inl (st.sub _ _ hl)), b2, b3, b4, b5⟩
    · cases e
  · cases r1 <;> simp [fSortW] at e
def rSortedNW (G : Cfg) (K : PySem.W.Frag) : List V → Hp → VK → Prop := fun vs H Q => ∃ (d : Addr) (xs : List NT) (bs : List (V × PyData)), vs = [V.ref d] ∧ Rd H d (NDO G.w d xs) ∧ KeysAt G H xs ∧ bs.map (·.1) = xs.map (fun x => V.ref x.2.1) ∧ (∀ b ∈ bs, Dp K H b.1 b.2) ∧ WkAll (bs.map (·.2)) ∧ (∀ b ∈ bs, b.2.depth ≤ 60) ∧
  ∀ p, H p = none → Q (.ref p) (upd H p (.lst ((bs.mergeSort (PySem.W.dataLe false (·.2))).map (·.1))))
theorem cr_sortedNW (hK : X.K = G.K) (hw : X.w = G.w) (hr : Room k X.A) : CallR X (.builtin "sorted") (rSortedNW G X.K) := by
  intro pins s σ H vs us Q I r ⟨d, xs, bs, e, ha, hk, he, hd, hal, hz, q⟩
  subst e
  obtain ⟨u, rfl, ru⟩ := vals1 r
  obtain rfl : u = Value.ref d := ru
  obtain ⟨h1, h2, us, rel, dd⟩ := ndo_at I hK hw ha hk
  obtain ⟨es, ep, raw, hs, het⟩ := dd.raw
  have hl : us.length = xs.length := (nrel_len rel).symm
  have rv : Vals (bs.map (·.1)) (us.map fun y => Value.ref y.2.1) := by rw [he]; exact nrel_refs rel
  have hun : X.A.units + 100 < cLine := by have := hr.un; omega
  refine Calls.call_function_entry kind_sorted plain_sorted entry_sorted (args_sorted1 _) ?_
  unfold Builtin.«sorted»
  refine wpAny_bind (m := checkCount "sorted" 1 1 _) (wpAny_pure ?_)
  refine wpAny_bind (PySem.W.kdu_collect (A := X.A.in1) (KdlSrc.rawDict h1) hr.hd raw (by rw [hs, hl]; exact h2) fun h2' tk acc hk' hacc => ?_)
  have ea : acc.toList = us.map fun y => Value.ref y.2.1 := by
    refine List.ext_getElem? fun j => ?_
    rw [Array.getElem?_toList]
    cases ej : acc[j]? with
    | none =>
      rw [Array.getElem?_eq_none_iff] at ej
      rw [eq_comm, List.getElem?_eq_none_iff, List.length_map]
      rw [hacc.1, hs] at ej; exact ej
    | some v =>
      obtain ⟨hi, ev⟩ := hacc.2 j v ej
      obtain ⟨y, hy, g1, _, _⟩ := het j hi
      rw [List.getElem?_map, hy, ev, g1]; rfl
  refine wpAny_bind (wpAny_newList ?_ (by rw [ea, List.length_map, hl]; exact h2))
  rw [ea]
  obtain ⟨e1, e2⟩ := dp_reads_each I rv hd
  have sold : ∀ b o, h2'.get? b = some o → (PySem.W.sortingHeap (h2'.push { cls := .type "list", data := .seq (us.map fun y => Value.ref y.2.1).toArray }) h2'.objs.size (us.map fun y => Value.ref y.2.1)).get? b = some o := fun b o e =>
    PySem.W.sortingHeap_old (Nat.ne_of_lt (Heap.lt_size e)) (Heap.get?_push_of_some _ e)
  have e3 : PySem.W.EachIs (fun u (b : V × PyData) => ∃ as, Reads (PySem.W.sortingHeap (h2'.push { cls := .type "list", data := .seq (us.map fun y => Value.ref y.2.1).toArray }) h2'.objs.size (us.map fun y => Value.ref y.2.1)) u b.2 as) (us.map fun y => Value.ref y.2.1) bs :=
    each_imp (fun u b ⟨as, r⟩ => ⟨as, PyProof.Rows.Reads.keeps (fun b o e => sold b o (hk' b o e)) r⟩) e2
  have blen : bs.length = xs.length := by have := congrArg List.length he; simpa using this
  have ho : (h2'.push { cls := .type "list", data := .seq (us.map fun y => Value.ref y.2.1).toArray }).get? h2'.objs.size = some (seqObj "list" (us.map fun y => Value.ref y.2.1).toArray 0) := Heap.get?_push_size _ rfl
  refine wpAny_bind (wpAny_holding (list_sort_wk (enc := fun b : V × PyData => b.2) (n := 0) ho e1 e3 hal (by rw [blen]; exact h2) (fun b hb => by have := hz b hb; show X.A.units + 1 + 1 + _ < _; omega) fun out hout heach => ?_))
  obtain ⟨n, hn⟩ := sortedHeap_at (out := List.toArray out) ho
  have I0 : Inv X pins σ H { s with heap := h2', toks := tk } := I.kept (t' := tk) hk'
  refine wpAny_pure ⟨_, rfl, .ref h2'.objs.size, _, I0.laid (t' := tk) (a := h2'.objs.size) (o := .lst ((bs.mergeSort (PySem.W.dataLe false (·.2))).map (·.1))) (fun b o g => ?_) (Nat.le_refl _) ⟨?_, out, n, vals_each heach, hn⟩, rfl, q _ (I0.hok.fresh (Nat.le_refl _))⟩
  · rw [sortedHeap_old (Nat.ne_of_lt (Heap.lt_size g)) (by rw [size_push']; exact Nat.lt_succ_of_lt (Heap.lt_size g))]
    exact Heap.get?_push_of_some _ g
  · rw [List.length_map, List.length_mergeSort, blen]
    exact h2
theorem sn_sortNW (hK : X.K = G.K) : SN G (rSortedNW G X.K) fSortNW := fun F H σ S T xs ds kd Q st rs e k => by
  rcases rs with _ | ⟨r1, _ | ⟨r2, r3⟩⟩
  · simp [fSortNW] at e
  · cases r1 <;> simp only [fSortNW, reduceCtorEq] at e
    rename_i d nts kds hl hk hq hv
    split at e
    · rename_i hz
      cases e
      obtain ⟨bs, b1, b2, b3, b4, b5⟩ := zip_core hK st hq hz k
      exact ⟨d, nts, bs, rfl, same_rd st.sub hl, keysAt_mono st.sub (keysAt_of hk hq), b1, b2, b3, b4, b5⟩
    · cases e
  · cases r1 <;> simp [fSortNW] at e
theorem cls_sortedB (hK : X.K = G.K) (hw : X.w = G.w) (hr : Room k X.A) : ∃ r, CallR X (.builtin "sorted") r ∧ SN G r fSortedB := by
  obtain ⟨r, h1, h2⟩ := cls_sortedA (X := X) (G := G) hK hr
  exact ⟨_, h1.or ((cr_sortedN hK hw hr).or ((cr_sortedW hr.units).or (cr_sortedNW hK hw hr))), SN_or1 h2 (SN_or1 (sn_sortN hK) (SN_or1 (sn_sortW hK) (sn_sortNW hK)))⟩

def rGeW (K : PySem.W.Frag) : R2 := fun x y H Q => ∃ xs ys, Dp K H x (.tuple xs) ∧ Dp K H y (.tuple ys) ∧ wks xs ys = true ∧ PyData.canLayAll0 xs = true ∧ PyData.canLayAll0 ys = true ∧ (PyData.tuple xs).depth ≤ 60 ∧ Q (.bl (!PySem.W.dataLt (.tuple xs) (.tuple ys))) H
theorem op_geW (hu : X.A.units + 64 < cLine) : OpR X (compareOp .GtE) (rGeW X.K) := by
  intro pins s σ H x y v u Q I rx ry ⟨xs, ys, hx, hy, hw, l1, l2, hz, q⟩
  obtain ⟨as, r1⟩ := Dp.reads I _ x v hx rx
  obtain ⟨bs, r2⟩ := Dp.reads I _ y u hy ry
  exact ge_wk r1 r2 hw l1 l2 (by omega) X.prog X.w X.xe _ ⟨.bl _, H, I, rfl, q⟩
theorem wkD_elim {d e : D} (h : wkD d e = true) : ∃ x xs y ys, d = .tup (x :: xs) ∧ e = .tup (y :: ys) ∧ wkDs (x :: xs) (y :: ys) = true := by
  cases d with
  | tup xs =>
    cases xs with
    | nil => cases e <;> exact absurd h Bool.false_ne_true
    | cons x xs =>
      cases e with
      | tup ys =>
        cases ys with
        | nil => exact absurd h Bool.false_ne_true
        | cons y ys => exact ⟨x, xs, y, ys, rfl, rfl, (Bool.and_eq_true_iff.mp (show (D.alk x y && wkDs (x :: xs) (y :: ys)) = true from h)).2⟩
      | _ => exact absurd h Bool.false_ne_true
  | _ => cases e <;> exact absurd h Bool.false_ne_true
theorem cls_geB (hK : X.K = G.K) (hr : Room k X.A) : ∃ r, OpR X (compareOp .GtE) r ∧ S2 G r fGeB := by
  obtain ⟨r, h1, h2⟩ := cls_geD (X := X) (G := G) hK hr
  refine ⟨_, orR h1 (op_geW hr.units), S2_or h2 fun F H σ S T x y dx dy kd Q st rx ry e k => ?_⟩
  unfold fGeW kz at e
  split at e
  · rename_i h
    cases e
    obtain ⟨h, hw⟩ := Bool.and_eq_true_iff.mp h
    obtain ⟨l1, l2⟩ := Bool.and_eq_true_iff.mp h
    obtain ⟨x1, xs, y1, ys, rfl, rfl, hv⟩ := wkD_elim hw
    obtain ⟨c1, c2⟩ := lay_py 60 _ l1
    obtain ⟨d1, d2⟩ := lay_py 60 _ l2
    have w1 := wk_lays l1
    have w2 := wk_lays l2
    have el : PySem.W.dataLt (.tuple (toPys (x1 :: xs))) (.tuple (toPys (y1 :: ys))) = D.lt (.tup (x1 :: xs)) (.tup (y1 :: ys)) := by
      rw [PySem.W.dataLt_tuple]
      exact lts_wk _ _ 59 59 hv w1 w2
    refine ⟨toPys (x1 :: xs), toPys (y1 :: ys), hK ▸ dp_of 60 _ _ l1 (rx.mono st.sub), hK ▸ dp_of 60 _ _ l2 (ry.mono st.sub), wks_py _ _ 59 59 hv w1 w2, ?_, ?_, c2, ?_⟩
    · have : (PyData.tuple (toPys (x1 :: xs))).canLay0 = true := c1
      simpa [PyData.canLay0] using this
    · have : (PyData.tuple (toPys (y1 :: ys))).canLay0 = true := d1
      simpa [PyData.canLay0] using this
    · rw [el]
      exact KE.val k st (.bl _)
  · cases e
end
end TB

/-! TbW1: sets whose members are keys of any kind that is hashed and compared in silence (tuples of numbers, texts, tuples). -/
namespace TB
open PySem L2 PySem.Spec PyProof.Rows
/-- what a set asks of its members beside what a dict asks of its keys -/
structure Shy (P : Program) (w : World) {K : Type} [DecidableEq K] (kd : HeapKind P w K) : Prop where
  room : ∀ {A : Around}, A.units + 100 < cLine → kd.room A
  cls : ∀ {A : Around} {E : Value → Shared → Prop} {s : Shared} {k : K} {b : Addr} {Q : Bool → Shared → Prop}, kd.is s.heap k b → Q false s → wpAny (model P w) A (ofAClassStatement 8 (.ref b)) Q E s
  hsh : ∀ {A : Around} {E : Value → Shared → Prop} {s : Shared} {k : K} {b : Addr} {Q : Bool → Shared → Prop}, kd.is s.heap k b → (∀ y, Q y s) → wpAny (model P w) A (hashByValue 8 (.ref b)) Q E s
  stay : ∀ {h h' : Heap} {k : K} {a b : Addr} {o : Obj} {es : Array (Int × Value)} {ep : Nat} {t : SetTable}, kd.is h k b → h.get? a = some o → o.data = .set es ep t → Heap.SameBut a h h' → kd.is h' k b
  grow : ∀ {h h' : Heap} {k : K} {b : Addr}, kd.is h k b → (∀ c o, h.get? c = some o → h'.get? c = some o) → kd.is h' k b
section
variable {P : Program} {w : World} {K : Type} [DecidableEq K] {kd : HeapKind P w K} {A : Around} {E : Value → Shared → Prop} {s : Shared}
theorem unseen (Y : Shy P w kd) {k : K} {x : Addr} {Q : Bool → Shared → Prop} (hx : kd.is s.heap k x) {ys : List Value} (hy : ∀ y ∈ ys, ∃ k2 c, y = Value.ref c ∧ kd.is s.heap k2 c) (fin : Q false s) : wpAny (model P w) A (searchCouldBeSeen (.ref x) ys) Q E s := by
  unfold searchCouldBeSeen
  refine wpAny_bind (wpAny_forIn_list _ (fun todo acc st => acc.1 = none ∧ st = s ∧ ∀ y ∈ todo, ∃ k2 c, y = Value.ref c ∧ kd.is s.heap k2 c) _ ?turn ?fin ys _ ⟨rfl, rfl, hy⟩)
  case turn =>
    rintro y todo acc st ⟨ea, rfl, left⟩
    obtain ⟨k2, c, rfl, hc⟩ := left y List.mem_cons_self
    have left2 := fun z (hz : z ∈ todo) => left z (List.mem_cons_of_mem _ hz)
    dsimp only
    split
    · exact wpAny_pure ⟨rfl, rfl, left2⟩
    · refine wpAny_bind (kd.quiet hx ?_)
      rw [if_neg (by decide)]
      refine wpAny_bind (kd.quiet hc ?_)
      rw [if_neg (by decide)]
      refine wpAny_bind (Y.cls hx ?_)
      rw [if_neg (by decide)]
      refine wpAny_bind (Y.cls hc ?_)
      rw [if_neg (by decide)]
      exact wpAny_pure ⟨rfl, rfl, left2⟩
  case fin =>
    rintro ⟨acc, u⟩ st ⟨ea, rfl, _⟩
    cases ea
    exact wpAny_pure fin
/-- the set at a has the members L, in the order of its table -/
structure SR (kd : HeapKind P w K) (h : Heap) (a : Addr) (L : List (Addr × K)) (es : Array (Int × Value)) (ep : Nat) (t : SetTable) : Prop where
  here : ∃ o, h.get? a = some o ∧ o.ExactSet ∧ o.data = .set es ep t
  row : es.toList = L.map fun (p : Addr × K) => (kd.hash p.2, Value.ref p.1)
  tb : TabOk t (L.map fun (p : Addr × K) => kd.hash p.2)
  one : (L.map (·.2)).Nodup
  mem : ∀ p ∈ L, kd.is h p.2 p.1
  rm : L.length * 5 < t.mask * 3
variable {a : Addr} {L : List (Addr × K)} {es : Array (Int × Value)} {ep : Nat} {t : SetTable}
theorem row_len (e : es.toList = L.map fun (p : Addr × K) => (kd.hash p.2, Value.ref p.1)) : es.size = L.length := by
  rw [← Array.length_toList, e, List.length_map]
theorem SR.fit (R : SR kd s.heap a L es ep t) : t.fits es.size = true := by
  have a1 : t.place.size = L.length := by rw [R.tb.sz, List.length_map]
  have a2 := row_len R.row
  have a3 := R.rm
  unfold SetTable.fits SetTable.fill
  rw [R.tb.dm]
  simp only [Bool.and_eq_true, beq_iff_eq, decide_eq_true_eq]
  exact ⟨by omega, by show t.place.size + 0 ≤ t.mask; omega⟩
theorem row_at (e : es.toList = L.map fun (p : Addr × K) => (kd.hash p.2, Value.ref p.1)) {i : Nat} {p : Addr × K} (hp : L[i]? = some p) : es[i]? = some (kd.hash p.2, Value.ref p.1) := by
  have := congrArg (·[i]?) e
  simpa [hp] using this
abbrev pr (m : Nat) (h : Int) (c : Nat) : SetTable.Probe := nth m (runAt m (SetTable.bits h % (m + 1)) (SetTable.bits h)) c
theorem pr_add (m : Nat) (h : Int) (c q : Nat) : nth m (pr m h c) q = pr m h (c + q) := (nth_add m c _ q).symm
theorem nth_dummy (m : Nat) : ∀ (c : Nat) (p : SetTable.Probe), p.dummy = none → (nth m p c).dummy = none
  | 0, _, e => e
  | c + 1, p, e => nth_dummy m c (adv m p) (by unfold adv; split <;> exact e)
/-- the search for a member, from the c-th step on -/
theorem look (Y : Shy P w kd) (R : SR kd s.heap a L es ep t) {x : Addr} {k : K} (hx : kd.is s.heap k x) (ru : A.units + 100 < cLine) {N : Nat} (small : N < 10 * SetTable.turns t.mask)
    (free : way t.mask (kd.hash k) N ∉ t.place.toList) (busy : ∀ c, c < N → way t.mask (kd.hash k) c ∈ t.place.toList) {Q : SetFound → Shared → Prop} (yes : k ∈ L.map (·.2) → Q (.there none) s) (no : k ∉ L.map (·.2) → Q (.free (way t.mask (kd.hash k) N) false) s) :
    ∀ (f c : Nat) (stand : Option SetTable.Probe), stand.getD (t.probeStart (kd.hash k)) = pr t.mask (kd.hash k) c → c ≤ N → N < f + c →
      (∀ (i : Nat) (p : Addr × K), L[i]? = some p → p.2 = k → ∃ j, c ≤ j ∧ j < N ∧ t.place.toList[i]? = some (way t.mask (kd.hash k) j)) →
      wpAny (model P w) A (setSearchFrom a (.ref x) (kd.hash k) true f stand) Q E s := by
  intro f
  induction f with
  | zero => intro c stand _ h1 h2; exact absurd h2 (by omega)
  | succ f ih =>
    intro c stand start le lt ahead
    obtain ⟨o, og, ox, od⟩ := R.here
    have wj : ∀ q, (nth t.mask (pr t.mask (kd.hash k) c) q).j = way t.mask (kd.hash k) (c + q) := fun q => by rw [pr_add]
    have hsh : ∀ (i : Nat) (p : Addr × K), L[i]? = some p → (es[i]?.map (·.1)).getD 0 = kd.hash p.2 := fun i p hp => by rw [row_at R.row hp]; rfl
    have sp := go_spec t R.tb.ris R.tb.dm (fun i => (es[i]?.map (·.1)).getD 0) (kd.hash k) (10 * SetTable.turns t.mask) (N - c) (pr t.mask (kd.hash k) c) (nth_dummy _ _ _ rfl) (by omega)
      (fun q hq => by rw [wj]; exact busy _ (by omega)) (by rw [wj, Nat.add_sub_cancel' le]; exact free)
    rw [setSearchFrom_succ]
    refine wpAny_bind (wpAny_setState_of og od R.fit ?_)
    dsimp only
    refine wp_if_neg (by unfold SetTable.gaveWay; rw [mask_odd R.tb.mok]; decide) ?_
    try refine wpAny_bind (wpAny_pure ?_)
    rw [start]
    rcases sp with ⟨q, i, q1, q2, q3, q4, q5⟩ | ⟨q4, q5⟩
    · have q5 : t.probe (fun i => (es[i]?.map (·.1)).getD 0) (kd.hash k) (pr t.mask (kd.hash k) c) = some (.candidate (way t.mask (kd.hash k) (c + q)) i (pr t.mask (kd.hash k) (c + (q + 1)))) := by
        rw [← wj, ← pr_add]; exact q5
      rw [q5]
      dsimp only
      rw [wj] at q2
      have il : i < L.length := by
        have e1 : t.place.size = L.length := by rw [R.tb.sz, List.length_map]
        have e2 := (List.getElem?_eq_some_iff.mp q2).1
        rw [Array.length_toList, e1] at e2
        exact e2
      obtain ⟨p, hp⟩ : ∃ p, L[i]? = some p := ⟨_, List.getElem?_eq_getElem il⟩
      have pm := List.mem_of_getElem? hp
      have sl : t.slot (way t.mask (kd.hash k) (c + q)) = .live i := slot_live R.tb.ris q2
      have body : wpAny (model P w) A (searchRest a (.ref x) (kd.hash k) true f es t (way t.mask (kd.hash k) (c + q)) i (pr t.mask (kd.hash k) (c + (q + 1)))) Q E s := by
        unfold searchRest
        rw [row_at R.row hp]
        dsimp only
        refine wpAny_bind (wpAny_holding (kd.eqBool (Y.room ru) (R.mem p pm) hx ?_))
        refine wpAny_bind (wpAny_setState_of og od R.fit ?_)
        dsimp only
        by_cases z : p.2 = k
        · refine wp_if_pos (by rw [decide_eq_true z]; rfl) ?_
          exact wpAny_pure (yes (List.mem_map.mpr ⟨p, pm, z⟩))
        · have zf : decide (p.2 = k) = false := decide_eq_false z
          refine wp_if_neg (by rw [zf]; decide) ?_
          try refine wpAny_bind (wpAny_pure ?_)
          rw [L2.sameMem]
          dsimp only
          simp only [if_true, sl, row_at R.row hp]
          refine wpAny_bind (wpAny_isSame_ref_self (wpAny_bind (wpAny_pure ?_)))
          simp only [if_true]
          refine wp_if_neg (by rw [zf]; decide) ?_
          refine ih (c + (q + 1)) _ rfl (by omega) (by omega) fun i2 p2 h2 e2 => ?_
          obtain ⟨j, j1, j2, j3⟩ := ahead i2 p2 h2 e2
          refine ⟨j, ?_, j2, j3⟩
          rcases Nat.lt_trichotomy j (c + q) with y | y | y
          · refine absurd ((hsh i2 p2 h2).trans (by rw [e2])) (q4 (j - c) i2 (by omega) ?_)
            rw [wj, Nat.add_sub_cancel' j1]; exact j3
          · rw [y] at j3
            have s2 := slot_live R.tb.ris j3
            rw [sl] at s2
            cases s2
            rw [hp] at h2
            exact absurd (by rw [Option.some.inj h2]; exact e2) z
          · omega
      by_cases z : t.led = true
      · refine wp_if_neg (by rw [z]; decide) ?_
        try refine wpAny_bind (wpAny_pure ?_)
        exact body
      · refine wp_if_pos (by simp [z]) ?_
        refine wpAny_bind (unseen Y hx (fun y hy => ?_) ?_)
        · obtain ⟨e, he, rfl⟩ := List.mem_map.mp hy
          have he : e ∈ es.toList := by
            have : e ∈ es ∧ e.1 = kd.hash k := by simpa using he
            simpa using this.1
          rw [R.row] at he
          obtain ⟨p2, hp2, rfl⟩ := List.mem_map.mp he
          exact ⟨p2.2, p2.1, rfl, R.mem p2 hp2⟩
        · refine wp_if_neg (by decide) ?_
          try refine wpAny_bind (wpAny_pure ?_)
          exact body
    · have q5 : t.probe (fun i => (es[i]?.map (·.1)).getD 0) (kd.hash k) (pr t.mask (kd.hash k) c) = some (.empty (way t.mask (kd.hash k) N) none) := by
        have : way t.mask (kd.hash k) N = (nth t.mask (pr t.mask (kd.hash k) c) (N - c)).j := by rw [wj, Nat.add_sub_cancel' le]
        rw [this]; exact q5
      rw [q5]
      dsimp only
      refine wpAny_pure (no fun hm => ?_)
      obtain ⟨p0, h0, e0⟩ := List.mem_map.mp hm
      obtain ⟨i0, hi0⟩ := List.getElem?_of_mem h0
      obtain ⟨j, j1, j2, j3⟩ := ahead i0 p0 hi0 e0
      refine absurd ((hsh i0 p0 hi0).trans (by rw [e0])) (q4 (j - c) i0 (by omega) ?_)
      rw [wj, Nat.add_sub_cancel' j1]; exact j3
theorem look_all (Y : Shy P w kd) (R : SR kd s.heap a L es ep t) {x : Addr} {k : K} (hx : kd.is s.heap k x) (ru : A.units + 100 < cLine) {Q : SetFound → Shared → Prop} (yes : k ∈ L.map (·.2) → Q (.there none) s)
    (no : ∀ N, k ∉ L.map (·.2) → way t.mask (kd.hash k) N ∉ t.place.toList → (∀ c, c < N → way t.mask (kd.hash k) c ∈ t.place.toList) → Q (.free (way t.mask (kd.hash k) N) false) s) :
    wpAny (model P w) A (setSearch a (.ref x) (kd.hash k) true) Q E s := by
  have rm := R.rm
  obtain ⟨N, n1, n2, n3⟩ := R.tb.first (by rw [List.length_map]; omega) (kd.hash k)
  have big : 10 * SetTable.turns t.mask < 100000 := by
    unfold SetTable.turns
    rcases R.tb.mok with e | e | e <;> omega
  unfold setSearch
  refine look Y R hx ru n1 n2 n3 yes (fun h => no N h n2 n3) 100000 0 none rfl (Nat.zero_le _) (by omega) fun i p hp e => ?_
  have e1 : t.place.size = L.length := by rw [R.tb.sz, List.length_map]
  have il : i < t.place.toList.length := by rw [Array.length_toList, e1]; exact (List.getElem?_eq_some_iff.mp hp).1
  obtain ⟨c, c1, c2⟩ := R.tb.before n2 (by rw [List.getElem?_map, hp, ← e]; rfl : (L.map fun (p : Addr × K) => kd.hash p.2)[i]? = some (kd.hash k)) (List.getElem?_eq_getElem il)
  exact ⟨c, Nat.zero_le _, c1, by rw [List.getElem?_eq_getElem il, c2]⟩
end
end TB

/-! TbW2: members added, a set made of a list. -/
namespace TB
open PySem L2 PySem.Spec PyProof.Rows
theorem range_pick {α : Type} (L : List α) (d : α) : (List.range L.length).map (fun i => L.getD i d) = L := by
  refine List.ext_getElem (by simp) fun i h1 h2 => ?_
  simp [List.getD_eq_getElem?_getD, List.getElem?_eq_getElem h2]
theorem pick {α β : Type} {L : List α} {es : Array β} {f : α → β} (e : es.toList = L.map f) {order : Array Nat} (hp : order.toList.Perm (List.range L.length)) :
    ∃ L2 : List α, L2.Perm L ∧ (order.filterMap (es[·]?)).toList = L2.map f ∧ ∀ g : β → Int, (L2.map fun p => g (f p)) = order.toList.map fun i => (es.map g).getD i 0 := by
  have ge : ∀ i : Nat, es[i]? = (L[i]?).map f := fun i => by rw [← Array.getElem?_toList, e, List.getElem?_map]
  cases L with
  | nil =>
    have : order = #[] := by simpa using hp
    subst this
    exact ⟨[], .refl _, rfl, fun g => rfl⟩
  | cons d L =>
    have lt : ∀ i ∈ order.toList, i < (d :: L).length := fun i hi => List.mem_range.mp (hp.mem_iff.mp hi)
    refine ⟨order.toList.map fun i => (d :: L).getD i d, ?_, ?_, fun g => ?_⟩
    · have := hp.map fun i => (d :: L).getD i d
      rw [range_pick] at this; exact this
    · rw [List.map_map]
      have : ∀ l : List Nat, (∀ i ∈ l, i < (d :: L).length) → l.filterMap (fun i => es[i]?) = l.map (f ∘ fun i => (d :: L).getD i d) := by
        intro l
        induction l with
        | nil => intro _; rfl
        | cons i l ih =>
          intro h
          have hi := h i List.mem_cons_self
          have q : es[i]? = some (f ((d :: L).getD i d)) := by
            rw [ge, List.getElem?_eq_getElem hi, List.getD_eq_getElem?_getD, List.getElem?_eq_getElem hi]; rfl
          rw [List.filterMap_cons_some q, ih fun j hj => h j (List.mem_cons_of_mem _ hj)]; rfl
      have h := this _ lt
      simpa using h
    · rw [List.map_map]
      refine List.map_congr_left fun i hi => ?_
      have hl := lt i hi
      have q : (es.map g)[i]? = some (g (f ((d :: L).getD i d))) := by
        rw [Array.getElem?_map, ge, List.getElem?_eq_getElem hl, List.getD_eq_getElem?_getD, List.getElem?_eq_getElem hl]; rfl
      show g (f ((d :: L).getD i d)) = _
      rw [Array.getD_eq_getD_getElem?, q]; rfl
section
variable {P : Program} {w : World} {K : Type} [DecidableEq K] {kd : HeapKind P w K} {A : Around} {E : Value → Shared → Prop} {s : Shared}
variable {a : Addr} {L : List (Addr × K)} {es : Array (Int × Value)} {ep : Nat} {t : SetTable}
abbrev rw1 (kd : HeapKind P w K) (p : Addr × K) : Int × Value := (kd.hash p.2, Value.ref p.1)
theorem relaidN (Y : Shy P w kd) {o : Obj} (og : s.heap.get? a = some o) (ox : o.ExactSet) (od : o.data = .set es ep t) (row : es.toList = L.map (rw1 kd)) (sz : t.place.size = es.size) (dm : t.dummies = #[]) (fl : es.size ≤ t.mask)
    (one : (L.map (·.2)).Nodup) (mem : ∀ p ∈ L, kd.is s.heap p.2 p.1) {wanted M : Nat} (hw : SetTable.sizeAbove wanted - 1 = M) (hM : MaskOk M) (h128 : SetTable.sizeAbove wanted ≤ 128) (rm : L.length * 5 < M * 3) {Q : Unit → Shared → Prop}
    (fin : ∀ h2 L2 es2 ep2 t2, Heap.SameBut a s.heap h2 → SR kd h2 a L2 es2 ep2 t2 → L2.Perm L → Q () { s with heap := h2 }) : wpAny (model P w) A (setRelay a wanted) Q E s := by
  have el : es.size = L.length := row_len row
  have ft : t.fits es.size = true := by
    unfold SetTable.fits SetTable.fill
    rw [dm]
    simp only [Bool.and_eq_true, beq_iff_eq, decide_eq_true_eq]
    exact ⟨sz, by show t.place.size + 0 ≤ t.mask; omega⟩
  obtain ⟨t2, order, e, hp, T, em, _⟩ := relaid_ok t (hs := es.map (·.1)) (wanted := wanted) hw hM (by rw [Array.size_map, el]; omega)
  rw [Array.size_map, el] at hp
  obtain ⟨L2, r1, r2, r3⟩ := pick row hp
  have T : TabOk t2 (L2.map fun (p : Addr × K) => kd.hash p.2) := by
    have := r3 (·.1)
    rw [show (L2.map fun (p : Addr × K) => kd.hash p.2) = L2.map fun p => (rw1 kd p).1 from rfl, this]; exact T
  have l2 : (order.filterMap (es[·]?)).size = es.size := by rw [← Array.length_toList, r2, List.length_map, r1.length_eq, el]
  rw [setRelay_eq]
  refine wpAny_bind (wpAny_setState_of og od ft ?_)
  dsimp only
  refine wp_if_neg (by rw [sizeLine_eq]; omega) ?_
  try refine wpAny_bind (wpAny_pure ?_)
  rw [e]
  dsimp only
  refine wpAny_bind ?_
  refine wp_if_neg (by rw [l2]; simp) ?_
  try refine wpAny_bind (wpAny_pure ?_)
  refine wpAny_pure ?_
  dsimp only
  refine wpAny_storeSet_of og od ?_ (by rw [l2, el, sizeLine_eq]; have : M ≤ 127 := by omega
                                        omega)
  have sb : Heap.SameBut a s.heap (s.heap.update a (Obj.putSet (order.filterMap (es[·]?)) t2)) := Heap.SameBut.update ..
  refine fin _ L2 _ (ep + 1) t2 sb ⟨⟨_, store_at og od, ⟨ox.1, ox.2.1, ox.2.2⟩, rfl⟩, r2, T, (r1.map (·.2)).nodup_iff.mpr one, fun p hm => Y.stay (mem p (r1.mem_iff.mp hm)) og od sb, ?_⟩ r1
  rw [r1.length_eq, em]; exact rm
/-- a member added -/
theorem addN (Y : Shy P w kd) (R : SR kd s.heap a L es ep t) {x : Addr} {k : K} (hx : kd.is s.heap k x) (ru : A.units + 100 < cLine) (few : L.length < 76) {Q : Bool → Shared → Prop}
    (fin : ∀ b h2 L2 es2 ep2 t2, Heap.SameBut a s.heap h2 → SR kd h2 a L2 es2 ep2 t2 → (k ∈ L.map (·.2) → L2 = L) → (k ∉ L.map (·.2) → L2.Perm ((x, k) :: L)) → Q b { s with heap := h2 }) :
    wpAny (model P w) A (setAddHashed a (.ref x) (kd.hash k)) Q E s := by
  obtain ⟨o, og, ox, od⟩ := R.here
  have el := row_len R.row
  have rm := R.rm
  unfold setAddHashed
  refine wpAny_holding ?_
  rw [show (100000 : Nat) = 99999 + 1 from rfl, setAddHashedIn_succ]
  refine wpAny_bind (wpAny_setState_of og od R.fit ?_)
  dsimp only
  refine wp_if_neg (by simp [byScan, Value.scannable]) ?_
  try refine wpAny_bind (wpAny_pure ?_)
  refine wpAny_bind (look_all Y R hx ru (fun hm => ?_) fun N hm hN hb => ?_)
  · dsimp only
    exact wpAny_pure (fin false s.heap L es ep t (Heap.SameBut.refl a s.heap) R (fun _ => rfl) fun z => absurd hm z)
  · dsimp only
    refine wpAny_bind (wpAny_setState_of og od R.fit ?_)
    dsimp only
    obtain ⟨q1, q2, q3, q4, q5, q6, q7, q8, q9⟩ := R.tb.put hN hb
    generalize hpt : t.put (way t.mask (kd.hash k) N) = pt at q1 q3 q4 q5 q6 q7 q8 q9 ⊢
    obtain ⟨t1, at1⟩ := pt
    dsimp only at q1 q3 q4 q5 q6 q7 q8 q9 ⊢
    subst q1
    -- whichever the table is told to be, plain or not
    have rest : ∀ t0 : SetTable, t0.place = t1.place → t0.dummies = t1.dummies → t0.mask = t1.mask → wpAny (model P w) A (do
        storeSet a (SetTable.insertAt es (SetTable.below t.place (way t.mask (kd.hash k) N)) (kd.hash k, Value.ref x)) t0
        if (!false && t0.tooFull) = true then setRelay a (SetTable.grown (es.size + 1))
        return true) Q E s := by
      intro t0 u1 u2 u3
      have T0 : TabOk t0 ((L.map fun (p : Addr × K) => kd.hash p.2).take (SetTable.below t.place (way t.mask (kd.hash k) N)) ++ kd.hash k :: (L.map fun (p : Addr × K) => kd.hash p.2).drop (SetTable.below t.place (way t.mask (kd.hash k) N))) := by
        obtain ⟨a1, a2, a3, a4, a5, a6⟩ := q3
        exact ⟨by rw [u1]; exact a1, by rw [u2]; exact a2, by rw [u1]; exact a3, by rw [u3]; exact a4, by rw [u1, u3]; exact a5, by rw [u1, u3]; exact a6⟩
      have hfill : t0.fill = L.length + 1 := by
        have : t0.fill = t1.fill := by unfold SetTable.fill; rw [u1, u2]
        rw [this, q9, List.length_map]
      have ins : (SetTable.insertAt es (SetTable.below t.place (way t.mask (kd.hash k) N)) (kd.hash k, Value.ref x)).toList = (L.take (SetTable.below t.place (way t.mask (kd.hash k) N)) ++ (x, k) :: L.drop (SetTable.below t.place (way t.mask (kd.hash k) N))).map (rw1 kd) := by
        rw [SetTable.toList_insertAt, R.row, List.map_append, List.map_cons, List.map_take, List.map_drop]
      generalize SetTable.below t.place (way t.mask (kd.hash k) N) = at1 at T0 ins ⊢
      have pm : (L.take at1 ++ (x, k) :: L.drop at1).Perm ((x, k) :: L) := by
        have : (L.take at1 ++ (x, k) :: L.drop at1).Perm ((x, k) :: (L.take at1 ++ L.drop at1)) := List.perm_middle
        rwa [List.take_append_drop] at this
      have T0 : TabOk t0 ((L.take at1 ++ (x, k) :: L.drop at1).map fun (p : Addr × K) => kd.hash p.2) := by
        rw [List.map_append, List.map_cons, List.map_take, List.map_drop]; exact T0
      generalize L.take at1 ++ (x, k) :: L.drop at1 = L1 at pm T0 ins
      generalize SetTable.insertAt es at1 (kd.hash k, Value.ref x) = es1 at ins ⊢
      have l1 : L1.length = L.length + 1 := pm.length_eq
      have e1 : es1.size = L.length + 1 := by rw [row_len ins, l1]
      have one1 : (L1.map (·.2)).Nodup := (pm.map (·.2)).nodup_iff.mpr (by rw [List.map_cons]; exact List.nodup_cons.mpr ⟨hm, R.one⟩)
      refine wpAny_bind (wpAny_storeSet_of og od ?_ (by rw [e1, sizeLine_eq]; omega))
      have sb : Heap.SameBut a s.heap (s.heap.update a (Obj.putSet es1 t0)) := Heap.SameBut.update ..
      have og1 := store_at (es' := es1) (t' := t0) og od
      generalize s.heap.update a (Obj.putSet es1 t0) = h1 at sb og1 ⊢
      have mem1 : ∀ p ∈ L1, kd.is h1 p.2 p.1 := fun p hp => by
        rcases List.mem_cons.mp (pm.mem_iff.mp hp) with rfl | hp
        · exact Y.stay hx og od sb
        · exact Y.stay (R.mem p hp) og od sb
      by_cases full : t0.tooFull = true
      · have five : (L.length + 1) * 5 ≥ t0.mask * 3 := by
          unfold SetTable.tooFull at full
          rw [decide_eq_true_eq, hfill] at full
          exact full
        have two : (t.mask = 7 ∧ L.length = 4) ∨ (t.mask = 31 ∧ L.length = 18) := by
          rw [u3, q4] at five
          rcases R.tb.mok with e | e | e <;> rw [e] at five rm
          · exact .inl ⟨e, by omega⟩
          · exact .inr ⟨e, by omega⟩
          · omega
        have go : ∀ M, SetTable.sizeAbove (SetTable.grown (L.length + 1)) - 1 = M → MaskOk M → SetTable.sizeAbove (SetTable.grown (L.length + 1)) ≤ 128 → (L.length + 1) * 5 < M * 3 →
            wpAny (model P w) A (setRelay a (SetTable.grown (L.length + 1))) (fun _ s2 => wpAny (model P w) A (pure true) Q E s2) E { s with heap := h1 } := fun M g1 g2 g3 g4 => by
          refine relaidN (s := { s with heap := h1 }) Y og1 ⟨ox.1, ox.2.1, ox.2.2⟩ rfl ins (by rw [T0.sz, List.length_map, l1, e1]) T0.dm (by rw [e1, u3, q4]; rcases two with ⟨c1, c2⟩ | ⟨c1, c2⟩ <;> omega) one1 mem1 g1 g2 g3 (by rw [l1]; exact g4) ?_
          intro h2 L2 es2 ep2 t2 sb2 R2 pm2
          exact wpAny_pure (fin true h2 L2 es2 ep2 t2 (sb.trans sb2) R2 (fun z => absurd z hm) fun _ => pm2.trans pm)
        have hgo : wpAny (model P w) A (setRelay a (SetTable.grown (es.size + 1))) (fun _ s2 => wpAny (model P w) A (pure true) Q E s2) E { s with heap := h1 } := by
          rw [el]
          rcases two with ⟨_, c2⟩ | ⟨_, c2⟩
          · exact go 31 (by rw [c2, size_20]) (.inr (.inl rfl)) (by rw [c2, size_20]; decide) (by omega)
          · exact go 127 (by rw [c2, size_76]) (.inr (.inr rfl)) (by rw [c2, size_76]; decide) (by omega)
        first
          | exact wpAny_bind (wp_if_pos (by simp [full]) hgo)
          | exact wp_if_pos (by simp [full]) (wpAny_bind hgo)
      · have done : wpAny (model P w) A (pure true) Q E { s with heap := h1 } := by
          refine wpAny_pure (fin true h1 L1 es1 (ep + 1) t0 sb ⟨⟨_, og1, ⟨ox.1, ox.2.1, ox.2.2⟩, rfl⟩, ins, T0, one1, mem1, ?_⟩ (fun z => absurd z hm) fun _ => pm)
          unfold SetTable.tooFull at full
          rw [decide_eq_true_eq, hfill] at full
          rw [l1]; omega
        first
          | exact wpAny_bind (wp_if_neg (by simp [full]) (wpAny_pure done))
          | exact wp_if_neg (by simp [full]) done
    have plain : ∀ y : Bool, wpAny (model P w) A (do
        let t0 := if y = true then t1 else { t1 with plain := false }
        storeSet a (SetTable.insertAt es (SetTable.below t.place (way t.mask (kd.hash k) N)) (kd.hash k, Value.ref x)) t0
        if (!false && t0.tooFull) = true then setRelay a (SetTable.grown (es.size + 1))
        return true) Q E s := fun y => by
      cases y
      · exact rest { t1 with plain := false } rfl rfl rfl
      · exact rest t1 rfl rfl rfl
    by_cases z : t1.plain = true
    · first
        | exact wp_if_pos z (wpAny_bind (Y.hsh hx fun y => plain y))
        | exact wpAny_bind (wp_if_pos z (Y.hsh hx fun y => plain y))
    · first
        | exact wp_if_neg z (wpAny_bind (wpAny_pure (plain true)))
        | exact wp_if_neg z (plain true)
        | exact wpAny_bind (wp_if_neg z (wpAny_pure (plain true)))
end
end TB

/-! TbW3: nested keys as members; set(xs). -/
namespace TB
open PySem L2 PySem.Spec PyProof.Rows
section
variable {P : Program} {w : World}
def ClsAt (P : Program) (w : World) (n : Nat) (s : Shared) (v : Value) : Prop := ∀ (A : Around) (E : Value → Shared → Prop) (Q : Bool → Shared → Prop), Q false s → wpAny (model P w) A (ofAClassStatement n v) Q E s
def HshAt (P : Program) (w : World) (n : Nat) (s : Shared) (v : Value) : Prop := ∀ (A : Around) (E : Value → Shared → Prop) (Q : Bool → Shared → Prop), (∀ y, Q y s) → wpAny (model P w) A (hashByValue n v) Q E s
theorem cls_tup {n : Nat} {s : Shared} {a : Addr} {o : Obj} {vs : Array Value} {c : Nat} (og : s.heap.get? a = some o) (oc : o.cls = .type "tuple") (od : o.data = .seq vs c) (all : ∀ v ∈ vs.toList, ClsAt P w n s v) : ClsAt P w (n + 1) s (.ref a) := fun A E Q fin => by
  unfold ofAClassStatement
  refine wpAny_bind (wpAny_typeOf ⟨o, og, oc⟩ ?_)
  dsimp only
  rw [if_pos (by decide : (("tuple" : String) == "tuple") = true)]
  try refine wpAny_bind (wpAny_pure ?_)
  try rw [if_neg (by decide : ¬ (!true) = true)]
  refine wpAny_bind (wpAny_seqItems og od ?_)
  dsimp only
  refine wpAny_bind (m := forIn vs _ _) ?_
  rw [← Array.forIn_toList]
  refine wpAny_forIn_list _ (fun todo acc st => acc.1 = none ∧ st = s ∧ ∀ v ∈ todo, ClsAt P w n s v) _ ?_ ?_ _ _ ⟨rfl, rfl, all⟩
  · rintro v todo acc st ⟨_, rfl, left⟩
    refine wpAny_bind (left v List.mem_cons_self A _ _ ?_)
    rw [if_neg (by decide)]
    exact wpAny_pure ⟨rfl, rfl, fun z hz => left z (List.mem_cons_of_mem _ hz)⟩
  · rintro ⟨acc, u⟩ st ⟨ea, rfl, _⟩
    cases ea
    exact wpAny_pure fin
theorem hsh_tup {n : Nat} {s : Shared} {a : Addr} {o : Obj} {vs : Array Value} {c : Nat} (og : s.heap.get? a = some o) (oc : o.cls = .type "tuple") (od : o.data = .seq vs c) (all : ∀ v ∈ vs.toList, HshAt P w n s v) : HshAt P w (n + 1) s (.ref a) := fun A E Q fin => by
  unfold hashByValue
  refine wpAny_bind (wpAny_specialOf ⟨o, og, oc⟩ F.slot_tuple_hash.lookup ?_)
  dsimp only
  refine wpAny_bind (wpAny_seqItems og od ?_)
  refine wpAny_bind (m := forIn vs _ _) ?_
  rw [← Array.forIn_toList]
  refine wpAny_forIn_list _ (fun todo acc st => acc.1 = none ∧ st = s ∧ ∀ v ∈ todo, HshAt P w n s v) _ ?_ ?_ _ _ ⟨rfl, rfl, all⟩
  · rintro v todo acc st ⟨_, rfl, left⟩
    refine wpAny_bind (left v List.mem_cons_self A _ _ fun y => ?_)
    cases y
    · rw [if_pos (by decide)]
      exact wpAny_pure (wpAny_pure (fin false))
    · rw [if_neg (by decide)]
      exact wpAny_pure ⟨rfl, rfl, fun z hz => left z (List.mem_cons_of_mem _ hz)⟩
  · rintro ⟨acc, u⟩ st ⟨ea, rfl, _⟩
    cases ea
    exact wpAny_pure (fin true)
mutual
theorem nk_silent : ∀ (k : NestedKey) (v : Value) (n : Nat) (s : Shared), NestedIs s.heap k v → k.depth ≤ n → ClsAt P w n s v ∧ HshAt P w n s v
  | .none, _, n, s, x, _ => by
    cases x
    exact ⟨fun A E Q f => by cases n <;> exact wpAny_pure f, fun A E Q f => by cases n <;> exact wpAny_pure (f _)⟩
  | .num i, _, n, s, x, _ => by
    cases x
    · exact ⟨fun A E Q f => by cases n <;> exact wpAny_pure f, fun A E Q f => by cases n <;> exact wpAny_pure (f _)⟩
    · exact ⟨fun A E Q f => by cases n <;> exact wpAny_pure f, fun A E Q f => by cases n <;> exact wpAny_pure (f _)⟩
  | .text y, _, n, s, x, _ => by
    cases x
    exact ⟨fun A E Q f => by cases n <;> exact wpAny_pure f, fun A E Q f => by cases n <;> exact wpAny_pure (f _)⟩
  | .tup ks, _, n, s, x, le => by
    cases x with
    | tup og oc od hk =>
      simp only [NestedKey.depth] at le
      cases n with
      | zero => omega
      | succ n =>
        have all := nks_silent ks _ n s hk (by omega)
        exact ⟨cls_tup og oc od fun v hv => (all v hv).1, hsh_tup og oc od fun v hv => (all v hv).2⟩
theorem nks_silent : ∀ (ks : List NestedKey) (vs : List Value) (n : Nat) (s : Shared), NestedAll s.heap ks vs → NestedKey.depthAll ks ≤ n → ∀ v ∈ vs, ClsAt P w n s v ∧ HshAt P w n s v
  | [], _, n, s, x, _, v, hv => by cases x; cases hv
  | k :: ks, _, n, s, x, le, v, hv => by
    cases x with
    | cons x y =>
      simp only [NestedKey.depthAll] at le
      rcases List.mem_cons.mp hv with rfl | hv
      · exact nk_silent k _ n s x (by omega)
      · exact nks_silent ks _ n s y (by omega) v hv
end
theorem shy_nested : Shy P w (nestedKind P w) where
  room := fun {A} h => show A.units + 8 < cLine by omega
  cls := fun {A E s k b Q} hk f => (nk_silent k _ 8 s hk.1 hk.2).1 A E Q f
  hsh := fun {A E s k b Q} hk f => (nk_silent k _ 8 s hk.1 hk.2).2 A E Q f
  stay := fun {h h' k a b o es ep t} hk og od sb => ⟨NestedIs.at (fun c o2 vs n g d => by
    by_cases z : c = a
    · rw [z, og] at g
      rw [← Option.some.inj g, od] at d
      cases d
    · rw [sb.2 c z]; exact g) k _ hk.1, hk.2⟩
  grow := fun {h h' k b} hk keep => ⟨NestedIs.at (fun c o2 vs n g d => keep c o2 g) k _ hk.1, hk.2⟩
end
/-- what the set has of the first i members -/
structure Has {K : Type} (ks : List (Addr × K)) (i : Nat) (L : List (Addr × K)) : Prop where
  of : ∀ p ∈ L, p ∈ ks.take i
  to : ∀ p ∈ ks.take i, p.2 ∈ L.map (·.2)
  le : L.length ≤ i
section
variable {K : Type} {ks L L2 : List (Addr × K)} {i : Nat} {x : Addr × K}
theorem take_one (h : ks[i]? = some x) : ks.take (i + 1) = ks.take i ++ [x] := by rw [List.take_succ, h]; rfl
theorem Has.again (g : Has ks i L) (h : ks[i]? = some x) (m : x.2 ∈ L.map (·.2)) : Has ks (i + 1) L :=
  ⟨fun p hp => by rw [take_one h]; exact List.mem_append.mpr (.inl (g.of p hp)), fun p hp => by
    rw [take_one h] at hp
    rcases List.mem_append.mp hp with z | z
    · exact g.to p z
    · simp at z; rw [z]; exact m, by have := g.le; omega⟩
theorem Has.new (g : Has ks i L) (h : ks[i]? = some x) (pm : L2.Perm (x :: L)) : Has ks (i + 1) L2 :=
  ⟨fun p hp => by
    rw [take_one h]
    rcases List.mem_cons.mp (pm.mem_iff.mp hp) with rfl | z
    · exact List.mem_append.mpr (.inr (by simp))
    · exact List.mem_append.mpr (.inl (g.of p z)), fun p hp => by
    rw [(pm.map (·.2)).mem_iff]
    rw [take_one h] at hp
    rcases List.mem_append.mp hp with z | z
    · exact List.mem_cons.mpr (.inr (g.to p z))
    · simp at z; rw [z]; exact List.mem_cons.mpr (.inl rfl), by have := g.le; have := pm.length_eq; simp at this; omega⟩
end
section
variable {P : Program} {w : World} {K : Type} [DecidableEq K] {kd : HeapKind P w K} {A : Around} {E : Value → Shared → Prop} {s : Shared}
theorem SR.on {h h2 : Heap} {a : Addr} {L : List (Addr × K)} {es : Array (Int × Value)} {ep : Nat} {t : SetTable} (R : SR kd h a L es ep t) (keep : ∀ o, h.get? a = some o → h2.get? a = some o) (m : ∀ p ∈ L, kd.is h2 p.2 p.1) : SR kd h2 a L es ep t :=
  let ⟨o, og, r⟩ := R.here
  ⟨⟨o, keep o og, r⟩, R.row, R.tb, R.one, m, R.rm⟩
abbrev newSet (w : World) : Obj := { cls := .type "set", dict := none, data := .set #[] 0 (.fresh 0 0 (!w.params.followText "set-order")) }
theorem sr_new {h : Heap} {a : Addr} (og : h.get? a = some (newSet w)) : SR kd h a [] #[] 0 (.fresh 0 0 (!w.params.followText "set-order")) :=
  ⟨⟨_, og, ⟨rfl, rfl, rfl⟩, rfl⟩, rfl, ⟨List.Pairwise.nil, rfl, rfl, .inl rfl, fun x hx => (by cases hx), fun i h j hi => (by simp at hi)⟩, List.nodup_nil, fun p hp => (by cases hp), (by show 0 * 5 < 7 * 3; decide)⟩
/-- the loop of set.update -/
theorem set_fill (Y : Shy P w kd) {I : Addr} {fp wr : List Addr} {G : Array GenState → Array GenState → Prop} {n : Nat} {Pv : Nat → Value → Prop} {St : Nat → Shared → Prop} {R : Result → Shared → Prop}
    (W : WalksS P w A.in1 I fp wr G n Pv St) (S : Addr) (apart : S ∉ fp) (ks : List (Addr × K)) (hn : n = ks.length) (few : ks.length < 76) (val : ∀ i v, Pv i v → ∃ p, ks[i]? = some p ∧ v = .ref p.1)
    (h0 : Heap) (hk : ∀ p ∈ ks, kd.is h0 p.2 p.1) (S0 : h0.get? S = none) (w0 : ∀ b ∈ wr, h0.get? b = none) (ru : A.in1.units + 100 < cLine) :
    ∀ (d i : Nat) (s : Shared), n - i = d → i ≤ n → St i s → (∀ b o, h0.get? b = some o → s.heap.get? b = some o) → (∃ L es ep t, SR kd s.heap S L es ep t ∧ Has ks i L) →
      (∀ s2 L es ep t, Moved (S :: wr) G s s2 → SR kd s2.heap S L es ep t → Has ks n L → (∀ b o, h0.get? b = some o → s2.heap.get? b = some o) → R (.ok (.ret .none)) s2) →
      codeAny (model P w) A (.builtin "set.update.loop" ⟨[.ref S, .ref I], []⟩) R s := by
  have apart2 : S ∉ wr := fun h => apart (W.sub _ h)
  have wider : ∀ b ∈ wr, b ∈ S :: wr := fun b hb => List.mem_cons.mpr (.inr hb)
  have moved : ∀ {s s2 : Shared}, Moved wr G s s2 → (∀ b o, h0.get? b = some o → s.heap.get? b = some o) → ∀ b o, h0.get? b = some o → s2.heap.get? b = some o := fun mv kp b o e =>
    mv.heap b o (fun hb => by have := w0 b hb; rw [e] at this; cases this) (kp b o e)
  intro d
  induction d with
  | zero =>
    intro i s hd le st kp ⟨L, es, ep, t, sr, g⟩ fin
    obtain rfl : i = n := by omega
    refine codeAny_builtin F.entry_set_update_loop ?_
    rw [Around.under_plainId F.plain_set_update_loop _]
    refine wpAny_bind (m := pyNext (.ref I)) (W.done s _ _ st fun s2 mv => ?_)
    have kp2 := moved mv kp
    have inks : ∀ p ∈ L, p ∈ ks := fun p hp => List.mem_of_mem_take (g.of p hp)
    exact wpAny_pure (fin s2 L es ep t (mv.mono wider) (sr.on (fun o e => mv.heap S o apart2 e) fun p hp => Y.grow (hk p (inks p hp)) kp2) g kp2)
  | succ d ih =>
    intro i s hd le st kp ⟨L, es, ep, t, sr, g⟩ fin
    have lt : i < n := by omega
    refine codeAny_builtin F.entry_set_update_loop ?_
    rw [Around.under_plainId F.plain_set_update_loop _]
    refine wpAny_bind (m := pyNext (.ref I)) (W.item i s _ _ lt st fun v s2 pv st2 mv => ?_)
    obtain ⟨p, hp, rfl⟩ := val i v pv
    have kp2 := moved mv kp
    have inks : ∀ p ∈ L, p ∈ ks := fun p hp => List.mem_of_mem_take (g.of p hp)
    have sr2 : SR kd s2.heap S L es ep t := sr.on (fun o e => mv.heap S o apart2 e) fun q hq => Y.grow (hk q (inks q hq)) kp2
    have hx : kd.is s2.heap p.2 p.1 := Y.grow (hk p (List.mem_of_getElem? hp)) kp2
    refine wpAny_bind (m := holding [Value.ref p.1] (setAdd S (.ref p.1))) (wpAny_holding ?_)
    unfold setAdd
    refine wpAny_holding (wpAny_bind (kd.pyHash (Y.room ru) hx ?_))
    refine addN (s := { s2 with toks := s2.toks + kd.draws p.2 }) Y sr2 hx ru (by have := g.le; omega) fun b h2 L2 es2 ep2 t2 sb sr3 c1 c2 => ?_
    have g2 : Has ks (i + 1) L2 := by
      by_cases c : p.2 ∈ L.map (·.2)
      · rw [c1 c]; exact g.again hp c
      · exact g.new hp (c2 c)
    have kp3 : ∀ b o, h0.get? b = some o → h2.get? b = some o := fun b o e => by
      rw [sb.2 b fun z => by rw [z, S0] at e; cases e]; exact kp2 b o e
    refine wpAny_pure ⟨plainId_quiet F.plain_set_update_loop _, ih (i + 1) _ (by omega) lt (W.frame _ s2 _ _ st2 (Nat.le_add_right _ _) fun b hb o e => ?_) kp3 ⟨L2, es2, ep2, t2, sr3, g2⟩ fun s3 L3 es3 ep3 t3 mv3 sr4 g3 kp4 => ?_⟩
    · rw [sb.2 b fun z : b = S => apart (z ▸ hb)]; exact e
    · refine fin s3 L3 es3 ep3 t3 (Moved.trans W.gtrans ((mv.mono wider).then_heap (Nat.le_add_right _ _) fun b o hb e => ?_) mv3) sr4 g3 kp4
      rw [sb.2 b fun z : b = S => hb (by rw [z]; exact List.mem_cons.mpr (.inl rfl))]; exact e
end
end TB

/-! TbW4: set(xs), xs a list of such members. -/
namespace TB
open PySem L2 PySem.Spec PyProof.Rows
section
variable {P : Program} {w : World} {K : Type} [DecidableEq K] {kd : HeapKind P w K} {A : Around} {E : Value → Shared → Prop} {s : Shared}
theorem init_set (Y : Shy P w kd) {l : Addr} {items : Array Value} (ks : List (Addr × K)) (hh : A.handled = none) (hl : s.heap.IsList l items) (hit : items.toList = ks.map fun p => Value.ref p.1)
    (hk : ∀ p ∈ ks, kd.is s.heap p.2 p.1) (few : ks.length < 76) (ru : A.units + 110 < cLine) {R : Result → Shared → Prop}
    (fin : ∀ (h2 : Heap) (tk : Nat) L es ep t, SR kd h2 s.heap.objs.size L es ep t → Has ks ks.length L → (∀ b o, s.heap.get? b = some o → h2.get? b = some o) → R (.ok (.ret .none)) { s with heap := h2, toks := tk }) :
    codeAny (model P w) A (.builtin "set.update.loop" ⟨[.ref s.heap.objs.size, .ref (s.heap.objs.size + 1)], []⟩) R
      { s with heap := (s.heap.push (newSet w)).push { cls := .type "list_iterator", data := .fields #[.ref l, .int 0 0] } } := by
  have n1 : items.size = ks.length := by rw [← Array.length_toList, hit, List.length_map]
  obtain ⟨ol, og, oc, c, od⟩ := hl
  have lt : l < s.heap.objs.size := Heap.lt_size og
  have z1 : (s.heap.push (newSet w)).objs.size = s.heap.objs.size + 1 := Heap.size_push ..
  have none_of : ∀ b, s.heap.objs.size ≤ b → s.heap.get? b = none := fun b hb => by
    cases q : s.heap.get? b with
    | none => rfl
    | some o => exact absurd (Nat.lt_of_lt_of_le (Heap.lt_size q) hb) (Nat.lt_irrefl _)
  have val : ∀ (i : Nat) (v : Value), items[i]? = some v → ∃ p, ks[i]? = some p ∧ v = .ref p.1 := fun i v hv => by
    have q : (items.toList)[i]? = some v := by rw [Array.getElem?_toList]; exact hv
    rw [hit, List.getElem?_map] at q
    cases e : ks[i]? with
    | none => rw [e] at q; cases q
    | some p => rw [e] at q; exact ⟨p, rfl, (Option.some.inj q).symm⟩
  have hl1 : (s.heap.push (newSet w)).IsList l items := ⟨ol, Heap.get?_push_of_some _ og, oc, c, od⟩
  have S0 : ((s.heap.push (newSet w)).push { cls := .type "list_iterator", data := .fields #[.ref l, .int 0 0] }).get? s.heap.objs.size = some (newSet w) := Heap.get?_push_of_some _ (Heap.get?_push_size _ rfl)
  refine set_fill Y ((Walks.list (A := A.in1) (by rw [Around.in1_handled]; exact hh) (s.heap.objs.size + 1) l (Nat.ne_of_lt (Nat.lt_succ_of_lt lt)) items).toS) s.heap.objs.size (by
      simp only [List.mem_cons, List.not_mem_nil, or_false, not_or]; exact ⟨Nat.ne_of_lt (Nat.lt_succ_self _), Nat.ne_of_gt lt⟩) ks n1 few val s.heap hk (none_of _ (Nat.le_refl _)) (fun b hb => none_of b (by
      rw [List.mem_singleton.mp hb]; exact Nat.le_succ _)) (by show A.units + 1 + 100 < _; omega) (items.size - 0) 0 { s with heap := (s.heap.push (newSet w)).push { cls := .type "list_iterator", data := .fields #[.ref l, .int 0 0] } } rfl (Nat.zero_le _)
    ⟨⟨_, by rw [← z1]; exact Heap.get?_push_size _ rfl, rfl, rfl⟩, (hl1.push _)⟩ (fun b o e => Heap.get?_push_of_some _ (Heap.get?_push_of_some _ e)) ⟨[], #[], 0, _, sr_new S0, ⟨fun p hp => (by cases hp), fun p hp => (by simp at hp), Nat.le_refl _⟩⟩ ?_
  intro s2 L es ep t mv sr g kp
  obtain ⟨h2, g2, d2, tk2, os2⟩ := s2
  have e1 : g2 = s.gens := mv.gens
  have e2 : d2 = s.drawn := mv.drawn
  have e3 : os2 = s.os := mv.os
  subst e1 e2 e3
  rw [n1] at g
  exact fin h2 tk2 L es ep t sr g kp
theorem call_setN (Y : Shy P w kd) {l : Addr} {items : Array Value} (ks : List (Addr × K)) {Q : Value → Shared → Prop} (hh : A.handled = none) (hl : s.heap.IsList l items) (hit : items.toList = ks.map fun p => Value.ref p.1)
    (hk : ∀ p ∈ ks, kd.is s.heap p.2 p.1) (few : ks.length < 76) (ru : A.units + 120 < cLine)
    (fin : ∀ (h2 : Heap) (tk : Nat) L es ep t, SR kd h2 s.heap.objs.size L es ep t → Has ks ks.length L → (∀ b o, s.heap.get? b = some o → h2.get? b = some o) → Q (.ref s.heap.objs.size) { s with heap := h2, toks := tk }) :
    wpAny (model P w) A (call (.type "set") [.ref l]) Q E s := by
  obtain ⟨_, _, m1⟩ := F.called_set.mro
  have m2 := F.called_set.made
  have m3 := F.called_set.sub
  refine wpAny_call (codeAny_of_tree (show wpAny _ _ (callAny (.type "set") _) _ _ _ from wpAny_pure ⟨Code.quiet_builtin _ (by decide +kernel), codeAny_builtin F.entry_type_call ?_⟩))
  rw [Around.under_plain (weight_type_call_type "set" [.ref l] []) rfl]
  have m4 := F.called_set.notType
  have m5 := F.called_set.canCreate
  have m6 := F.typeCall_set_1 (.ref l)
  repeat (any_goals first | wp_step | assumption)
  refine codeAny_mono (code_set_led1 (.ref l) (E := E) (Q₁ := fun ob s1 => ob = .ref s.heap.objs.size ∧ s1 = { s with heap := s.heap.push (newSet w) }) ⟨rfl, rfl⟩) fun r1 s1 e1 => ?_
  cases r1 with
  | error e => exact e1
  | ok f1 =>
    cases f1 with
    | ret ob =>
      obtain ⟨rfl, rfl⟩ := e1
      have S0 : (s.heap.push (newSet w)).get? s.heap.objs.size = some (newSet w) := Heap.get?_push_size _ rfl
      have S1 : Shared.TypeIs { s with heap := s.heap.push (newSet w) } (.ref s.heap.objs.size) "set" := ⟨_, S0, rfl⟩
      have m7 := F.called_set.init.lookup
      have m8 := F.called_set.init.bind (.ref s.heap.objs.size)
      repeat (any_goals first | wp_step | assumption)
      refine codeAny_mono (codeAny_call_builtin (R := wants (fun r s2 => r = .none ∧ ∃ h2 tk L es ep t, s2 = { s with heap := h2, toks := tk } ∧ SR kd h2 s.heap.objs.size L es ep t ∧ Has ks ks.length L ∧ ∀ b o, s.heap.get? b = some o → h2.get? b = some o) E)
        F.called_set.init.plain F.entry_set_init (check_set_init_1 S1 ?_)) fun r2 s2 e2 => ?_
      · have hl0 := hl
        obtain ⟨ol, og, oc, c, od⟩ := hl
        obtain ⟨ocls, odict, odata, oslots⟩ := ol
        simp only at oc od
        subst oc od
        have og1 : (s.heap.push (newSet w)).get? l = some { cls := .type "list", dict := odict, data := .seq items c, slots := oslots } := Heap.get?_push_of_some _ og
        have m9 := F.sub_list_set
        have m10 := F.sub_list_frozenset
        have m11 : (Value.type "list" == Value.type "dict") = false := by decide
        have hl1 : (s.heap.push (newSet w)).IsList l items := ⟨_, og1, rfl, c, rfl⟩
        unfold Builtin.«set.__init__» noKeywords Builtin.Frozenset.updateFrom
        generalize hp : pyIter = pi
        wp_walk
        subst hp
        refine wpAny_pyIter_list hl1 (wpAny_bind (wpAny_runValue ?_))
        have z1 : (s.heap.push (newSet w)).objs.size = s.heap.objs.size + 1 := Heap.size_push ..
        simp only [z1]
        refine init_set (s := s) Y ks (by simp [hh]) hl0 hit hk few (by show A.units + 1 + 1 + 110 < _; omega) fun h2 tk L es ep t sr g kp => ?_
        refine wpAny_pure (show wpAny _ _ (ret Value.none) _ _ _ from ?_)
        exact wpAny_pure ⟨rfl, h2, tk, L, es, ep, t, rfl, sr, g, kp⟩
      · cases r2 with
        | error e => exact e2
        | ok f2 =>
          cases f2 with
          | ret r =>
            obtain ⟨rfl, h2, tk, L, es, ep, t, rfl, sr, g, kp⟩ := e2
            repeat (any_goals first | wp_step | assumption)
            exact fin _ _ _ _ _ _ sr g kp
          | _ => exact e2.elim
    | _ => exact e1.elim
end
end TB

/-! TbW5: len(set(xs)). -/
namespace TB
open PySem L2 PyProof.Rows
/-- two lists without double members, of the same members -/
theorem same_len {α : Type} [DecidableEq α] {a b : List α} (ha : a.Nodup) (hb : b.Nodup) (h : ∀ x, x ∈ a ↔ x ∈ b) : a.length = b.length :=
  ((List.perm_ext_iff_of_nodup ha hb).mpr h).length_eq
def nubG {α : Type} [DecidableEq α] : List α → List α → List α
  | acc, [] => acc
  | acc, x :: xs => if x ∈ acc then nubG acc xs else nubG (acc ++ [x]) xs
theorem nubG_ok {α : Type} [DecidableEq α] : ∀ (xs acc : List α), acc.Nodup → (nubG acc xs).Nodup ∧ ∀ x, x ∈ nubG acc xs ↔ x ∈ acc ∨ x ∈ xs
  | [], acc, h => ⟨h, fun x => by simp [nubG]⟩
  | y :: xs, acc, h => by
    unfold nubG
    split
    · rename_i m
      obtain ⟨a, b⟩ := nubG_ok xs acc h
      refine ⟨a, fun x => (b x).trans ⟨fun z => z.elim .inl fun z => .inr (List.mem_cons.mpr (.inr z)), fun z => z.elim .inl fun z => ?_⟩⟩
      rcases List.mem_cons.mp z with rfl | z
      · exact .inl m
      · exact .inr z
    · rename_i m
      obtain ⟨a, b⟩ := nubG_ok xs (acc ++ [y]) (List.nodup_append.mpr ⟨h, by simp, fun a ha b hb => by simp at hb; rw [hb]; rintro rfl; exact m ha⟩)
      refine ⟨a, fun x => (b x).trans ?_⟩
      simp only [List.mem_append, List.mem_cons, List.not_mem_nil, or_false]
      constructor
      · rintro ((z | z) | z)
        · exact .inl z
        · exact .inr (.inl z)
        · exact .inr (.inr z)
      · rintro (z | z | z)
        · exact .inl (.inl z)
        · exact .inl (.inr z)
        · exact .inr z
theorem nub_map {α : Type} [DecidableEq α] (f : α → D) (hf : ∀ a b, D.eqv (f a) (f b) = decide (a = b)) : ∀ (xs acc : List α), nubD (acc.map f) (xs.map f) = (nubG acc xs).map f
  | [], acc => rfl
  | x :: xs, acc => by
    have e : ((acc.map f).any fun y => D.eqv y (f x)) = decide (x ∈ acc) := by
      rw [List.any_map]
      have : ((fun y => D.eqv y (f x)) ∘ f) = fun a => decide (a = x) := by funext a; exact hf a x
      rw [this]
      induction acc with
      | nil => rfl
      | cons a acc ih =>
        rw [List.any_cons, ih]
        by_cases z : a = x
        · simp [z]
        · have z2 : ¬ x = a := fun q => z q.symm
          simp [z, z2]
    rw [List.map_cons]
    unfold nubD nubG
    rw [e]
    by_cases z : x ∈ acc
    · simp only [z, decide_true, if_true]; exact nub_map f hf xs acc
    · simp only [z, decide_false, if_false, Bool.false_eq_true]
      have := nub_map f hf xs (acc ++ [x])
      rw [List.map_append] at this
      exact this
theorem firstMet_mem (ns : List Int) : ∀ i, i ≤ ns.length → (firstMet (fun i => ns.getD i 0) i).Nodup ∧ ∀ x, x ∈ firstMet (fun i => ns.getD i 0) i ↔ x ∈ ns.take i
  | 0, _ => by rw [firstMet_zero]; simp
  | i + 1, h => by
    obtain ⟨a, b⟩ := firstMet_mem ns i (by omega)
    rw [firstMet_succ]
    have hi : i < ns.length := h
    have e : ns.getD i 0 = ns[i] := by simp [List.getD_eq_getElem?_getD, List.getElem?_eq_getElem hi]
    have tk : ns.take (i + 1) = ns.take i ++ [ns[i]] := by rw [List.take_succ, List.getElem?_eq_getElem hi]; rfl
    unfold step_dedup
    rw [e, tk]
    by_cases z : ns[i] ∈ firstMet (fun i => ns.getD i 0) i
    · have z2 : (firstMet (fun i => ns.getD i 0) i).any (· == ns[i]) = true := List.any_eq_true.mpr ⟨_, z, by simp⟩
      simp only [z2, if_true]
      refine ⟨a, fun x => (b x).trans ?_⟩
      simp only [List.mem_append, List.mem_cons, List.not_mem_nil, or_false]
      exact ⟨.inl, fun q => q.elim id fun q => by rw [q]; exact (b _).mp z⟩
    · have z2 : (firstMet (fun i => ns.getD i 0) i).any (· == ns[i]) = false := by
        rw [List.any_eq_false]
        intro y hy q
        simp at q
        exact z (q ▸ hy)
      simp only [z2, Bool.false_eq_true, if_false]
      refine ⟨List.nodup_append.mpr ⟨a, by simp, fun p hp q hq => by simp at hq; rw [hq]; rintro rfl; exact z hp⟩, fun x => ?_⟩
      simp only [List.mem_append, List.mem_cons, List.not_mem_nil, or_false, b]
section
variable {X : Cx} {G : Cfgx} {W : WX} {k : Nat} {F H : Hp} {σ : L2.St} {S : List Slot} {T : Cnt}
theorem ints_of_reps {H : Hp} : ∀ {xs : List V} {ds : List D}, Reps G H xs ds → ds.all D.isInt = true → ∃ ns : List Int, ds = ns.map D.int ∧ xs = ns.map V.int
  | _, _, .nil, _ => ⟨[], rfl, rfl⟩
  | _, _, .cons r rs, h => by
    simp only [List.all_cons, Bool.and_eq_true] at h
    obtain ⟨ns, rfl, rfl⟩ := ints_of_reps rs h.2
    cases r with
    | int i => exact ⟨i :: ns, rfl, rfl⟩
    | _ => simp [D.isInt] at h
theorem keys_of_reps {pins : List (Addr × Obj)} {s : Shared} (I : Inv X pins σ H s) (hK : X.K = G.K) : ∀ {xs : List V} {ds : List D} {us : List Value}, Reps G H xs ds → ds.all isNK = true → Vals xs us →
    ∃ ks : List (Addr × NestedKey), ds = ks.map (fun p => nkD p.2) ∧ us = ks.map (fun p => Value.ref p.1) ∧ ∀ p ∈ ks, (nestedKind X.prog X.w).is s.heap p.2 p.1
  | _, _, _, .nil, _, r => by cases r; exact ⟨[], rfl, rfl, fun p hp => by cases hp⟩
  | _, _, _, .cons a rs, h, r => by
    simp only [List.all_cons, Bool.and_eq_true] at h
    cases r with
    | cons b r =>
      obtain ⟨ks, h1, h2, h3⟩ := keys_of_reps I hK rs h.2 r
      obtain ⟨c, e1, e2, k1, k2, _⟩ := key_at' I hK a b h.1
      refine ⟨(c, toNK _) :: ks, by rw [List.map_cons, ← h1, k2], by rw [List.map_cons, ← h2, e2], fun p hp => ?_⟩
      rcases List.mem_cons.mp hp with rfl | hp
      · exact k1
      · exact h3 p hp
def tLenSetD (G : Cfg) (K : PySem.W.Frag) (ta : TE) : TE := fun σ H Q => ta σ H fun x H1 => ∃ (l : Addr) (xs : List V) (ds : List D), x = V.ref l ∧ SqL K H1 l xs ∧ Reps G H1 xs ds ∧ setOk ds = true ∧ Q (.int (nubD [] ds).length) H1
theorem pe_lenSetD {a : Expr} {ta : TE} {p p2 q pos : Pos} (C : Cok X G W k) (hg : Gl X "len") (hm : X.mg "len" = none) (hg2 : Gl X "set") (hm2 : X.mg "set" = none) (ha : PE X a ta)
    (na : starEach [a] X.env = (false, eval a X.env) :: starEach [] X.env := by rfl) : PE X (.Call (.Name "len" p) [.Call (.Name "set" p2) [a] [] q] [] pos) (tLenSetD G X.K ta) := by
  refine ⟨fun pins s σ H Q I h => ?_⟩
  have un := C.room.units
  refine Call_ (ld_blt I hg hm PySem.boot_len (PyProof.Rows.callWith_builtin1 (PyProof.Rows.args_cons ?_ rfl) rfl rfl))
  refine Call_ (ld_blt I hg2 hm2 PyProof.Rows.boot_set (PyProof.Rows.callWith_type1 (PyProof.Rows.args_cons (thn (ha.run pins s σ H _ I h) fun v s1 ⟨x, H1, I1, r1, q1⟩ => PyProof.Rows.args_nil ?_) na) na rfl))
  obtain ⟨l, xs, ds, rfl, hq, hr, ok, q1⟩ := q1
  cases r1
  obtain ⟨its, r, pl, hz⟩ := I1.list hq
  unfold setOk at ok
  rcases Bool.or_eq_true_iff.mp ok with ok | ok
  · obtain ⟨ok, fit⟩ := Bool.and_eq_true_iff.mp ok
    have fit := of_decide_eq_true fit
    obtain ⟨ns, rfl, rfl⟩ := ints_of_reps hr ok
    have hl : its.toArray.size = ns.length := by rw [List.size_toArray, ← r.length, List.length_map]
    rw [List.length_map] at fit
    refine call_set_list (C.room.hd) pl.isList (ns := ns) (by simpa using r.ints) (by rw [hl]; unfold scanBound; omega) fun h2 tk sS keep => ?_
    rw [hl] at sS
    obtain ⟨m1, m2⟩ := firstMet_mem ns ns.length (Nat.le_refl _)
    refine PyProof.Rows.args_nil ?_
    obtain ⟨o, es, ep, t, og, ox, od, _, _, _, ft, en⟩ := sS
    have I2 : Inv X pins σ H1 { s1 with heap := h2, toks := tk } := I1.kept fun b o e => keep b o (Heap.lt_size e) e
    have e2 : (nubD [] (ns.map D.int)).length = es.size := by
      obtain ⟨a1, a2⟩ := nubG_ok ns [] List.nodup_nil
      have := nub_map D.int (fun a b => by simp [D.eqv, BEq.beq]) ns []
      rw [List.map_nil] at this
      rw [this, List.length_map, en]
      refine same_len a1 m1 fun x => (a2 x).trans ?_
      rw [m2, List.take_length]; simp
    have lim : es.size ≤ ns.length := by
      rw [en]
      exact firstMet_length_le _ _
    exact call_len_set og ox od ft (by omega) ⟨.int es.size, H1, I2.tok _, ⟨_, rfl⟩, by rw [← e2]; exact q1⟩
  · obtain ⟨ok, fit⟩ := Bool.and_eq_true_iff.mp ok
    have fit := of_decide_eq_true fit
    obtain ⟨ks, rfl, hus, hk⟩ := keys_of_reps I1 C.hK hr ok r
    rw [List.length_map] at fit
    refine call_setN shy_nested ks C.room.hd pl.isList (by simpa using hus) hk fit (by have := C.room.un; omega) fun h2 tk L es ep t sr g keep => ?_
    refine PyProof.Rows.args_nil ?_
    obtain ⟨o, og, ox, od⟩ := sr.here
    have I2 : Inv X pins σ H1 { s1 with heap := h2, toks := tk } := I1.kept keep
    have e1 := row_len sr.row
    have e2 : (nubD [] (ks.map fun p => nkD p.2)).length = es.size := by
      obtain ⟨a1, a2⟩ := nubG_ok (ks.map (·.2)) [] List.nodup_nil
      have := nub_map nkD nk_dec (ks.map (·.2)) []
      rw [List.map_nil, List.map_map] at this
      have this : nubD [] (ks.map fun p => nkD p.2) = (nubG [] (ks.map (·.2))).map nkD := this
      rw [this, List.length_map, e1, ← List.length_map (f := (·.2)) (as := L)]
      refine same_len a1 sr.one fun x => (a2 x).trans ⟨fun z => ?_, fun z => ?_⟩
      · rcases z with z | z
        · simp at z
        · obtain ⟨p, hp, rfl⟩ := List.mem_map.mp z
          exact g.to p (by rw [List.take_length]; exact hp)
      · obtain ⟨p, hp, rfl⟩ := List.mem_map.mp z
        exact .inr (List.mem_map.mpr ⟨p, List.mem_of_mem_take (g.of p hp), rfl⟩)
    have lim := g.le
    exact call_len_set og ox od (SR.fit (s := { s1 with heap := h2, toks := tk }) sr) (by omega) ⟨.int es.size, H1, I2.tok _, ⟨_, rfl⟩, by rw [← e2]; exact q1⟩
theorem tr_lenSet {a : Expr} {m : E} {p p2 q pos : Pos} (C : Cok X G W k) (h : TrE X G W a m) (hm : X.mg "len" = none) (hm2 : X.mg "set" = none) (hg : Gl X "len" := by rfl) (hg2 : Gl X "set" := by rfl)
    (na : starEach [a] X.env = (false, eval a X.env) :: starEach [] X.env := by rfl) : TrE X G W (.Call (.Name "len" p) [.Call (.Name "set" p2) [a] [] q] [] pos) (eUn fLenSet m) := by
  obtain ⟨t, pa, d⟩ := h
  refine ⟨_, pe_lenSetD C hg hm hg2 hm2 pa na, fun F H σ S T Q st z => d.dat F H σ S T _ st (PR.bind z fun y S1 z1 => ?_)⟩
  intro v F1 H1 T1 s1 st1 r1
  have z1 := PR.reE s1 z1
  cases e : fLenSet y with
  | none =>
    have z1 : PR G W F1 H1 σ T1 (KE G F1 H1 σ T1 Q) (ofO (fLenSet y) S1) := z1
    rw [e] at z1; exact z1.elim
  | some kd =>
    have z1 : PR G W F1 H1 σ T1 (KE G F1 H1 σ T1 Q) (ofO (fLenSet y) S1) := z1
    rw [e] at z1
    unfold fLenSet at e
    split at e
    · rename_i ds0
      split at e
      · rename_i ok
        cases e
        cases r1 with
        | lst hl rs =>
          exact ⟨_, _, _, rfl, by rw [C.hK]; exact .inl (.inl (st1.sub _ _ hl)), rs.mono st1.sub, ok, (show KE G F1 H1 σ T1 Q (.fz, .int _) S1 from z1) _ F1 H1 T1 nil0 ((Step.refl F1 H1 T1).castR fun a => rfl) st1 (.fz (.int _)) (fun a => st1.le a) fun _ _ => rfl⟩
      · cases e
    · cases e
end
end TB

/-! TbX1: small rules. -/
namespace TB
open PySem L2 PyProof.Rows
section
variable {X : Cx} {G : Cfgx} {W : WX} {k : Nat} {F H : Hp} {σ : L2.St} {S : List Slot} {T : Cnt}
theorem tr_badE {e : Expr} : TrE X G W e eBad := ⟨fun _ _ _ => False, ⟨fun _ _ _ _ _ _ h => h.elim⟩, fun _ _ _ _ _ _ _ z => z.elim⟩
theorem tr_badS {s : Stmt} : TrS X G W s sBad := ⟨fun _ _ _ => False, ⟨fun _ _ _ _ _ _ h => h.elim⟩, fun _ _ _ _ _ _ _ z => z.elim⟩
theorem tru_of (hK : X.K = G.K) {v : V} {d : D} {b : Bool} (st : St' G F H σ S T) (r : Rep G F v d) (e : truD d = some b) : TruV X.K v H b := by
  cases r with
  | non => cases e; rfl
  | bl b => cases e; rfl
  | int i => cases e; rfl
  | str z =>
    have e : (if z.cps.toList.length ≤ sizeMax then some ((z.cps.toList.length : Int) != 0) else none) = some b := e
    split at e
    · rename_i hz
      cases e
      have l2 : sizeLine = sizeMax := rfl
      have e2 : z.length = z.cps.toList.length := by simp [PySem.Str.length]
      exact ⟨by rw [e2, l2]; exact hz, by rw [e2]⟩
    · cases e
  | tup h rs =>
    cases e
    refine .inr (.inl ⟨_, hK ▸ same_t st.sub h, ?_⟩)
    cases rs <;> rfl
  | lst h rs =>
    cases e
    refine .inl ⟨_, .inl (.inl (st.sub _ _ h)), ?_⟩
    cases rs <;> rfl
  | _ => cases e
theorem tr_orV (C : Cok X G W k) {a b : Expr} {rest : List Expr} {ma mb : E} {pos : Pos} (ha : TrE X G W a ma) (hb : TrE X G W (.BoolOp .Or (b :: rest) pos) mb) : TrE X G W (.BoolOp .Or (a :: b :: rest) pos) (eOrV ma mb) := by
  obtain ⟨t, p, d⟩ := ha
  obtain ⟨u, q, e⟩ := hb
  refine ⟨_, pe_orT p q, fun F H σ S T Q st z => d.dat F H σ S T _ st (PR.bind z fun x S1 y => ?_)⟩
  intro v F1 H1 T1 s1 st1 r1
  cases ex : truD x with
  | none => simp only [ex] at y; exact y.elim
  | some b =>
    simp only [ex] at y
    refine ⟨b, tru_of C.hK st1 r1 ex, ?_⟩
    cases b with
    | true => exact KE.val (KE.re s1 (show KE G F H σ T Q (.fz, x) S1 from y)) st1 r1
    | false => exact e F1 H1 σ S1 T1 Q st1 (PR.reE s1 y)
theorem tr_andV (C : Cok X G W k) {a b : Expr} {rest : List Expr} {ma mb : E} {pos : Pos} (ha : TrE X G W a ma) (hb : TrE X G W (.BoolOp .And (b :: rest) pos) mb) : TrE X G W (.BoolOp .And (a :: b :: rest) pos) (eAndV ma mb) := by
  obtain ⟨t, p, d⟩ := ha
  obtain ⟨u, q, e⟩ := hb
  refine ⟨_, pe_andT p q, fun F H σ S T Q st z => d.dat F H σ S T _ st (PR.bind z fun x S1 y => ?_)⟩
  intro v F1 H1 T1 s1 st1 r1
  cases ex : truD x with
  | none => simp only [ex] at y; exact y.elim
  | some b =>
    simp only [ex] at y
    refine ⟨b, tru_of C.hK st1 r1 ex, ?_⟩
    cases b with
    | false => exact KE.val (KE.re s1 (show KE G F H σ T Q (.fz, x) S1 from y)) st1 r1
    | true => exact e F1 H1 σ S1 T1 Q st1 (PR.reE s1 y)
theorem den_pk2 (i : Nat) {op : CmpOp} {r : R2} {f : D → D → Option KD} {m : E} {t : TE} (ho : OpR X (compareOp op) r) (hs : S2 G r f) (d : DenE G W t m) : DenE G W (tOp r t (tVar i)) (ePk2 f m i) := fun F H σ S T Q st z => by
  refine d.dat F H σ S T _ st (PR.bind z fun y S1 z1 => ?_)
  intro v F1 H1 T1 s1 st1 r1
  have z1 := PR.reE s1 z1
  have z1 : PR G W F1 H1 σ T1 (KE G F1 H1 σ T1 Q) (match S1[i]? with
    | some (some (_, d)) => (match f y d with
      | some (_, r) => if r.flat = true then .ok (.fz, r) S1 else .bad
      | none => .bad)
    | _ => .bad) := z1
  cases e : S1[i]? with
  | none => rw [e] at z1; exact z1.elim
  | some sl =>
    rw [e] at z1
    cases sl with
    | none => exact z1.elim
    | some kd =>
      obtain ⟨kk, dd⟩ := kd
      simp only at z1
      obtain ⟨w, fw, hw, o, _⟩ := st1.sl.var e
      refine ⟨w, hw, ?_⟩
      cases ef : f y dd with
      | none => rw [ef] at z1; exact z1.elim
      | some q =>
        obtain ⟨k2, rr⟩ := q
        rw [ef] at z1
        simp only at z1
        split at z1
        · rename_i fl
          have z1 : KE G F1 H1 σ T1 Q (.fz, rr) S1 := z1
          refine hs H1 H1 σ (S1.map frz) nil0 v w y dd (k2, rr) Q (peek_world st1) (r1.mono st1.sub) (o.rep st1.sub) ef ?_
          intro v' F' H' T' f' s' st' o' le di
          have sHH : Same H1 H' := fun a u e => s'.fr a u rfl e
          have rep := o'.rep st'.sub
          exact z1 v' F1 H' T1 nil0 ⟨Same.refl F1, fun a u _ e => sHH a u e, fun a n => .inl n, fun a h n => absurd h n, s'.tl⟩ ⟨st1.pi, fun a u e => sHH _ _ (st1.sub _ _ e), st1.sl.mono (Same.refl F1) fun a u _ e => sHH a u e, st1.le, st1.di⟩ (.fz (flat_rep fl rep F1)) (fun a => st1.le a) fun _ _ => rfl
        · exact z1.elim
theorem tr_pk2 (i : Nat) {op : CmpOp} {r : R2} {f : D → D → Option KD} {a : Expr} {m : E} {x : PySem.Str} {p pos : Pos} (ho : OpR X (compareOp op) r) (hs : S2 G r f) (ha : TrE X G W a m) (hm : behindInMarks op (.Name x p) = false := by rfl)
    (hN : X.N[i]? = some x := by rfl) (hv : Vis X.env.scope x := by first | exact Or.inl rfl | exact Or.inr (Or.inl rfl) | exact Or.inr (Or.inr rfl)) (hd : (x == ("__debug__" : PySem.Str)) = false := by decide) (hcd : (x == ("__classdict__" : PySem.Str)) = false := by decide) :
    TrE X G W (.Compare a [op] [.Name x p] pos) (ePk2 f m i) := by
  obtain ⟨t, pa, d⟩ := ha
  exact ⟨_, pe_cmpR ho pa (pe_var hN hv hd hcd) hm, den_pk2 i ho hs d⟩
theorem eqv_anys (n m : Nat) (x : D) (hx : x.lay n = true) : ∀ ys : List D, D.lays m ys = true → ((toPys ys).any fun z => PyData.eqv z (toPy x)) = ys.any fun y => D.eqv y x
  | [], _ => rfl
  | y :: ys, h => by
    simp only [D.lays, Bool.and_eq_true] at h
    simp only [toPys, List.any_cons]
    rw [eqv_py m n y x h.1 hx, eqv_anys n m x hx ys h.2]
theorem in_coreN (hK : X.K = G.K) {x y : V} {dx : D} {ys : List D} (st : St' G F H σ S T) (rx : Rep G F x dx) (ry : Rep G F y (.lst ys)) (h : (dx.lay 60 && D.lays 60 ys) = true) :
    Dp X.K H x (toPy dx) ∧ Dp X.K H y (.list (toPys ys)) ∧ SeqAt.shaped (toPy dx) = true ∧ SeqAt.shaped (.list (toPys ys)) = true ∧ ((toPys ys).any fun z => PyData.eqv z (toPy dx)) = ys.any fun y => D.eqv y dx := by
  obtain ⟨h1, h2⟩ := Bool.and_eq_true_iff.mp h
  have h3 : (D.lst ys).lay 61 = true := by simpa [D.lay] using h2
  have e : toPy (.lst ys) = .list (toPys ys) := rfl
  obtain ⟨a1, a2⟩ := lay_py 60 dx h1
  obtain ⟨b1, b2⟩ := lay_py 61 (.lst ys) h3
  rw [e] at b1 b2
  refine ⟨hK ▸ dp_of 60 dx x h1 (rx.mono st.sub), hK ▸ dp_of 61 (.lst ys) y h3 (ry.mono st.sub), ?_, ?_, eqv_anys 60 60 dx h1 ys h2⟩
  · exact Bool.and_eq_true_iff.mpr ⟨a1, decide_eq_true (by omega)⟩
  · exact Bool.and_eq_true_iff.mpr ⟨b1, decide_eq_true (by omega)⟩
theorem cls_inN (hK : X.K = G.K) (hr : Room k X.A) : ∃ r, OpR X (compareOp .In) r ∧ S2 G r fInN := by
  refine ⟨_, op_inD (by have := hr.un; omega), fun F H σ S T x y dx dy kd Q st rx ry e k => ?_⟩
  unfold fInN at e
  split at e
  · split at e
    · rename_i h
      cases e
      obtain ⟨a, b, c, d, f⟩ := in_coreN hK st rx ry h
      exact ⟨_, _, a, b, c, d, by rw [f]; exact KE.val k st (.bl _)⟩
    · cases e
  · cases e
theorem cls_notInN (hK : X.K = G.K) (hr : Room k X.A) : ∃ r, OpR X (compareOp .NotIn) r ∧ S2 G r fNotInN := by
  refine ⟨_, op_notInD (by have := hr.un; omega), fun F H σ S T x y dx dy kd Q st rx ry e k => ?_⟩
  unfold fNotInN at e
  split at e
  · split at e
    · rename_i h
      cases e
      obtain ⟨a, b, c, d, f⟩ := in_coreN hK st rx ry h
      exact ⟨_, _, a, b, c, d, by rw [f]; exact KE.val k st (.bl _)⟩
    · cases e
  · cases e
/-! xs.index(x) -/
theorem eqVs_of {F : Hp} {x : V} {dx : D} (rx : Rep G F x dx) (hx : dx.flat = true) : ∀ {vs : List V} {ds : List D}, Reps G F vs ds → ds.all D.flat = true → ∀ (j : Nat) (z : V), vs[j]? = some z → ∃ dz, ds[j]? = some dz ∧ eqV z x = D.eqv dz dx
  | _, _, .nil, _, j, z, e => by simp at e
  | _, _, .cons r rs, h, j, z, e => by
    obtain ⟨h1, h2⟩ := Bool.and_eq_true_iff.mp (show (D.flat _ && List.all _ D.flat) = true from h)
    cases j with
    | zero => simp at e; subst e; exact ⟨_, rfl, eqV_of r rx h1 hx⟩
    | succ j => exact eqVs_of rx hx rs h2 j z (by simpa using e)
def idxL1 (b : E) (x : D) : E := match x with
  | .lst ys => M.bind (eDat b) fun y => ofO (fIndexL (.lst ys) y)
  | _ => eBad
def tIdxL (K : PySem.W.Frag) (to : TE) (t : TA) : TE := tBM K "list" (rIndex K) to t
theorem tr_indexL (C : Cok X G W k) {o e : Expr} {mo m : E} {apos cpos : Pos} (ho : TrE X G W o mo) (h : TrE X G W e m) (hbase : attributeBase o "index" X.env (eval o X.env) = eval o X.env := by rfl)
    (hfew : ((backTo cpos (starEach [e] X.env)).all (fun x => !x.1) && (backToKw cpos (keywordEach [] X.env)).all (fun x => x.1.isSome)
      && decide ([e].length + ([] : List Keyword).length + (if ([] : List Keyword).isEmpty then 0 else 1) < 30)) = true := by rfl)
    (hline : (apos.endLine == cpos.line) = true := by rfl) (hs : starEach [e] X.env = (false, eval e X.env) :: starEach [] X.env := by rfl) (hplain : (backTo cpos (starEach [] X.env)).any (·.1) = false := by rfl) :
    TrE X G W (.Call (.Attribute o "index" apos) [e] [] cpos) (eIndexL mo m) := by
  obtain ⟨t, p, d⟩ := ho
  obtain ⟨u, q, d2⟩ := h
  refine ⟨_, pe_bm F.plainAttrs_list F.slot_list_index F.type_list_index mt_index p (pa_cons q pa_nil hs) hbase hfew hline hs hplain, fun F H σ S T Q st z => d.dat F H σ S T _ st (PR.bind z fun x S1 z1 => ?_)⟩
  intro v F1 H1 T1 s1 st1 r1
  have z1 : PR G W F H σ T (KE G F H σ T Q) (idxL1 m x S1) := z1
  have hx : ∃ ys, x = .lst ys := by
    cases x with
    | lst ys => exact ⟨ys, rfl⟩
    | _ => exact z1.elim
  obtain ⟨ys, rfl⟩ := hx
  cases r1 with
  | @lst a vs _ hl rs =>
    refine ⟨.inl ⟨rfl, vs, .inl (.inl (st1.sub _ _ hl))⟩, ?_⟩
    refine d2.dat F1 H1 σ S1 T1 _ st1 (PR.bind (PR.reE s1 z1) fun y S2 z2 => ?_)
    intro w F2 H2 T2 s2 st2 r2
    have z2 := PR.reE s2 z2
    cases ef : fIndexL (.lst ys) y with
    | none =>
      have z2 : PR G W F2 H2 σ T2 (KE G F2 H2 σ T2 Q) (ofO (fIndexL (.lst ys) y) S2) := z2
      rw [ef] at z2; exact z2.elim
    | some kd =>
      have z2 : PR G W F2 H2 σ T2 (KE G F2 H2 σ T2 Q) (ofO (fIndexL (.lst ys) y) S2) := z2
      rw [ef] at z2
      unfold fIndexL at ef
      simp only at ef
      split at ef
      · rename_i hf
        obtain ⟨f1, f2⟩ := Bool.and_eq_true_iff.mp hf
        cases ei : ys.findIdx? fun z => D.eqv z y with
        | none => rw [ei] at ef; cases ef
        | some j =>
          rw [ei] at ef
          cases ef
          obtain ⟨hj, g1, g2⟩ := List.findIdx?_eq_some_iff_getElem.mp ei
          have rs2 := rs.mono s2.sF
          have lv : j < vs.length := by rw [rs2.len]; exact hj
          have at_ := fun i z e => eqVs_of r2 f1 rs2 f2 i z e
          refine ⟨a, vs, w, j, vs[j], rfl, rfl, .inl (.inl (st2.sub _ _ (s2.sF _ _ hl))), flatV_of r2 f1, flats_of rs2 f2, List.getElem?_eq_getElem lv, ?_, fun i z hi ez => ?_, KE.val (show KE G F2 H2 σ T2 Q (.fz, .int j) S2 from z2) st2 (.int _)⟩
          · obtain ⟨dz, e1, e2⟩ := at_ j _ (List.getElem?_eq_getElem lv)
            rw [e2]
            rw [List.getElem?_eq_getElem hj] at e1
            cases e1
            exact g1
          · obtain ⟨dz, e1, e2⟩ := at_ i z ez
            rw [e2]
            have := g2 i hi
            rw [List.getElem?_eq_getElem (by omega)] at e1
            cases e1
            simpa using this
      · cases ef
end
end TB

/-! TbX2: constants of the module that are tuples, tables; a comprehension that is frozen at once. -/
namespace TB
open PySem L2 PyProof.Rows
/-- a tuple of texts of the module -/
structure KTupS (K : PySem.W.Frag) (a : Addr) (ss : List (List Nat)) : Prop where
  at_ : ∃ (o : Obj) (its : Array Value) (n : Nat) (zs : List PySem.Str), K.lookup a = some o ∧ o.cls = .type "tuple" ∧ o.dict = none ∧ o.data = .seq its n ∧ its.size ≤ sizeLine ∧ Vals (zs.map V.str) its.toList ∧ zs.map (fun z => z.cps.toList) = ss
/-- a table of the module: texts, numbers -/
structure KTabI (K : PySem.W.Frag) (w : World) (a : Addr) (tb : List (List Nat × Int)) : Prop where
  at_ : ∃ es n, KDict K w a es n
  get : ∀ z : PySem.Str, ∃ r, PySem.W.nsIn K a z = some r ∧ match tb.find? (fun p => p.1 == z.cps.toList), r with
    | some p, some u => ∃ t, u = Value.int p.2 t
    | none, none => True
    | _, _ => False
/-! as the hook looks at them -/
def strVs : List Value → List (List Nat) → Bool
  | [], [] => true
  | .str y _ :: vs, s :: ss => decide (y.cps.toList = s) && strVs vs ss
  | _, _ => false
theorem strVs_ok : ∀ {vs : List Value} {ss : List (List Nat)}, strVs vs ss = true → ∃ zs : List PySem.Str, Vals (zs.map V.str) vs ∧ zs.map (fun z => z.cps.toList) = ss
  | [], [], _ => ⟨[], .nil, rfl⟩
  | .str y t :: vs, s :: ss, h => by
    simp only [strVs, Bool.and_eq_true, decide_eq_true_eq] at h
    obtain ⟨zs, a, b⟩ := strVs_ok h.2
    exact ⟨y :: zs, .cons ⟨t, rfl⟩ a, by simp [h.1, b]⟩
  | [], _ :: _, h => by simp [strVs] at h
  | .none :: _, _, h => by simp [strVs] at h
  | .str _ _ :: _, [], h => by simp [strVs] at h
  | .bool _ :: _, _, h => by simp [strVs] at h
  | .int _ _ :: _, _, h => by simp [strVs] at h
  | .float _ _ :: _, _, h => by simp [strVs] at h
  | .bytes _ _ :: _, _, h => by simp [strVs] at h
  | .ref _ :: _, _, h => by simp [strVs] at h
  | .type _ :: _, _, h => by simp [strVs] at h
  | .builtin _ :: _, _, h => by simp [strVs] at h
  | .ellipsis :: _, _, h => by simp [strVs] at h
  | .notImplemented :: _, _, h => by simp [strVs] at h
def tupSB (K : PySem.W.Frag) (a : Addr) (ss : List (List Nat)) : Bool := match K.lookup a with
  | some ⟨.type c, none, .seq its _, _⟩ => decide (c = "tuple") && (decide (its.size ≤ sizeLine) && strVs its.toList ss)
  | _ => false
theorem tupSB_ok {K : PySem.W.Frag} {a : Addr} {ss : List (List Nat)} (h : tupSB K a ss = true) : KTupS K a ss := by
  unfold tupSB at h
  split at h
  · rename_i c its n sl e
    simp only [Bool.and_eq_true, decide_eq_true_eq] at h
    obtain ⟨zs, h1, h2⟩ := strVs_ok h.2.2
    exact ⟨⟨_, its, n, zs, e, by rw [h.1], rfl, rfl, h.2.1, h1, h2⟩⟩
  · cases h
def tabVs : List DictEntry → List (List Nat × Int) → Bool
  | [], [] => true
  | e :: es, p :: ps => (match e.key, e.val with
    | .str y _, .int j _ => decide (y.cps.toList = p.1) && decide (j = p.2)
    | _, _ => false) && tabVs es ps
  | _, _ => false
theorem tabVs_ok : ∀ {es : List DictEntry} {ps : List (List Nat × Int)}, tabVs es ps = true → (∀ z : PySem.Str, match ps.find? (fun p => p.1 == z.cps.toList), es.find? (·.key.isStr z) with
    | some p, some e => ∃ t, e.val = Value.int p.2 t
    | none, none => True
    | _, _ => False) ∧ es.any (·.refKey) = false
  | [], [], _ => ⟨fun _ => trivial, rfl⟩
  | [], _ :: _, h => by simp [tabVs] at h
  | _ :: _, [], h => by simp [tabVs] at h
  | e :: es, p :: ps, h => by
    obtain ⟨h1, h2⟩ := Bool.and_eq_true_iff.mp h
    obtain ⟨r1, r2⟩ := tabVs_ok h2
    split at h1
    · rename_i y t j u ek ev
      simp only [Bool.and_eq_true, decide_eq_true_eq] at h1
      refine ⟨fun z => ?_, ?_⟩
      · have q : e.key.isStr z = (p.1 == z.cps.toList) := by
          rw [ek, ← h1.1]
          show (y == z) = _
          by_cases c : y = z
          · subst c; simp
          · rw [beq_eq_false_iff_ne.mpr c]
            refine (beq_eq_false_iff_ne.mpr fun g => c ?_).symm
            cases y; cases z
            have g2 := Array.toList_inj.mp g
            simp at g2
            rw [g2]
        rw [List.find?_cons, List.find?_cons, q]
        cases (p.1 == z.cps.toList) with
        | true => exact ⟨u, by rw [ev, h1.2]⟩
        | false => exact r1 z
      · rw [List.any_cons, r2, Bool.or_false]
        show DictEntry.refKey e = false
        unfold DictEntry.refKey
        rw [ek]
    · cases h1
def tabIB (K : PySem.W.Frag) (a : Addr) (tb : List (List Nat × Int)) : Bool := match K.lookup a with
  | some ⟨_, _, .dict es _, _⟩ => tabVs es.toList tb
  | _ => false
theorem tabIB_ok {K : PySem.W.Frag} {w : World} {a : Addr} {tb : List (List Nat × Int)} (h : tabIB K a tb = true) (hd : ∃ es n, KDict K w a es n) : KTabI K w a tb := by
  refine ⟨hd, fun z => ?_⟩
  obtain ⟨es, n, D⟩ := hd
  unfold tabIB at h
  rw [D.at_] at h
  obtain ⟨r1, r2⟩ := tabVs_ok h
  have := r1 z
  unfold PySem.W.nsIn
  rw [D.at_]
  dsimp only
  cases e : es.toList.find? (·.key.isStr z) with
  | some q =>
    rw [e] at this
    cases e2 : tb.find? (fun p => p.1 == z.cps.toList) with
    | none => rw [e2] at this; exact this.elim
    | some p => rw [e2] at this; exact ⟨some q.val, rfl, this⟩
  | none =>
    rw [e] at this
    cases e2 : tb.find? (fun p => p.1 == z.cps.toList) with
    | some p => rw [e2] at this; exact this.elim
    | none => exact ⟨none, by rw [r2]; rfl, trivial⟩
section
variable {X : Cx} {G : Cfgx} {W : WX} {k : Nat}
theorem tr_ctup (ss : List (List Nat)) {x : PySem.Str} {a : Addr} {pos : Pos} (C : Cok X G W k) (hm : X.mg x = some (.ref a)) (t : KTupS X.K a ss) (hg : Gl X x := by rfl) (hd : (x == ("__debug__" : PySem.Str)) = false := by decide) : TrE X G W (.Name x pos) (eCon (.tup (ss.map D.str))) := by
  obtain ⟨o, its, n, zs, h1, h2, h3, h4, h5, h6, h7⟩ := t.at_
  exact tr_glob (v := .ref a) hm rfl (fun F => .tup (.inr ⟨o, its, n, C.hK ▸ h1, h2, h4, h5, h6⟩) (by rw [← h7]; exact reps_strs zs)) hg hd
theorem tr_indexC (ss : List (List Nat)) {x : PySem.Str} {a : Addr} {e : Expr} {m : E} {p apos cpos : Pos} (C : Cok X G W k) (hm : X.mg x = some (.ref a)) (t : KTupS X.K a ss) (h : TrE X G W e m) (hg : Gl X x := by rfl) (hd : (x == ("__debug__" : PySem.Str)) = false := by decide)
    (hbase : attributeBase (.Name x p) "index" X.env (eval (.Name x p) X.env) = eval (.Name x p) X.env := by rfl)
    (hfew : ((backTo cpos (starEach [e] X.env)).all (fun x => !x.1) && (backToKw cpos (keywordEach [] X.env)).all (fun x => x.1.isSome)
      && decide ([e].length + ([] : List Keyword).length + (if ([] : List Keyword).isEmpty then 0 else 1) < 30)) = true := by rfl)
    (hline : (apos.endLine == cpos.line) = true := by rfl) (hs : starEach [e] X.env = (false, eval e X.env) :: starEach [] X.env := by rfl) (hplain : (backTo cpos (starEach [] X.env)).any (·.1) = false := by rfl) :
    TrE X G W (.Call (.Attribute (.Name x p) "index" apos) [e] [] cpos) (eUn (fIndexC ss) m) := by
  obtain ⟨o, its, n, zs, h1, h2, h3, h4, h5, h6, h7⟩ := t.at_
  obtain ⟨u, q, d2⟩ := h
  refine ⟨_, pe_bm F.plainAttrs_tuple F.slot_tuple_index F.type_tuple_index mt_tup_index (pe_glob (v := .ref a) hg hm rfl hd) (pa_cons q pa_nil hs) hbase hfew hline hs hplain, fun F H σ S T Q st z => ?_⟩
  refine ⟨.inr (.inl ⟨rfl, o, h1, h2, h3⟩), d2.dat F H σ S T _ st (PR.bind z fun y S1 z1 => ?_)⟩
  intro v F1 H1 T1 s1 st1 r1
  have z1 : PR G W F1 H1 σ T1 (KE G F1 H1 σ T1 Q) (ofO (fIndexC ss y) S1) := PR.reE s1 z1
  cases ef : fIndexC ss y with
  | none => rw [ef] at z1; exact z1.elim
  | some kd =>
    rw [ef] at z1
    cases r1 with
    | str z =>
      have ef : ((ss.findIdx? fun s => s == z.cps.toList).bind fun j => kz (.int j)) = some kd := ef
      cases ei : ss.findIdx? fun s => s == z.cps.toList with
      | none => rw [ei] at ef; cases ef
      | some j =>
        rw [ei] at ef
        cases ef
        obtain ⟨hj, g1, g2⟩ := List.findIdx?_eq_some_iff_getElem.mp ei
        have inj : ∀ a b : PySem.Str, a.cps.toList = b.cps.toList → a = b := fun a b g => by
          cases a; cases b
          have g := Array.toList_inj.mp g
          simp at g
          rw [g]
        have lz : j < zs.length := by
          have := congrArg List.length h7
          rw [List.length_map] at this
          omega
        have at_ : ∀ (i : Nat) (hi : i < zs.length) (hs : i < ss.length), ss[i] = (zs[i]).cps.toList := fun i hi hs => by
          subst h7; simp
        refine ⟨a, zs, z, j, rfl, rfl, .inr ⟨o, its, n, h1, h2, h4, h5, h6⟩, ?_, fun i hi e => ?_, KE.val (show KE G F1 H1 σ T1 Q (.fz, .int j) S1 from z1) st1 (.int _)⟩
        · rw [List.getElem?_eq_getElem lz]
          rw [at_ j lz hj] at g1
          rw [inj _ _ (eq_of_beq g1)]
        · obtain ⟨hi2, e⟩ := List.getElem?_eq_some_iff.mp e
          have := g2 i hi
          rw [at_ i hi2 (by omega), e] at this
          simp at this
    | _ => cases ef
def tKGet2 (K : PySem.W.Frag) (w : World) (a : Addr) (ty tx : TE) : TE := fun σ H Q => ty σ H fun y H2 => tx σ H2 fun z H3 => ∃ (k : PySem.Str) (r : Option Value), y = .str k ∧ PySem.W.nsIn K a k = some r ∧ match r with
  | some u => ∃ v, RelV v u ∧ Q v H3
  | none => Q z H3
theorem pe_kget2 {x : PySem.Str} {a : Addr} {es : Array DictEntry} {n : Nat} {e f : Expr} {p apos cpos : Pos} {ty tx : TE} (D : KDict X.K X.w a es n) (hm : X.mg x = some (.ref a)) (he : PE X e ty) (hf : PE X f tx) (m : M2 X (.Name x p) "get" apos e f cpos) (hg : Gl X x) (hd : (x == ("__debug__" : PySem.Str)) = false) :
    PE X (.Call (.Attribute (.Name x p) "get" apos) [e, f] [] cpos) (tKGet2 X.K X.w a ty tx) := by
  refine ⟨fun pins s σ H Q I h => ?_⟩
  refine wpAny_Call_method m.base m.few m.line PySem.F.plainAttrs_dict PySem.F.slot_dict_get PySem.F.type_dict_get (thn ((pe_glob (v := .ref a) hg hm rfl hd).run pins s σ H (fun x H1 => x = .ref a ∧ H1 = H) I ⟨rfl, rfl⟩) fun u s1 ⟨x, H1, I1, rx, ex, eH⟩ => ?_)
  subst ex eH
  obtain rfl : u = Value.ref a := rx
  have hmap := PySem.W.mapOf_K (prog := X.prog) (w := X.w) I1.kIn D.at_ D.lit
  refine ⟨hmap.typeIs, fun b q => ?_, ?_⟩
  · cases q
    exact ⟨_, I1.kIn _ _ D.at_, rfl⟩
  rw [m.trees]
  refine Calls.callWith_builtin rfl (Calls.evalArgs_plain (Calls.spliced_cons (thn (he.run pins s1 σ H1 _ I1 h) fun iv s2 ⟨y, H2, I2, ry, q2⟩ =>
    Calls.spliced_cons (thn (hf.run pins s2 σ H2 _ I2 q2) fun fv s3 ⟨z, H3, I3, rz, k, r, ek, er, q3⟩ => Calls.spliced_nil ?_))))
  subst ek
  obtain ⟨t, rfl⟩ := ry
  have hmap3 := PySem.W.mapOf_K (prog := X.prog) (w := X.w) I3.kIn D.at_ D.lit
  refine call_meetsIn PySem.F.slot_dict_get hmap3.typeIs PySem.F.entry_dict_get (PySem.F.args_dict_get_3 _ _ _) (meets_dict_get_default (PySem.strKind X.prog X.w) a (PySem.strKind_is X.prog X.w k t) D.low fv) ⟨_, hmap3, ?_⟩
  have e2 := PySem.W.find_K D.at_ er
  simp only [e2]
  cases r with
  | some u =>
    obtain ⟨v, rv, q3⟩ := q3
    exact ⟨v, H3, I3.tok _, rv, q3⟩
  | none => exact ⟨z, H3, I3.tok _, rz, q3⟩
theorem tr_getC (tb : List (List Nat × Int)) {x : PySem.Str} {a : Addr} {e f : Expr} {m n : E} {p apos cpos : Pos} (C : Cok X G W k) (hm : X.mg x = some (.ref a)) (t : KTabI X.K X.w a tb) (h : TrE X G W e m) (h2 : TrE X G W f n) (m2 : M2 X (.Name x p) "get" apos e f cpos := by exact ⟨rfl, rfl, rfl, rfl⟩) (hg : Gl X x := by rfl) (hd : (x == ("__debug__" : PySem.Str)) = false := by decide) :
    TrE X G W (.Call (.Attribute (.Name x p) "get" apos) [e, f] [] cpos) (eOp (fGetC tb) m n) := by
  obtain ⟨es, nn, D⟩ := t.at_
  obtain ⟨u, q, d⟩ := h
  obtain ⟨u2, q2, d2⟩ := h2
  refine ⟨_, pe_kget2 D hm q q2 m2 hg hd, fun F H σ S T Q st z => d.dat F H σ S T _ st (PR.bind z fun dx S1 z1 => ?_)⟩
  intro v F1 H1 T1 s1 st1 r1
  refine d2.dat F1 H1 σ S1 T1 _ st1 (PR.bind (PR.reE s1 z1) fun dy S2 z2 => ?_)
  intro w F2 H2 T2 s2 st2 r2
  have z2 : PR G W F2 H2 σ T2 (KE G F2 H2 σ T2 Q) (ofO (fGetC tb dx dy) S2) := PR.reE s2 z2
  cases r1 with
  | str z =>
    obtain ⟨r, e1, e2⟩ := t.get z
    have z2 : PR G W F2 H2 σ T2 (KE G F2 H2 σ T2 Q) (ofO (match tb.find? fun p => p.1 == z.cps.toList with
      | some p => kz (.int p.2)
      | none => kz dy) S2) := z2
    refine ⟨z, r, rfl, e1, ?_⟩
    cases ef : tb.find? fun p => p.1 == z.cps.toList with
    | some p =>
      rw [ef] at e2 z2
      cases r with
      | none => exact e2.elim
      | some u =>
        obtain ⟨t, rfl⟩ := e2
        exact ⟨.int p.2, ⟨t, rfl⟩, KE.val (show KE G F2 H2 σ T2 Q (.fz, .int p.2) S2 from z2) st2 (.int _)⟩
    | none =>
      rw [ef] at e2 z2
      cases r with
      | some u => exact e2.elim
      | none => exact KE.val (show KE G F2 H2 σ T2 Q (.fz, dy) S2 from z2) st2 r2
  | _ => exact z2.elim
theorem den_fr {t : TE} {m : E} (hd : DenE G W t m) : DenE G W t (eFr m) := fun F H σ S T Q st p => by
  refine hd F H σ S T Q st (PR.bind (f := fun kd => M.pure ((.fz, kd.2) : KD)) p fun kd S1 q => KDt.freeze fun v F' H' T' s' st' r => ?_)
  exact (show KE G F H σ T Q (.fz, kd.2) S1 from q) v F' H' T' nil0 (s'.castR fun a => rfl) st' (.fz r) (fun a => st'.le a) fun _ _ => rfl
theorem tr_setLcF (i : Nat) {y : PySem.Str} {py : Pos} {elt tg iter : Expr} {ifs : List Expr} {scope : Scope} {own : List (PySem.Str × Nat)} {pos spos : Pos} {it : It} {t : Tg} {c : T} {e : E} (C : Cok X G W k) (hi : TrI X G W tg iter it) (ok : BlkOk X.N X.env.scope scope own)
    (hg : ∀ (s : Shared) (H : Hp) (C : Addr) (cl : List (PySem.Str × Addr)) (fp : List Addr), TrG (X.blk s H scope (compEnvC scope cl C X.env) fp) G tg t)
    (ht : ∀ (s : Shared) (H : Hp) (C : Addr) (cl : List (PySem.Str × Addr)) (fp : List Addr), Cok (X.blk s H scope (compEnvC scope cl C X.env) fp) G W0 k → TrTs (X.blk s H scope (compEnvC scope cl C X.env) fp) G W0 ifs c)
    (he : ∀ (s : Shared) (H : Hp) (C : Addr) (cl : List (PySem.Str × Addr)) (fp : List Addr), Cok (X.blk s H scope (compEnvC scope cl C X.env) fp) G W0 k → TrE (X.blk s H scope (compEnvC scope cl C X.env) fp) G W0 elt e)
    (hsw : swapsWith (.ListComp elt [⟨tg, iter, ifs, 0⟩] scope pos) (some (.Name y py)) spos.line X.env = pure true)
    (hy : X.N[i]? = some y := by rfl) (hyl : X.env.scope.names.lookup y = some .local := by rfl) (hs : ∀ x, foldedSetIterable iter X.env x = pure x := by intro _; rfl) (hpn : (own.map (·.2)).all (fun v => !G.pk.contains v) = true := by rfl) (hp : G.pk.contains i = false := by rfl) :
    TrS X G W (.Assign [.Name y py] (.ListComp elt [⟨tg, iter, ifs, 0⟩] scope pos) spos) (sSet i (eFr (eLc it t (own.map (·.2)) c e))) := by
  obtain ⟨wi, p, d⟩ := hi
  have cb : ∀ (s : Shared) (H : Hp) (A : Addr) (cl : List (PySem.Str × Addr)) (fp : List Addr), Cok (X.blk s H scope (compEnvC scope cl A X.env) fp) G W0 k := fun s H A cl fp => ⟨C.hK, takesN0, PassesOwn.never, C.calm, C.room, C.nd⟩
  refine ⟨_, ps_setLc C.calm C.nd hy hyl hsw p ok (fun s H A cl fp => (hg s H A cl fp).can) (fun s H A cl fp => ht s H A cl fp (cb s H A cl fp)) (fun s H A cl fp => (he s H A cl fp (cb s H A cl fp)).can) hs, fun F H σ S T D st z => den_fr (den_lc (W := W) (pins_ok hpn) d) F H σ S T _ st (PRs.bind z fun kd S1 y => ?_)⟩
  obtain ⟨kk, dd⟩ := kd
  intro v F' H' T' f s' st' o le di
  show D.nx (σ.set i (some v)) H'
  have y : PRs G W F H T (KS G F H T D) (if i < S1.length then .ok .nx (S1.set i (some (kk, dd))) else .bad) := y
  by_cases hl : i < S1.length
  · rw [if_pos hl] at y
    obtain ⟨T2, st2, l2⟩ := st'.set hl (pin_ok hp) o le di
    exact (show KS G F H T D .nx _ from y) _ F' H' T2 (s'.less l2) st2
  · rw [if_neg hl] at y; exact y.elim
end
end TB

/-! TbX3: sorted(d.items()). -/
namespace TB
open PySem L2 PyProof.Rows
def keyPy : Key → PyData
  | .inl i => .int i
  | .inr z => .str z
def pairPy (k : Key) (d : PyData) : PyData := .tuple [keyPy k, d]
theorem paired_nodup {α β γ : Type} {P : α → β → Prop} {f : β → γ} (inj : ∀ t b c, P t b → P t c → f b = f c) : ∀ {ts : List α} {bs : List β}, Paired P ts bs → (bs.map f).Nodup → ts.Nodup
  | _, _, .nil, _ => List.nodup_nil
  | _, _, .cons (a := t) (b := b) h r, n => by
    rw [List.map_cons, List.nodup_cons] at n
    refine List.nodup_cons.mpr ⟨fun m => n.1 ?_, paired_nodup inj r n.2⟩
    obtain ⟨j, c, e1, e2, e3⟩ := LiI.paired_ix r m
    exact List.mem_map.mpr ⟨c, List.mem_of_getElem? e2, inj _ _ _ e3 h⟩
theorem each_ix {α β : Type} {R : α → β → Prop} : ∀ {as : List α} {bs : List β}, as.length = bs.length → (∀ (j : Nat) a b, as[j]? = some a → bs[j]? = some b → R a b) → PySem.W.EachIs R as bs
  | [], [], _, _ => .nil
  | [], _ :: _, h, _ => by simp at h
  | _ :: _, [], h, _ => by simp at h
  | a :: as, b :: bs, h, f => .cons (f 0 a b rfl rfl) (each_ix (by simpa using h) fun j a b x y => f (j + 1) a b x y)
section
variable {X : Cx} {pins : List (Addr × Obj)} {σ : L2.St} {H : Hp} {s : Shared}
/-- pairs, a list of them, laid -/
theorem laid_many {h2 : Heap} {tk : Nat} {at1 : Addr} {ts : List Addr} {kvs : List (Key × V)} (I : Inv X pins σ H s) (hk : ∀ b o, s.heap.get? b = some o → h2.get? b = some o) (low : ∀ t, t = at1 ∨ t ∈ ts → s.heap.get? t = none ∧ H t = none) (Dn : at1 ∉ ts) (nd : ts.Nodup) (hz : ts.length ≤ sizeLine)
    (objD : ∃ its n, Vals (ts.map V.ref) its ∧ h2.get? at1 = some (seqObj "list" its.toArray n)) (objT : Paired (fun t (q : Key × V) => ∃ ku vu, RelV (kV q.1) ku ∧ RelV q.2 vu ∧ h2.get? t = some { cls := .type "tuple", data := .seq #[ku, vu] }) ts kvs) :
    ∃ H2 : Hp, (∀ b o, H b = some o → H2 b = some o) ∧ H2 at1 = some (.lst (ts.map V.ref)) ∧ Paired (fun t (q : Key × V) => H2 t = some (.tup [kV q.1, q.2])) ts kvs ∧ Inv X pins σ H2 { s with heap := h2, toks := tk } := by
  have pl : ts.length = kvs.length := Paired.length objT
  have newD : H at1 = none := (low _ (.inl rfl)).2
  have pt := LiI.putT_at ts kvs (upd H at1 (.lst (ts.map V.ref))) pl nd
  have off : ∀ b, b ∉ ts → b ≠ at1 → LiI.putT (upd H at1 (.lst (ts.map V.ref))) ts kvs b = H b := fun b x y => by rw [LiI.putT_off ts kvs _ x, upd_ne y]
  have kp : ∀ b u, H b = some u → LiI.putT (upd H at1 (.lst (ts.map V.ref))) ts kvs b = some u := fun b u e => by
    rw [off b (fun z => by rw [(low b (.inr z)).2] at e; cases e) (fun z => by rw [z, newD] at e; cases e)]; exact e
  have eD : LiI.putT (upd H at1 (.lst (ts.map V.ref))) ts kvs at1 = some (.lst (ts.map V.ref)) := by rw [LiI.putT_off ts kvs _ Dn, upd_same]
  refine ⟨LiI.putT (upd H at1 (.lst (ts.map V.ref))) ts kvs, kp, eD, pt, ?_⟩
  refine I.call' (ch := []) rfl ⟨fun b o q _ _ _ => hk b o q, fun b o q _ _ _ => ⟨o.slots, hk b o q⟩, fun b o q n _ => ?_, fun b o q _ => ⟨o, hk b o q⟩, fun b xs q => kp b _ q, fun b o u q => kp b _ q, fun b ps q => ⟨#[], by rw [kp b _ q]; simp⟩⟩ (fun b u q => ?_) I.bare fun b z => by simp at z
  · rw [off b (fun z => by have := (low b (.inr z)).1; rw [q] at this; cases this) (fun z => by have := (low b (.inl z)).1; rw [q] at this; cases this)]
    exact n
  · by_cases hb : b ∈ ts
    · obtain ⟨j, pk, e1, e2, e3⟩ := LiI.paired_ix pt hb
      rw [e3] at q
      cases q
      obtain ⟨q2, g1, ku, vu, r1, r2, g⟩ := LiI.paired_get objT e1
      rw [e2] at g1
      cases g1
      exact ⟨by show 2 ≤ sizeLine; decide, [ku, vu], .cons r1 (.cons r2 .nil), ⟨_, g, rfl, _, rfl⟩⟩
    · by_cases hb2 : b = at1
      · rw [hb2] at q ⊢
        rw [eD] at q
        cases q
        obtain ⟨its, n, r, g⟩ := objD
        exact ⟨by rw [List.length_map]; exact hz, its, n, r, g⟩
      · rw [off b hb hb2] at q
        exact (I.hok b u q).stay (fun d v _ y => hk d v y) (fun d y => kp d _ y) fun d xs y => kp d _ y
end
section
variable {X : Cx} {G : Cfgx} {W : WX} {k : Nat}
def tSortItems (K : PySem.W.Frag) (te : TE) : TE := fun σ H Q => te σ H fun x H1 => ∃ (d : Addr) (bs : List ((Key × V) × PyData)), x = V.ref d ∧ Rd H1 d (.dK (bs.map (·.1))) ∧ (∀ b ∈ bs, ∃ dv, Dp K H1 b.1.2 dv ∧ b.2 = pairPy b.1.1 dv) ∧ PySem.W.AllAlike (bs.map (·.2)) ∧ (∀ b ∈ bs, b.2.depth ≤ 60) ∧
  ∀ (H2 : Hp) (p : Addr) (ts : List Addr), (∀ b o, H1 b = some o → H2 b = some o) → H1 p = none → H2 p = some (.lst (ts.map V.ref)) → Paired (fun (t : Addr) (q : Key × V) => H2 t = some (.tup [kV q.1, q.2])) ts ((bs.mergeSort (PySem.W.dataLe false (·.2))).map (·.1)) → Q (.ref p) H2
theorem key_reads {h : Heap} {kx : Key} {u : Value} (r : RelV (kV kx) u) : Reads h u (keyPy kx) [] := by
  cases kx with
  | inl i => obtain ⟨t, rfl⟩ := r; exact .int i t
  | inr z => obtain ⟨t, rfl⟩ := r; exact .str z t
theorem key_inj {a b : Key} {u : Value} (r : RelV (kV a) u) (q : RelV (kV b) u) : a = b := by
  cases a with
  | inl i =>
    obtain ⟨t, rfl⟩ := r
    cases b with
    | inl j => obtain ⟨t', e⟩ := q; cases e; rfl
    | inr z => obtain ⟨t', e⟩ := q; cases e
  | inr z =>
    obtain ⟨t, rfl⟩ := r
    cases b with
    | inl j => obtain ⟨t', e⟩ := q; cases e
    | inr y => obtain ⟨t', e⟩ := q; cases e; rfl
theorem pe_sortItems {e : Expr} {te : TE} {p apos cpos pos : Pos} (C : Cok X G W k) (he : PE X e te) (hg : Gl X "sorted") (hm : X.mg "sorted" = none) (hbase : attributeBase e "items" X.env (eval e X.env) = eval e X.env := by rfl) (hline : (apos.endLine == cpos.line) = true := by rfl)
    (hs : starEach [.Call (.Attribute e "items" apos) [] [] cpos] X.env = (false, eval (.Call (.Attribute e "items" apos) [] [] cpos) X.env) :: starEach [] X.env := by rfl) :
    PE X (.Call (.Name "sorted" p) [.Call (.Attribute e "items" apos) [] [] cpos] [] pos) (tSortItems X.K te) := by
  refine ⟨fun pins s σ H Q I hq => ?_⟩
  have un := C.room.un
  refine Call_ (ld_blt I hg hm (by rfl : bootBuiltins "sorted" = some (.builtin "sorted")) (PyProof.Rows.callWith_builtin1 (PyProof.Rows.args_cons ?_ hs) hs rfl))
  refine wpAny_Call_method (T := "dict") (id := "dict.items") hbase rfl hline F.plainAttrs_dict F.slot_dict_items F.type_dict_items (thn (he.run pins s σ H _ I hq) fun u s1 ⟨x, H1, I1, rx, d, bs, ex, hd, hv, hal, hdp, q⟩ => ?_)
  subst ex
  obtain rfl : u = Value.ref d := rx
  obtain ⟨hz, hlow, vs, kv, hdo⟩ := dk_rd I1.hok hd
  rw [List.length_map] at hz
  obtain ⟨es, ep, raw, esz, eat⟩ := hdo.raw
  have lk : bs.length = vs.length := by have := Paired.length kv; rwa [List.length_map] at this
  refine ⟨hdo.typeIs, hdo.mapOf.noDict, ?_⟩
  refine method_meetsIn F.slot_dict_items F.entry_dict_items rfl (PySem.evalArgs_none ⟨rfl, hdo.typeIs, F.args_dict_items_1 _, _, meets_dict_items (mixKind X.prog X.w) d hlow, ⟨vs, hdo⟩, ?_⟩)
  refine PyProof.Rows.args_nil ?_
  have I2 : Inv X pins σ H1 { s1 with heap := s1.heap.push { cls := .type "dict_items", data := .fields #[.ref d] } } := I1.kept (t' := s1.toks) fun b ob q => Heap.get?_push_of_some _ q
  refine Calls.call_function_entry kind_sorted plain_sorted entry_sorted (args_sorted1 _) ?_
  unfold Builtin.«sorted»
  refine wpAny_bind (m := checkCount "sorted" 1 1 _) (wpAny_pure ?_)
  refine wpAny_bind (PySem.W.dil_collect (A := X.A.in1) (es := es) (ep := ep) (d := d) C.room.hd ⟨_, Heap.get?_push_size _ rfl, rfl, rfl⟩ (raw.push _) (by omega) fun h2 tk as keep al g => ?_)
  have keep1 : ∀ b o, s1.heap.get? b = some o → h2.get? b = some o := fun b o e => keep b o (Heap.get?_push_of_some _ e)
  have all : as.length = bs.length := by omega
  refine wpAny_bind (wpAny_newList ?_ (by rw [List.length_map]; omega))
  -- what stands at the pairs
  have ent : ∀ (j : Nat) a b, as[j]? = some a → bs[j]? = some b → ∃ ku vu, RelV (kV b.1.1) ku ∧ RelV b.1.2 vu ∧ h2.get? a = some { cls := .type "tuple", data := .seq #[ku, vu] } := fun j a b ea eb => by
    obtain ⟨hj, ga⟩ := g.pairs j a ea
    have ek : (bs.map (·.1))[j]? = some b.1 := by rw [List.getElem?_map, eb]; rfl
    obtain ⟨qv, g1, g2, g3⟩ := LiI.paired_get kv ek
    obtain ⟨k1, k2⟩ := eat j hj qv.1 qv.2 g1
    exact ⟨es[j].key, es[j].val, by rw [g2]; exact relV_key (show keyIs qv.1 es[j].key = true from k1), by rw [k2]; exact g3, ga⟩
  let R0 : Value → (Key × V) × PyData → Prop := fun u b => ∃ a ku vu, u = Value.ref a ∧ a ∈ as ∧ RelV (kV b.1.1) ku ∧ RelV b.1.2 vu ∧ h2.get? a = some { cls := .type "tuple", data := .seq #[ku, vu] }
  have e1 : PySem.W.EachIs R0 (as.map Value.ref) bs := each_ix (by rw [List.length_map]; exact all) fun j u b eu eb => by
    rw [List.getElem?_map] at eu
    cases ea : as[j]? with
    | none => rw [ea] at eu; cases eu
    | some a =>
      rw [ea] at eu
      cases eu
      obtain ⟨ku, vu, r1, r2, r3⟩ := ent j a b ea eb
      exact ⟨a, ku, vu, rfl, List.mem_of_getElem? ea, r1, r2, r3⟩
  have ho : (h2.push { cls := .type "list", data := .seq (as.map Value.ref).toArray }).get? h2.objs.size = some (seqObj "list" (as.map Value.ref).toArray 0) := Heap.get?_push_size _ rfl
  have e2 : PySem.W.EachIs (fun u (b : (Key × V) × PyData) => ∃ ls, Reads (h2.push { cls := .type "list", data := .seq (as.map Value.ref).toArray }) u b.2 ls ∧ h2.objs.size ∉ ls) (as.map Value.ref) bs := each_ix (by rw [List.length_map]; exact all) fun j u b eu eb => by
    rw [List.getElem?_map] at eu
    cases ea : as[j]? with
    | none => rw [ea] at eu; cases eu
    | some a =>
      rw [ea] at eu
      cases eu
      obtain ⟨ku, vu, r1, r2, r3⟩ := ent j a b ea eb
      obtain ⟨dv, hdv, eb2⟩ := hv b (List.mem_of_getElem? eb)
      obtain ⟨ls, rd⟩ := Dp.reads I1 dv _ _ hdv r2
      have rd2 := PyProof.Rows.Reads.keeps keep1 rd
      have rt : Reads h2 (.ref a) b.2 ([] ++ (ls ++ [])) := by rw [eb2]; exact .tuple r3 rfl rfl (.cons (key_reads r1) (.cons rd2 .nil))
      exact ⟨_, PyProof.Rows.Reads.keeps (fun _ _ e => Heap.get?_push_of_some _ e) rt, fun m => absurd (reads_lt rt _ m) (Nat.lt_irrefl _)⟩
  have tup : PySem.W.Sortable (bs.map (·.2)) := .inl fun y hy => by
    obtain ⟨b, hb, rfl⟩ := List.mem_map.mp hy
    obtain ⟨dv, _, eb2⟩ := hv b hb
    exact ⟨keyPy b.1.1, [dv], eb2⟩
  refine wpAny_bind (wpAny_holding (PySem.W.list_sort_data (enc := fun b : (Key × V) × PyData => b.2) (n := 0) ho e1 e2 hal tup (by omega) (fun b hb => by have := hdp b hb; show X.A.units + 1 + 1 + _ < _; omega) fun out hout heach => ?_))
  obtain ⟨n, hn⟩ := sortedHeap_at (out := List.toArray out) ho
  -- the pairs in their order
  have tsx : ∀ {us : List Value} {cs : List ((Key × V) × PyData)}, PySem.W.EachIs R0 us cs → ∃ ts : List Addr, us = ts.map Value.ref ∧ (∀ t ∈ ts, t ∈ as) ∧ Paired (fun t (c : (Key × V) × PyData) => ∃ ku vu, RelV (kV c.1.1) ku ∧ RelV c.1.2 vu ∧ h2.get? t = some { cls := .type "tuple", data := .seq #[ku, vu] }) ts cs := by
    intro us cs ee
    induction ee with
    | nil => exact ⟨[], rfl, (fun t ht => by cases ht), .nil⟩
    | cons r _ ih =>
      obtain ⟨ts, i1, i2, i3⟩ := ih
      obtain ⟨a, ku, vu, rfl, am, r1, r2, r3⟩ := r
      exact ⟨a :: ts, by rw [i1]; rfl, (fun t ht => by
        rcases List.mem_cons.mp ht with rfl | ht
        · exact am
        · exact i2 t ht), .cons ⟨ku, vu, r1, r2, r3⟩ i3⟩
  obtain ⟨ts, o1, o2, o3⟩ := tsx heach
  have above : ∀ t ∈ as, s1.heap.objs.size < t := fun t ht => by
    have := g.above t ht
    rw [Heap.size_push] at this
    exact Nat.lt_trans (Nat.lt_succ_self _) this
  have lt2 : ∀ t ∈ as, t < h2.objs.size := fun t ht => g.there ht
  have none_of : ∀ b, s1.heap.objs.size ≤ b → s1.heap.get? b = none := fun b hb => by
    cases q : s1.heap.get? b with
    | none => rfl
    | some o => exact absurd (Nat.lt_of_lt_of_le (Heap.lt_size q) hb) (Nat.lt_irrefl _)
  have big : s1.heap.objs.size ≤ h2.objs.size := Nat.le_of_lt (Heap.lt_size (keep _ _ (Heap.get?_push_size s1.heap rfl)))
  have fin : ∀ b o, h2.get? b = some o → (sortedHeap (h2.push { cls := .type "list", data := .seq (as.map Value.ref).toArray }) h2.objs.size (as.map Value.ref) (List.toArray out)).get? b = some o := fun b o e => by
    rw [sortedHeap_old (Nat.ne_of_lt (Heap.lt_size e)) (by rw [size_push']; exact Nat.lt_succ_of_lt (Heap.lt_size e))]
    exact Heap.get?_push_of_some _ e
  have kn : ((bs.mergeSort (PySem.W.dataLe false (·.2))).map fun b => b.1.1).Nodup := by
    have p1 := (List.mergeSort_perm bs (PySem.W.dataLe false (·.2))).map fun b => b.1.1
    refine p1.nodup_iff.mpr ?_
    obtain ⟨_, _, _, _, _, _, _, _, nd⟩ := hdo
    have : bs.map (fun b => b.1.1) = vs.map (·.1) := by
      have e : ∀ {as : List (Key × V)} {vs : List (Key × Value)}, KV as vs → as.map (·.1) = vs.map (·.1) := by
        intro as vs r
        unfold KV at r
        induction r with
        | nil => rfl
        | cons a _ ih => rw [List.map_cons, List.map_cons, ih, a.1]
      have := e kv
      rwa [List.map_map] at this
    rw [this]; exact nd
  have nd : ts.Nodup := paired_nodup (f := fun c : (Key × V) × PyData => c.1.1) (fun t b c ⟨ku, vu, r1, _, r3⟩ ⟨ku2, vu2, q1, _, q3⟩ => by
    rw [r3] at q3
    injection q3 with q3
    injection q3 with _ _ q3 _
    injection q3 with q3 _
    have : ku = ku2 := by
      have := congrArg (fun a : Array Value => a[0]?) q3
      simpa using this
    subst this
    exact key_inj r1 q1) o3 kn
  have objT : Paired (fun t (q : Key × V) => ∃ ku vu, RelV (kV q.1) ku ∧ RelV q.2 vu ∧ (sortedHeap (h2.push { cls := .type "list", data := .seq (as.map Value.ref).toArray }) h2.objs.size (as.map Value.ref) (List.toArray out)).get? t = some { cls := .type "tuple", data := .seq #[ku, vu] }) ts ((bs.mergeSort (PySem.W.dataLe false (·.2))).map (·.1)) := by
    have e : ∀ {ts : List Addr} {cs : List ((Key × V) × PyData)}, Paired (fun t (c : (Key × V) × PyData) => ∃ ku vu, RelV (kV c.1.1) ku ∧ RelV c.1.2 vu ∧ h2.get? t = some { cls := .type "tuple", data := .seq #[ku, vu] }) ts cs →
        Paired (fun t (q : Key × V) => ∃ ku vu, RelV (kV q.1) ku ∧ RelV q.2 vu ∧ (sortedHeap (h2.push { cls := .type "list", data := .seq (as.map Value.ref).toArray }) h2.objs.size (as.map Value.ref) (List.toArray out)).get? t = some { cls := .type "tuple", data := .seq #[ku, vu] }) ts (cs.map (·.1)) := by
      intro ts cs r
      induction r with
      | nil => exact .nil
      | cons a _ ih =>
        obtain ⟨ku, vu, r1, r2, r3⟩ := a
        exact .cons ⟨ku, vu, r1, r2, fin _ _ r3⟩ ih
    exact e o3
  have tl : ts.length ≤ sizeLine := by
    have := Paired.length o3
    rw [List.length_mergeSort] at this
    omega
  obtain ⟨H2, w1, w2, w3, J⟩ := laid_many (tk := tk) (at1 := h2.objs.size) I1 (fun b o e => fin b o (keep1 b o e)) (fun t ht => by
      have le : s1.heap.objs.size ≤ t := by
        rcases ht with rfl | ht
        · exact big
        · exact Nat.le_of_lt (above t (o2 t ht))
      exact ⟨none_of t le, I1.hok.fresh le⟩) (fun m => absurd (lt2 _ (o2 _ m)) (Nat.lt_irrefl _)) nd tl ⟨out, n, by rw [o1]; exact LiI.vals_refs ts, hn⟩ objT
  exact wpAny_pure ⟨_, rfl, .ref h2.objs.size, H2, J, rfl, q H2 _ ts w1 (I1.hok.fresh big) w2 w3⟩

theorem kv_items {F : Hp} : ∀ {kvs : List (Key × V)} {kds : List (D × D)}, kds.map (·.1) = kvs.map (fun p => keyD p.1) → Reps G F (kvs.map (·.2)) (kds.map (·.2)) → kds.length = kvs.length ∧ ∀ p ∈ kvs.zip kds, p.2.1 = keyD p.1.1 ∧ Rep G F p.1.2 p.2.2
  | [], [], _, _ => ⟨rfl, fun p h => by simp at h⟩
  | [], _ :: _, h, _ => by simp at h
  | _ :: _, [], h, _ => by simp at h
  | a :: kvs, b :: kds, h, r => by
    obtain ⟨h1, h2⟩ := List.cons.inj (show b.1 :: kds.map (·.1) = keyD a.1 :: kvs.map (fun p => keyD p.1) from h)
    cases r with
    | cons r1 r2 =>
      obtain ⟨l, f⟩ := kv_items h2 r2
      refine ⟨by simp [l], fun p hp => ?_⟩
      rw [List.zip_cons_cons] at hp
      rcases List.mem_cons.mp hp with rfl | hp
      · exact ⟨h1, r1⟩
      · exact f p hp
theorem rep_key {F : Hp} (kx : Key) : Rep G F (kV kx) (keyD kx) := by
  cases kx with
  | inl i => exact .int i
  | inr z => exact .str z
theorem py_key (kx : Key) : toPy (keyD kx) = keyPy kx := by
  cases kx with
  | inl i => rfl
  | inr z =>
    show PyData.str _ = PyData.str _
    congr 1
theorem reps_pairs {F : Hp} : ∀ {ts : List Addr} {zs : List ((Key × V) × (D × D))}, Paired (fun (t : Addr) (q : Key × V) => F t = some (.tup [kV q.1, q.2])) ts (zs.map (·.1)) → (∀ p ∈ zs, p.2.1 = keyD p.1.1 ∧ Rep G F p.1.2 p.2.2) → Reps G F (ts.map V.ref) (zs.map fun p => pairD p.2)
  | [], [], _, _ => .nil
  | [], _ :: _, h, _ => by cases h
  | _ :: _, [], h, _ => by cases h
  | t :: ts, z :: zs, h, f => by
    cases h with
    | cons h1 h2 =>
      obtain ⟨e1, e2⟩ := f z List.mem_cons_self
      refine .cons (.tup (.inl (.inl h1)) (.cons ?_ (.cons e2 .nil))) (reps_pairs h2 fun p hp => f p (List.mem_cons_of_mem _ hp))
      rw [e1]; exact rep_key _
theorem paired_mono {α β : Type} {P Q : α → β → Prop} (h : ∀ a b, P a b → Q a b) : ∀ {as : List α} {bs : List β}, Paired P as bs → Paired Q as bs
  | _, _, .nil => .nil
  | _, _, .cons a r => .cons (h _ _ a) (paired_mono h r)
mutual
theorem lay_up : ∀ (n : Nat) (d : D), d.lay n = true → d.lay (n + 1) = true
  | _, .non, _ => by simp [D.lay]
  | _, .bl _, _ => by simp [D.lay]
  | _, .int _, _ => by simp [D.lay]
  | _, .str s, h => by
    have h : s.all (· < 1114112) = true := by simpa [D.lay] using h
    simpa [D.lay] using h
  | n + 1, .lst xs, h => by
    have h : D.lays n xs = true := by simpa [D.lay] using h
    show D.lays (n + 1) xs = true
    exact lays_up n xs h
  | n + 1, .tup xs, h => by
    have h : D.lays n xs = true := by simpa [D.lay] using h
    show D.lays (n + 1) xs = true
    exact lays_up n xs h
  | 0, .lst _, h => by simp [D.lay] at h
  | 0, .tup _, h => by simp [D.lay] at h
  | _, .scr _, h => by simp [D.lay] at h
  | _, .dic _, h => by simp [D.lay] at h
  | _, .dit _, h => by simp [D.lay] at h
  | _, .ob _ _, h => by simp [D.lay] at h
  | _, .fn _, h => by simp [D.lay] at h
theorem lays_up : ∀ (n : Nat) (ds : List D), D.lays n ds = true → D.lays (n + 1) ds = true
  | _, [], _ => by simp [D.lays]
  | n, x :: xs, h => by
    simp only [D.lays, Bool.and_eq_true] at h
    simp only [D.lays, Bool.and_eq_true]
    exact ⟨lay_up n x h.1, lays_up n xs h.2⟩
end
theorem tr_sortItems {e : Expr} {m : E} {p apos cpos pos : Pos} (C : Cok X G W k) (h : TrE X G W e m) (hm : X.mg "sorted" = none) (hg : Gl X "sorted" := by rfl) (hbase : attributeBase e "items" X.env (eval e X.env) = eval e X.env := by rfl) (hline : (apos.endLine == cpos.line) = true := by rfl)
    (hs : starEach [.Call (.Attribute e "items" apos) [] [] cpos] X.env = (false, eval (.Call (.Attribute e "items" apos) [] [] cpos) X.env) :: starEach [] X.env := by rfl) :
    TrE X G W (.Call (.Name "sorted" p) [.Call (.Attribute e "items" apos) [] [] cpos] [] pos) (eUn fSortItems m) := by
  obtain ⟨t, q, d⟩ := h
  refine ⟨_, pe_sortItems C q hg hm hbase hline hs, fun F H σ S T Q st z => d.dat F H σ S T _ st (PR.bind z fun y S1 z1 => ?_)⟩
  intro v F1 H1 T1 s1 st1 r1
  have z1 : PR G W F1 H1 σ T1 (KE G F1 H1 σ T1 Q) (ofO (fSortItems y) S1) := PR.reE s1 z1
  cases r1 with
  | @dK a kvs kds hd hk hr =>
    have z1 : PR G W F1 H1 σ T1 (KE G F1 H1 σ T1 Q) (ofO (if (alkAll (kds.map pairD) && D.lays 60 (kds.map pairD)) = true then some (.li .fz, .lst (sortD (kds.map pairD))) else none) S1) := z1
    split at z1
    · rename_i hz
      have z1 : KE G F1 H1 σ T1 Q (.li .fz, .lst (sortD (kds.map pairD))) S1 := z1
      obtain ⟨h2, h3⟩ := Bool.and_eq_true_iff.mp hz
      obtain ⟨hl, hf⟩ := kv_items hk hr
      let zs := kvs.zip kds
      let enc : (Key × V) × (D × D) → (Key × V) × PyData := fun p => (p.1, toPy (pairD p.2))
      have ez1 : zs.map (·.1) = kvs := zip_fst hl.symm
      have ez2 : zs.map (·.2) = kds := zip_snd hl.symm
      have eb1 : (zs.map enc).map (·.1) = kvs := by rw [List.map_map]; exact ez1
      have eb2 : (zs.map enc).map (·.2) = (kds.map pairD).map toPy := by
        have : (zs.map enc).map (·.2) = ((zs.map (·.2)).map pairD).map toPy := by rw [List.map_map, List.map_map, List.map_map]; rfl
        rw [this, ez2]
      have inz : ∀ p ∈ zs, pairD p.2 ∈ kds.map pairD := fun p hp => List.mem_map.mpr ⟨p.2, by rw [← ez2]; exact List.mem_map.mpr ⟨p, hp, rfl⟩, rfl⟩
      refine ⟨a, zs.map enc, rfl, by rw [eb1]; exact same_rd st1.sub hd, ?_, ?_, ?_, fun H2 pp ts keep hp hl2 pt => ?_⟩
      · intro b hb
        obtain ⟨p, hp, rfl⟩ := List.mem_map.mp hb
        obtain ⟨e1, e2⟩ := hf p hp
        have ly := lays_mem h3 _ (inz p hp)
        have lv : p.2.2.lay 60 = true := by
          have ly : (D.tup [p.2.1, p.2.2]).lay 60 = true := ly
          simp only [D.lay, D.lays, Bool.and_eq_true] at ly
          exact lay_up 59 _ ly.2.1
        refine ⟨toPy p.2.2, C.hK ▸ dp_of 60 _ _ lv (e2.mono st1.sub), ?_⟩
        show toPy (.tup [p.2.1, p.2.2]) = _
        rw [e1]
        show PyData.tuple [toPy (keyD _), toPy _] = _
        rw [py_key]; rfl
      · rw [eb2]
        intro d hd d' hd'
        obtain ⟨x, hx, rfl⟩ := List.mem_map.mp hd
        obtain ⟨y, hyy, rfl⟩ := List.mem_map.mp hd'
        exact alk_py x y (alkAll_ok h2 x hx y hyy)
      · intro b hb
        obtain ⟨p, hp, rfl⟩ := List.mem_map.mp hb
        exact (lay_py 60 _ (lays_mem h3 _ (inz p hp))).2
      · have m1 : (zs.mergeSort fun p q => leD (pairD p.2) (pairD q.2)).map enc = (zs.map enc).mergeSort (PySem.W.dataLe false (·.2)) := by
          refine List.map_mergeSort fun p hp q hq => ?_
          rw [PySem.W.dataLe_eq]
          show leD (pairD p.2) (pairD q.2) = !PySem.W.dataLt (toPy (pairD q.2)) (toPy (pairD p.2))
          rw [lt_py 60 60 _ _ (alkAll_ok h2 _ (inz q hq) _ (inz p hp)) (lays_mem h3 _ (inz q hq)) (lays_mem h3 _ (inz p hp))]
          rfl
        have m2 : (zs.mergeSort fun p q => leD (pairD p.2) (pairD q.2)).map (fun p => pairD p.2) = sortD (kds.map pairD) := by
          have := List.map_mergeSort (r := fun p q : (Key × V) × (D × D) => leD (pairD p.2) (pairD q.2)) (s := leD) (f := fun p => pairD p.2) (l := zs) fun p hp q hq => rfl
          rw [this]
          unfold sortD
          congr 1
          rw [← ez2, List.map_map]; rfl
        rw [← m1] at pt
        have pt : Paired (fun (t : Addr) (q : Key × V) => H2 t = some (.tup [kV q.1, q.2])) ts ((zs.mergeSort fun p q => leD (pairD p.2) (pairD q.2)).map (·.1)) := by
          rw [List.map_map] at pt; exact pt
        have sHH : Same H1 H2 := fun a o h => keep a o h
        obtain ⟨sF, st2, s2⟩ := st1.exT sHH
        have fp : TB.exT F1 H2 pp = none := by
          cases q : TB.exT F1 H2 pp with
          | none => rfl
          | some o =>
            exfalso
            rcases exT_some q with q | ⟨_, q, tp⟩
            · have := st1.sub _ _ q; rw [hp] at this; cases this
            · rw [hl2] at tp; rcases tp with ⟨_, e⟩ | ⟨_, _, e⟩ <;> cases e
        have tp0 : T1 pp = 0 := Decidable.byContradiction fun n => st1.there pp n hp
        have rs : Reps G (TB.exT F1 H2) (ts.map V.ref) (sortD (kds.map pairD)) := by
          rw [← m2]
          refine reps_pairs (paired_mono (fun t q e => exT_of sF e (.inl ⟨_, e⟩)) pt) fun p hp => ?_
          obtain ⟨e1, e2⟩ := hf p ((List.mergeSort_perm _ _).mem_iff.mp hp)
          exact ⟨e1, e2.mono s2.sF⟩
        have le1 : ∀ a, T1 a + (add (one pp) nil0) a ≤ 1 := fun a => by
          by_cases q : a = pp
          · subst q; simp [add, one, nil0, tp0]
          · have := st1.le a; simp [add, one, nil0, q]; exact this
        have nt : ∀ a, (add T1 (add (one pp) nil0)) a ≠ 0 → T1 a ≠ 0 ∨ H1 a = none := fun a n => by
          by_cases q : a = pp
          · rw [q]; exact .inr hp
          · refine .inl fun e => n ?_
            show T1 a + (one pp a + 0) = 0
            rw [e]; simp [one, q]
        refine z1 (.ref pp) (TB.exT F1 H2) H2 T1 (add (one pp) nil0) ⟨s2.sF, s2.fr, nt, s2.nF, s2.tl⟩ st2 (.li hl2 (owns_fz rs)) le1 fun a n => ?_
        by_cases q : a = pp
        · subst q; exact absurd fp n
        · simp [add, one, nil0, q]
    · exact z1.elim
  | _ => exact z1.elim
end
end TB

/-! TbX4: one rule per operator (printed by gen/mk4.py). -/
namespace TB
open PySem PySem.Spec PyProof.Rows L2
section
variable {X : Cx} {G : Cfgx} {W : WX} {k : Nat}
theorem Cok.u64 (C : Cok X G W k) : X.A.units + 64 < cLine := by have := C.room.un; omega
theorem tr_b_sortedB (C : Cok X G W k) {p pos : Pos} {e : Expr} {es : List Expr} {ms : List E} (hm : X.mg "sorted" = none) (hw : X.w = G.w) (hg : Gl X "sorted") (ha : TrA X G W (e :: es) ms) (he : starEach (e :: es) X.env = (false, eval e X.env) :: starEach es X.env := by rfl) (hpl : (backTo pos (starEach es X.env)).any (·.1) = false := by rfl) : TrE X G W (.Call (.Name "sorted" p) (e :: es) [] pos) (eApp fSortedB ms) := by
  obtain ⟨r, h1, h2⟩ := cls_sortedB (X := X) (G := G) C.hK hw C.room
  exact tr_callB h1 h2 hm (by rfl) ha hg (by decide) (by decide) he hpl
theorem cls_inB (hK : X.K = G.K) (hr : Room k X.A) : ∃ r, OpR X (compareOp .In) r ∧ S2 G r fInB := by
  obtain ⟨r, h1, h2⟩ := cls_inA (X := X) (G := G) hK
  obtain ⟨r', g1, g2⟩ := cls_inN (X := X) (G := G) hK hr
  exact ⟨_, orR h1 g1, h2.or g2⟩
theorem cls_notInB (hK : X.K = G.K) (hr : Room k X.A) : ∃ r, OpR X (compareOp .NotIn) r ∧ S2 G r fNotInB := by
  obtain ⟨r, h1, h2⟩ := cls_notInA (X := X) (G := G) hK
  obtain ⟨r', g1, g2⟩ := cls_notInN (X := X) (G := G) hK hr
  exact ⟨_, orR h1 g1, h2.or g2⟩
theorem tt_pk2 (i : Nat) {op : CmpOp} {r : R2} {f : D → D → Option KD} {a : Expr} {m : E} {x : PySem.Str} {p pos : Pos} (ho : OpR X (compareOp op) r) (hs : S2 G r f) (ha : TrE X G W a m) (hm : behindInMarks op (.Name x p) = false := by rfl)
    (hN : X.N[i]? = some x := by rfl) (hv : Vis X.env.scope x := by first | exact Or.inl rfl | exact Or.inr (Or.inl rfl) | exact Or.inr (Or.inr rfl)) (hd : (x == ("__debug__" : PySem.Str)) = false := by decide) (hcd : (x == ("__classdict__" : PySem.Str)) = false := by decide) :
    TrT X G W (.Compare a [op] [.Name x p] pos) (eBool (ePk2 f m i)) := by
  obtain ⟨t, pa, d⟩ := ha
  exact ⟨_, pt_cmpR ho pa (pe_var hN hv hd hcd) hm, den_test (den_pk2 i ho hs d)⟩
theorem tr_LtA (C : Cok X G W k) {a b : Expr} {ma mb : E} {pos : Pos} (ha : TrE X G W a ma) (hb : TrE X G W b mb) (hm : behindInMarks .Lt b = false := by rfl) : TrE X G W (.Compare a [.Lt] [b] pos) (eOp fLtA ma mb) := by
  obtain ⟨r, h1, h2⟩ := cls_ltD C.hK C.room
  exact tr_cmp h1 h2 ha hb hm
theorem tt_LtA (C : Cok X G W k) {a b : Expr} {ma mb : E} {pos : Pos} (ha : TrE X G W a ma) (hb : TrE X G W b mb) (hm : behindInMarks .Lt b = false := by rfl) : TrT X G W (.Compare a [.Lt] [b] pos) (eBool (eOp fLtA ma mb)) := by
  obtain ⟨r, h1, h2⟩ := cls_ltD C.hK C.room
  exact tt_cmp h1 h2 ha hb hm
theorem tr_GtA (C : Cok X G W k) {a b : Expr} {ma mb : E} {pos : Pos} (ha : TrE X G W a ma) (hb : TrE X G W b mb) (hm : behindInMarks .Gt b = false := by rfl) : TrE X G W (.Compare a [.Gt] [b] pos) (eOp fGtA ma mb) := by
  obtain ⟨r, h1, h2⟩ := cls_gtD C.hK C.room
  exact tr_cmp h1 h2 ha hb hm
theorem tt_GtA (C : Cok X G W k) {a b : Expr} {ma mb : E} {pos : Pos} (ha : TrE X G W a ma) (hb : TrE X G W b mb) (hm : behindInMarks .Gt b = false := by rfl) : TrT X G W (.Compare a [.Gt] [b] pos) (eBool (eOp fGtA ma mb)) := by
  obtain ⟨r, h1, h2⟩ := cls_gtD C.hK C.room
  exact tt_cmp h1 h2 ha hb hm
theorem tr_LtEA (C : Cok X G W k) {a b : Expr} {ma mb : E} {pos : Pos} (ha : TrE X G W a ma) (hb : TrE X G W b mb) (hm : behindInMarks .LtE b = false := by rfl) : TrE X G W (.Compare a [.LtE] [b] pos) (eOp fLeA ma mb) := by
  obtain ⟨r, h1, h2⟩ := cls_leD C.hK C.room
  exact tr_cmp h1 h2 ha hb hm
theorem tt_LtEA (C : Cok X G W k) {a b : Expr} {ma mb : E} {pos : Pos} (ha : TrE X G W a ma) (hb : TrE X G W b mb) (hm : behindInMarks .LtE b = false := by rfl) : TrT X G W (.Compare a [.LtE] [b] pos) (eBool (eOp fLeA ma mb)) := by
  obtain ⟨r, h1, h2⟩ := cls_leD C.hK C.room
  exact tt_cmp h1 h2 ha hb hm
theorem tr_GtEA (C : Cok X G W k) {a b : Expr} {ma mb : E} {pos : Pos} (ha : TrE X G W a ma) (hb : TrE X G W b mb) (hm : behindInMarks .GtE b = false := by rfl) : TrE X G W (.Compare a [.GtE] [b] pos) (eOp fGeA ma mb) := by
  obtain ⟨r, h1, h2⟩ := cls_geD C.hK C.room
  exact tr_cmp h1 h2 ha hb hm
theorem tt_GtEA (C : Cok X G W k) {a b : Expr} {ma mb : E} {pos : Pos} (ha : TrE X G W a ma) (hb : TrE X G W b mb) (hm : behindInMarks .GtE b = false := by rfl) : TrT X G W (.Compare a [.GtE] [b] pos) (eBool (eOp fGeA ma mb)) := by
  obtain ⟨r, h1, h2⟩ := cls_geD C.hK C.room
  exact tt_cmp h1 h2 ha hb hm
theorem tr_GtEB (C : Cok X G W k) {a b : Expr} {ma mb : E} {pos : Pos} (ha : TrE X G W a ma) (hb : TrE X G W b mb) (hm : behindInMarks .GtE b = false := by rfl) : TrE X G W (.Compare a [.GtE] [b] pos) (eOp fGeB ma mb) := by
  obtain ⟨r, h1, h2⟩ := cls_geB C.hK C.room
  exact tr_cmp h1 h2 ha hb hm
theorem tt_GtEB (C : Cok X G W k) {a b : Expr} {ma mb : E} {pos : Pos} (ha : TrE X G W a ma) (hb : TrE X G W b mb) (hm : behindInMarks .GtE b = false := by rfl) : TrT X G W (.Compare a [.GtE] [b] pos) (eBool (eOp fGeB ma mb)) := by
  obtain ⟨r, h1, h2⟩ := cls_geB C.hK C.room
  exact tt_cmp h1 h2 ha hb hm
theorem tr_InB (C : Cok X G W k) {a b : Expr} {ma mb : E} {pos : Pos} (ha : TrE X G W a ma) (hb : TrE X G W b mb) (hm : behindInMarks .In b = false := by rfl) : TrE X G W (.Compare a [.In] [b] pos) (eOp fInB ma mb) := by
  obtain ⟨r, h1, h2⟩ := cls_inB C.hK C.room
  exact tr_cmp h1 h2 ha hb hm
theorem tt_InB (C : Cok X G W k) {a b : Expr} {ma mb : E} {pos : Pos} (ha : TrE X G W a ma) (hb : TrE X G W b mb) (hm : behindInMarks .In b = false := by rfl) : TrT X G W (.Compare a [.In] [b] pos) (eBool (eOp fInB ma mb)) := by
  obtain ⟨r, h1, h2⟩ := cls_inB C.hK C.room
  exact tt_cmp h1 h2 ha hb hm
theorem tr_NotInB (C : Cok X G W k) {a b : Expr} {ma mb : E} {pos : Pos} (ha : TrE X G W a ma) (hb : TrE X G W b mb) (hm : behindInMarks .NotIn b = false := by rfl) : TrE X G W (.Compare a [.NotIn] [b] pos) (eOp fNotInB ma mb) := by
  obtain ⟨r, h1, h2⟩ := cls_notInB C.hK C.room
  exact tr_cmp h1 h2 ha hb hm
theorem tt_NotInB (C : Cok X G W k) {a b : Expr} {ma mb : E} {pos : Pos} (ha : TrE X G W a ma) (hb : TrE X G W b mb) (hm : behindInMarks .NotIn b = false := by rfl) : TrT X G W (.Compare a [.NotIn] [b] pos) (eBool (eOp fNotInB ma mb)) := by
  obtain ⟨r, h1, h2⟩ := cls_notInB C.hK C.room
  exact tt_cmp h1 h2 ha hb hm
theorem tr_pkEq (C : Cok X G W k) (i : Nat) {a : Expr} {m : E} {x : PySem.Str} {p pos : Pos} (ha : TrE X G W a m) (hm : behindInMarks .Eq (.Name x p) = false := by rfl)
    (hN : X.N[i]? = some x := by rfl) (hv : Vis X.env.scope x := by first | exact Or.inl rfl | exact Or.inr (Or.inl rfl) | exact Or.inr (Or.inr rfl)) (hd : (x == ("__debug__" : PySem.Str)) = false := by decide) (hcd : (x == ("__classdict__" : PySem.Str)) = false := by decide) : TrE X G W (.Compare a [.Eq] [.Name x p] pos) (ePk2 fEq m i) := by
  obtain ⟨r, h1, h2⟩ := cls_eq C.hK C.room
  exact tr_pk2 i h1 h2 ha hm hN hv hd hcd
theorem tt_pkEq (C : Cok X G W k) (i : Nat) {a : Expr} {m : E} {x : PySem.Str} {p pos : Pos} (ha : TrE X G W a m) (hm : behindInMarks .Eq (.Name x p) = false := by rfl)
    (hN : X.N[i]? = some x := by rfl) (hv : Vis X.env.scope x := by first | exact Or.inl rfl | exact Or.inr (Or.inl rfl) | exact Or.inr (Or.inr rfl)) (hd : (x == ("__debug__" : PySem.Str)) = false := by decide) (hcd : (x == ("__classdict__" : PySem.Str)) = false := by decide) : TrT X G W (.Compare a [.Eq] [.Name x p] pos) (eBool (ePk2 fEq m i)) := by
  obtain ⟨r, h1, h2⟩ := cls_eq C.hK C.room
  exact tt_pk2 i h1 h2 ha hm hN hv hd hcd
theorem tr_pkNotEq (C : Cok X G W k) (i : Nat) {a : Expr} {m : E} {x : PySem.Str} {p pos : Pos} (ha : TrE X G W a m) (hm : behindInMarks .NotEq (.Name x p) = false := by rfl)
    (hN : X.N[i]? = some x := by rfl) (hv : Vis X.env.scope x := by first | exact Or.inl rfl | exact Or.inr (Or.inl rfl) | exact Or.inr (Or.inr rfl)) (hd : (x == ("__debug__" : PySem.Str)) = false := by decide) (hcd : (x == ("__classdict__" : PySem.Str)) = false := by decide) : TrE X G W (.Compare a [.NotEq] [.Name x p] pos) (ePk2 fNe m i) := by
  obtain ⟨r, h1, h2⟩ := cls_ne C.hK C.room
  exact tr_pk2 i h1 h2 ha hm hN hv hd hcd
theorem tt_pkNotEq (C : Cok X G W k) (i : Nat) {a : Expr} {m : E} {x : PySem.Str} {p pos : Pos} (ha : TrE X G W a m) (hm : behindInMarks .NotEq (.Name x p) = false := by rfl)
    (hN : X.N[i]? = some x := by rfl) (hv : Vis X.env.scope x := by first | exact Or.inl rfl | exact Or.inr (Or.inl rfl) | exact Or.inr (Or.inr rfl)) (hd : (x == ("__debug__" : PySem.Str)) = false := by decide) (hcd : (x == ("__classdict__" : PySem.Str)) = false := by decide) : TrT X G W (.Compare a [.NotEq] [.Name x p] pos) (eBool (ePk2 fNe m i)) := by
  obtain ⟨r, h1, h2⟩ := cls_ne C.hK C.room
  exact tt_pk2 i h1 h2 ha hm hN hv hd hcd
end
end TB

/-! TbA1: sums, divmod, dict of pairs; reads of frozen dicts and objects. -/
namespace TB
open PySem L2
section
variable {X : Cx} {G : Cfgx} {W : WX} {k : Nat} {F H : Hp} {σ : L2.St} {S : List Slot} {T : Cnt}
theorem cr_sumT (hc : X.calm = true) : CallR X (.builtin "sum") (fun vs H Q => ∃ (a : Addr) (ns : List Int), vs = [V.ref a] ∧ SqT X.K H a (ns.map V.int) ∧ Q (.int ns.sum) H) := by
  intro pins s σ H vs us Q I r h
  obtain ⟨a, ns, rfl, hs, q⟩ := h
  obtain ⟨its, rv, hl, _⟩ := I.tuple hs
  rw [Vals.ref1 r]
  have hi : PyProof.Rows.IntsAre its ns := rv.ints
  obtain ⟨xs, hx⟩ := hi.allInts.items
  have hn : numsOf its.toArray.toList = ns := by rw [show its.toArray.toList = its from rfl, hi.numsOf]
  have hl : s.heap.IsTuple a its.toArray := hl
  rw [hx] at hl hn
  rw [nums_intItems] at hn
  refine PySem.W.ktm_sumG (I.ok.hd hc) hl fun h' tk t' hk => ?_
  rw [preSum_eq, List.take_of_length_le (by simp), hn]
  exact ⟨.int _, H, I.kept hk, ⟨_, rfl⟩, q⟩
theorem cls_sum (hK : X.K = G.K) (hc : X.calm = true) : ∃ r, CallR X (.builtin "sum") r ∧ SN G r fSum := by
  refine ⟨_, (cr_sum hc).or (cr_sumT hc), fun F H σ S T xs ds kd Q st rs e k => ?_⟩
  rcases rs with _ | ⟨r1, _ | ⟨r2, r3⟩⟩
  · simp [fSum] at e
  · cases r1 <;> simp only [fSum, kz, reduceCtorEq] at e
    · rename_i a xs as h1 r1
      cases q : intsOf as with
      | none => rw [q] at e; cases e
      | some is =>
        rw [q] at e
        cases e
        exact .inr ⟨a, is, rfl, by rw [← ints_of r1 q]; exact hK ▸ same_t st.sub h1, KE.val k st (.int _)⟩
    · rename_i a xs as h1 r1
      cases q : intsOf as with
      | none => rw [q] at e; cases e
      | some is =>
        rw [q] at e
        cases e
        exact .inl ⟨a, is, rfl, .inl (.inl (by rw [← ints_of r1 q]; exact st.sub _ _ h1)), KE.val k st (.int _)⟩
  · cases r1 <;> simp [fSum] at e
theorem cls_divmod : ∃ r, CallR X (.builtin "divmod") r ∧ SN G r fDivmod := by
  refine ⟨_, call_divmod, fun F H σ S T xs ds kd Q st rs e k => ?_⟩
  rcases rs with _ | ⟨r1, _ | ⟨r2, _ | ⟨r3, r4⟩⟩⟩
  · simp [fDivmod] at e
  · cases r1 <;> simp [fDivmod] at e
  · cases r1 <;> cases r2 <;> simp only [fDivmod, kz, reduceCtorEq] at e
    split at e
    · rename_i h
      cases e
      exact ⟨_, _, rfl, ⟨h.1, by omega⟩, fun p hp => KE.newT k st (.cons (.int _) (.cons (.int _) .nil)) p hp⟩
    · cases e
  · cases r1 <;> cases r2 <;> simp [fDivmod] at e
/-! ### dict of pairs -/
theorem merge_rep {F : Hp} : ∀ {more : List (Key × V)} {mds : List (D × D)} {kvs : List (Key × V)} {kds : List (D × D)}, mds.map (·.1) = more.map (fun p => keyD p.1) → Reps G F (more.map (·.2)) (mds.map (·.2)) →
    kds.map (·.1) = kvs.map (fun p => keyD p.1) → Reps G F (kvs.map (·.2)) (kds.map (·.2)) → (mergeD kds mds).map (·.1) = (mergeK kvs more).map (fun p => keyD p.1) ∧ Reps G F ((mergeK kvs more).map (·.2)) ((mergeD kds mds).map (·.2))
  | [], [], kvs, kds, _, _, h, r => ⟨h, r⟩
  | [], _ :: _, _, _, h, _, _, _ => by simp at h
  | _ :: _, [], _, _, h, _, _, _ => by simp at h
  | p :: more, q :: mds, kvs, kds, h1, r1, h2, r2 => by
    obtain ⟨e1, e2⟩ := List.cons.inj (show q.1 :: mds.map (·.1) = keyD p.1 :: more.map (fun p => keyD p.1) from h1)
    cases r1 with
    | cons ra rb =>
      obtain ⟨a, b⟩ := put_rep h2 r2 p.1 ra
      have := merge_rep e2 rb a b
      show (mergeD (putD kds q.1 q.2) mds).map (·.1) = (mergeK (putK kvs p.1 p.2) more).map (fun p => keyD p.1) ∧ _
      rw [e1]
      have e3 : mergeD kds (q :: mds) = mergeD (putD kds (keyD p.1) q.2) mds := by show mergeD (putD kds q.1 q.2) mds = _; rw [e1]
      rw [e3]
      exact this
theorem pairs_rep (hK : X.K = G.K) (st : St' G F H σ S T) : ∀ {xs : List V} {ds : List D} {kvs : List (D × D)}, Reps G F xs ds → pairsKV ds = some kvs → ∃ (ps : List Addr) (ks : List (Key × V)), xs = ps.map V.ref ∧ Paired (fun p kv => SqT X.K H p [kV kv.1, kv.2]) ps ks ∧ kvs.map (·.1) = ks.map (fun p => keyD p.1) ∧ Reps G F (ks.map (·.2)) (kvs.map (·.2))
  | _, _, _, .nil, h => by cases h; exact ⟨[], [], rfl, .nil, rfl, .nil⟩
  | _, _, kvs, .cons (d := d) r s, h => by
    unfold pairsKV at h
    cases q : pairKV d with
    | none => rw [q] at h; cases h
    | some p =>
      rw [q] at h
      cases q2 : pairsKV _ with
      | none => rw [q2] at h; cases h
      | some l =>
        rw [q2] at h
        cases h
        obtain ⟨ps, ks, rfl, hp, hk, hr⟩ := pairs_rep hK st s q2
        unfold pairKV at q
        split at q
        · rename_i kd vd
          split at q
          · rename_i hkey
            cases q
            cases r with
            | tup h1 r1 =>
              rename_i a vs
              rcases r1 with _ | ⟨ra, _ | ⟨rb, _ | _⟩⟩
              obtain ⟨kk, rfl, rfl⟩ := key_of hkey ra
              rename_i v2
              exact ⟨a :: ps, (kk, v2) :: ks, rfl, .cons (hK ▸ same_t st.sub h1) hp, by simp [hk], .cons rb hr⟩
          · cases q
        · cases q
theorem newK_kd {kk : Kd} {Q : VK} {kvs : List (Key × V)} {kds : List (D × D)} {g : Cnt} (z : KE G F H σ T Q (.dK .fz, .dic kds) S) (st : St' G F H σ S T) (hk : kds.map (·.1) = kvs.map (fun p => keyD p.1)) (hr : Reps G F (kvs.map (·.2)) (kds.map (·.2))) (p : Addr) (hp : H p = none) : Q (.ref p) (upd H p (.dK kvs)) := by
  obtain ⟨st2, s, le, fp⟩ := st.newT (o := .dK kvs) hp
  refine z (.ref p) F _ T (add (one p) nil0) (s.castR fun a => rfl) st2 (.dK upd_same hk (owns_fz hr)) (fun a => le a) fun a n => ?_
  by_cases q : a = p
  · subst q; rw [fp] at n; exact absurd rfl n
  · simp [add, one, nil0, q]
theorem cls_dictL (hK : X.K = G.K) (hc : X.calm = true) : ∃ r, CallR X (.type "dict") r ∧ SN G r fDictL := by
  refine ⟨_, call_dictP hc, fun F H σ S T xs ds kd Q st rs e k => ?_⟩
  rcases rs with _ | ⟨r1, _ | ⟨r2, r3⟩⟩
  · simp [fDictL] at e
  · cases r1 <;> simp only [fDictL, reduceCtorEq] at e
    rename_i a xs as h1 r1
    cases q : pairsKV as with
    | none => rw [q] at e; cases e
    | some kvs =>
      rw [q] at e
      cases e
      obtain ⟨ps, ks, rfl, hp, hk, hr⟩ := pairs_rep hK st r1 q
      obtain ⟨m1, m2⟩ := merge_rep hk hr (kvs := []) (kds := []) rfl .nil
      exact ⟨a, ps, ks, rfl, .inl (.inl (st.sub _ _ h1)), hp, fun p hp => newK_kd (kk := .fz) (g := nil0) k st m1 m2 p hp⟩
  · cases r1 <;> simp [fDictL] at e
theorem tr_b_sum (C : Cok X G W k) {p pos : Pos} {e : Expr} {es : List Expr} {ms : List E} (hm : X.mg "sum" = none) (hg : Gl X "sum") (ha : TrA X G W (e :: es) ms) (he : starEach (e :: es) X.env = (false, eval e X.env) :: starEach es X.env := by rfl) (hpl : (backTo pos (starEach es X.env)).any (·.1) = false := by rfl) : TrE X G W (.Call (.Name "sum" p) (e :: es) [] pos) (eApp fSum ms) := by
  obtain ⟨r, h1, h2⟩ := cls_sum (X := X) (G := G) C.hK C.calm
  exact tr_callB h1 h2 hm (by rfl) ha hg (by decide) (by decide) he hpl
theorem tr_b_divmod (C : Cok X G W k) {p pos : Pos} {e : Expr} {es : List Expr} {ms : List E} (hm : X.mg "divmod" = none) (hg : Gl X "divmod") (ha : TrA X G W (e :: es) ms) (he : starEach (e :: es) X.env = (false, eval e X.env) :: starEach es X.env := by rfl) (hpl : (backTo pos (starEach es X.env)).any (·.1) = false := by rfl) : TrE X G W (.Call (.Name "divmod" p) (e :: es) [] pos) (eApp fDivmod ms) := by
  obtain ⟨r, h1, h2⟩ := cls_divmod (X := X) (G := G)
  exact tr_callB h1 h2 hm (by rfl) ha hg (by decide) (by decide) he hpl
theorem tr_b_dict (C : Cok X G W k) {p pos : Pos} {e : Expr} {es : List Expr} {ms : List E} (hm : X.mg "dict" = none) (hg : Gl X "dict") (ha : TrA X G W (e :: es) ms) (he : starEach (e :: es) X.env = (false, eval e X.env) :: starEach es X.env := by rfl) (hpl : (backTo pos (starEach es X.env)).any (·.1) = false := by rfl) : TrE X G W (.Call (.Name "dict" p) (e :: es) [] pos) (eApp fDictL ms) := by
  obtain ⟨r, h1, h2⟩ := cls_dictL (X := X) (G := G) C.hK C.calm
  exact tr_callT h1 h2 hm (by rfl) ha hg (by decide) (by decide) he hpl
/-! ### reads of what is frozen -/
theorem tr_fld (c n : Nat) {e : Expr} {f : PySem.Str} {m : E} {pos : Pos} (h : TrE X G W e m) (hc : L2.Cls X.K (G.ca c)) (hf : L2.NoAttr X.K (G.ca c) f) (hn : (G.cn c)[n]? = some f := by rfl) (nd : (G.cn c).Nodup := by decide)
    (hb : attributeBase e f X.env (eval e X.env) = eval e X.env := by rfl) : TrE X G W (.Attribute e f pos) (eUn (fFld c n) m) := by
  obtain ⟨t, p, d⟩ := h
  refine ⟨_, pe_fld p hb, fun F H σ S T Q st z => d.dat F H σ S T _ st (PR.bind z fun dx S1 q => ?_)⟩
  intro v F1 H1 T1 s1 st1 r1
  cases e : fFld c n dx with
  | none => rw [e] at q; exact q.elim
  | some kd =>
    rw [e] at q
    have q : KE G F H σ T Q kd S1 := q
    cases r1 <;> simp only [fFld, reduceCtorEq] at e
    rename_i a dxx c' fs ds h1 hnm rr
    by_cases hcc : c' = c
    case neg => rw [if_neg hcc] at e; cases e
    subst hcc
    rw [if_pos rfl] at e
    cases e2 : ds[n]? with
    | none => rw [e2] at e; cases e
    | some dn =>
      rw [e2] at e
      cases e
      obtain ⟨w, hw, rw'⟩ := rr.get e2
      have hl : fs.length = ds.length := by have := rr.len; simpa using this
      have hnl : n < fs.length := by rw [hl]; exact (List.getElem?_eq_some_iff.mp e2).1
      exact ⟨a, _, _, fs, w, rfl, st1.sub _ _ h1, hc, hf, lookup_at (by rw [hnm]; exact nd.sublist (List.take_sublist _ _)) (take_at hnm hn hnl) hw, KE.val (q.re s1) st1 rw'⟩
theorem den_dget {ta tb : TE} {a b : E} (ha : DenE G W ta a) (hb : DenE G W tb b) : DenE G W (tDGet ta tb) (eOp fGet a b) := fun F H σ S T Q st p => by
  refine ha.dat F H σ S T _ st (PR.bind p fun dx S1 q => ?_)
  intro v F1 H1 T1 s1 st1 r1
  refine hb.dat F1 H1 σ S1 T1 _ st1 (PR.bind (PR.re s1 (fun _ _ h => h) q) fun dy S2 q2 => ?_)
  intro u F2 H2 T2 s2 st2 r2
  cases e : fGet dx dy with
  | none => rw [e] at q2; exact q2.elim
  | some d =>
    rw [e] at q2
    have q2 : KE G F H σ T Q d S2 := q2
    have r1 := r1.mono s2.sF
    cases r1 <;> simp only [fGet, reduceCtorEq] at e
    rename_i aa kvs kds h1 hk rr
    split at e
    · rename_i hx
      obtain ⟨kk, rfl, rfl⟩ := key_of hx r2
      have va := val_at hk rr kk
      cases q1 : valD kds (keyD kk) with
      | none => rw [q1] at e; cases e
      | some dd =>
        rw [q1] at e va
        cases e
        cases q3 : valV kvs kk with
        | none => rw [q3] at va; exact va.elim
        | some w =>
          rw [q3] at va
          exact ⟨aa, w, rfl, .inl ⟨kvs, kk, same_rd st2.sub h1, rfl, q3.symm⟩, KE.val (q2.re (s1.trans s2)) st2 va⟩
    · cases e
theorem tr_get (C : Cok X G W k) {a b : Expr} {ma mb : E} {pos : Pos} (ha : TrE X G W a ma) (hb : TrE X G W b mb) (hs : NoSl b := by exact fun _ _ => rfl) : TrE X G W (.Subscript a b pos) (eOp fGet ma mb) := by
  obtain ⟨t, p, d⟩ := ha
  obtain ⟨u, q, d2⟩ := hb
  exact ⟨_, pe_dget (by have := C.room.units; omega) p q hs, den_dget d d2⟩
theorem den_get3 {td ty tz : TE} {a b c : E} (ha : DenE G W td a) (hb : DenE G W ty b) (hc : DenE G W tz c) : DenE G W (tDGet2 td ty tz) (eGet3 a b c) := fun F H σ S T Q st p => by
  refine ha.dat F H σ S T _ st (PR.bind p fun dx S1 q => ?_)
  intro v F1 H1 T1 s1 st1 r1
  have q : PR G W F H σ T (KE G F H σ T Q) ((if dx.isDic = true then M.bind (eDat b) fun y => M.bind (eDat c) fun z => ofO (fGet3 dx y z) else eBad) S1) := q
  by_cases hd : dx.isDic = true
  case neg => rw [if_neg hd] at q; exact q.elim
  rw [if_pos hd] at q
  have q : PR G W F H σ T (KE G F H σ T Q) ((eDat b S1).bind fun y => M.bind (eDat c) fun z => ofO (fGet3 dx y z)) := q
  cases r1 with
  | @dK aa kvs kds h1 hk rr =>
      refine ⟨aa, rfl, .inl ⟨kvs, same_rd st1.sub h1⟩, ?_⟩
      refine hb.dat F1 H1 σ S1 T1 _ st1 (PR.bind (PR.re s1 (fun _ _ h => h) q) fun dy S2 q2 => ?_)
      intro u F2 H2 T2 s2 st2 r2
      refine hc.dat F2 H2 σ S2 T2 _ st2 (PR.bind (PR.re s2 (fun _ _ h => h) q2) fun dz S3 q3 => ?_)
      intro w F3 H3 T3 s3 st3 r3
      cases e : fGet3 (.dic kds) dy dz with
      | none => rw [e] at q3; exact q3.elim
      | some d =>
        rw [e] at q3
        have q3 : KE G F H σ T Q d S3 := q3
        have sF := s2.sF.trans s3.sF
        simp only [fGet3] at e
        split at e
        · rename_i hx
          cases e
          obtain ⟨kk, rfl, rfl⟩ := key_of hx (r2.mono s3.sF)
          have va := val_at hk (rr.mono sF) kk
          refine ⟨valV kvs kk, .inl ⟨kvs, kk, same_rd st3.sub (same_rd sF h1), rfl, rfl⟩, KE.val (q3.re ((s1.trans s2).trans s3)) st3 ?_⟩
          cases q1 : valD kds (keyD kk) with
          | none =>
            cases q4 : valV kvs kk with
            | none => exact r3
            | some w => rw [q1, q4] at va; exact va.elim
          | some dd =>
            cases q4 : valV kvs kk with
            | none => rw [q1, q4] at va; exact va.elim
            | some w => rw [q1, q4] at va; exact va
        · cases e
  | _ => cases hd
theorem tr_get3 {o ke ze : Expr} {a b c : E} {apos pos : Pos} (C : Cok X G W k) (h : TrE X G W o a) (hk : TrE X G W ke b) (hz : TrE X G W ze c) (m2 : M2 X o "get" apos ke ze pos := by exact ⟨rfl, rfl, rfl, rfl⟩) : TrE X G W (.Call (.Attribute o "get" apos) [ke, ze] [] pos) (eGet3 a b c) := by
  obtain ⟨t, p, d⟩ := h
  obtain ⟨t2, p2, d2⟩ := hk
  obtain ⟨t3, p3, d3⟩ := hz
  exact ⟨_, pe_dget2 (by have := C.room.units; omega) p p2 p3 m2, den_get3 d d2 d3⟩
theorem den_din {ta tb : TE} {a b : E} (ha : DenE G W ta a) (hb : DenE G W tb b) : DenE G W (tDIn ta tb) (eOp fInD a b) := fun F H σ S T Q st p => by
  refine ha.dat F H σ S T _ st (PR.bind p fun dx S1 q => ?_)
  intro v F1 H1 T1 s1 st1 r1
  refine hb.dat F1 H1 σ S1 T1 _ st1 (PR.bind (PR.re s1 (fun _ _ h => h) q) fun dy S2 q2 => ?_)
  intro u F2 H2 T2 s2 st2 r2
  cases e : fInD dx dy with
  | none => rw [e] at q2; exact q2.elim
  | some d =>
    rw [e] at q2
    have q2 : KE G F H σ T Q d S2 := q2
    cases r2 <;> simp only [fInD, reduceCtorEq] at e
    rename_i aa kvs kds h1 hk rr
    split at e
    · rename_i hx
      cases e
      obtain ⟨kk, rfl, rfl⟩ := key_of hx (r1.mono s2.sF)
      have va := val_at hk rr kk
      refine ⟨aa, valV kvs kk, rfl, .inl ⟨kvs, kk, same_rd st2.sub h1, rfl, rfl⟩, ?_⟩
      have : (valV kvs kk).isSome = (valD kds (keyD kk)).isSome := by
        cases q1 : valD kds (keyD kk) <;> cases q4 : valV kvs kk <;> rw [q1, q4] at va <;> first | rfl | exact va.elim
      rw [this]
      exact KE.val (q2.re (s1.trans s2)) st2 (.bl _)
    · cases e
theorem den_dnotin {ta tb : TE} {a b : E} (ha : DenE G W ta a) (hb : DenE G W tb b) : DenE G W (tDNotIn ta tb) (eOp fNotInD a b) := fun F H σ S T Q st p => by
  refine ha.dat F H σ S T _ st (PR.bind p fun dx S1 q => ?_)
  intro v F1 H1 T1 s1 st1 r1
  refine hb.dat F1 H1 σ S1 T1 _ st1 (PR.bind (PR.re s1 (fun _ _ h => h) q) fun dy S2 q2 => ?_)
  intro u F2 H2 T2 s2 st2 r2
  cases e : fNotInD dx dy with
  | none => rw [e] at q2; exact q2.elim
  | some d =>
    rw [e] at q2
    have q2 : KE G F H σ T Q d S2 := q2
    cases r2 <;> simp only [fNotInD, reduceCtorEq] at e
    rename_i aa kvs kds h1 hk rr
    split at e
    · rename_i hx
      cases e
      obtain ⟨kk, rfl, rfl⟩ := key_of hx (r1.mono s2.sF)
      have va := val_at hk rr kk
      refine ⟨aa, valV kvs kk, rfl, .inl ⟨kvs, kk, same_rd st2.sub h1, rfl, rfl⟩, ?_⟩
      have : (valV kvs kk).isSome = (valD kds (keyD kk)).isSome := by
        cases q1 : valD kds (keyD kk) <;> cases q4 : valV kvs kk <;> rw [q1, q4] at va <;> first | rfl | exact va.elim
      rw [this]
      exact KE.val (q2.re (s1.trans s2)) st2 (.bl _)
    · cases e
theorem tr_din (C : Cok X G W k) {a b : Expr} {ma mb : E} {pos : Pos} (ha : TrE X G W a ma) (hb : TrE X G W b mb) (h1 : behindInMarks .In b = false := by rfl) : TrE X G W (.Compare a [.In] [b] pos) (eOp fInD ma mb) := by
  obtain ⟨t, p, d⟩ := ha
  obtain ⟨u, q, d2⟩ := hb
  exact ⟨_, pe_cmp (pc_din (by have := C.room.units; omega) p q) h1, den_din d d2⟩
theorem tr_dnotin (C : Cok X G W k) {a b : Expr} {ma mb : E} {pos : Pos} (ha : TrE X G W a ma) (hb : TrE X G W b mb) (h1 : behindInMarks .NotIn b = false := by rfl) : TrE X G W (.Compare a [.NotIn] [b] pos) (eOp fNotInD ma mb) := by
  obtain ⟨t, p, d⟩ := ha
  obtain ⟨u, q, d2⟩ := hb
  exact ⟨_, pe_cmp (pc_dnotin (by have := C.room.units; omega) p q) h1, den_dnotin d d2⟩
theorem tt_din (C : Cok X G W k) {a b : Expr} {ma mb : E} {pos : Pos} (ha : TrE X G W a ma) (hb : TrE X G W b mb) (h1 : behindInMarks .In b = false := by rfl) : TrT X G W (.Compare a [.In] [b] pos) (eBool (eOp fInD ma mb)) := by
  obtain ⟨t, p, d⟩ := ha
  obtain ⟨u, q, d2⟩ := hb
  exact ⟨_, pt_cmp (pc_din (by have := C.room.units; omega) p q) h1, fun F H σ S T Q st z => den_test (den_din d d2) F H σ S T Q st z⟩
theorem tt_dnotin (C : Cok X G W k) {a b : Expr} {ma mb : E} {pos : Pos} (ha : TrE X G W a ma) (hb : TrE X G W b mb) (h1 : behindInMarks .NotIn b = false := by rfl) : TrT X G W (.Compare a [.NotIn] [b] pos) (eBool (eOp fNotInD ma mb)) := by
  obtain ⟨t, p, d⟩ := ha
  obtain ⟨u, q, d2⟩ := hb
  exact ⟨_, pt_cmp (pc_dnotin (by have := C.room.units; omega) p q) h1, fun F H σ S T Q st z => den_test (den_dnotin d d2) F H σ S T Q st z⟩
/-! nested keys -/
theorem den_nget3 {td ty tz : TE} {a b c : E} (ha : DenE G W td a) (hb : DenE G W ty b) (hc : DenE G W tz c) : DenE G W (tNGet2 G td ty tz) (eNget3 a b c) := fun F H σ S T Q st p => by
  refine ha.dat F H σ S T _ st (PR.bind p fun dx S1 q => ?_)
  intro v F1 H1 T1 s1 st1 r1
  have q : PR G W F H σ T (KE G F H σ T Q) ((if dx.isDit = true then M.bind (eDat b) fun y => M.bind (eDat c) fun z => ofO (fNget3 dx y z) else eBad) S1) := q
  by_cases hd : dx.isDit = true
  case neg => rw [if_neg hd] at q; exact q.elim
  rw [if_pos hd] at q
  have q : PR G W F H σ T (KE G F H σ T Q) ((eDat b S1).bind fun y => M.bind (eDat c) fun z => ofO (fNget3 dx y z)) := q
  cases r1 with
  | @dN aa xs kds h1 hk hq rr =>
      refine ⟨aa, rfl, ⟨xs, same_rd st1.sub h1⟩, ?_⟩
      refine hb.dat F1 H1 σ S1 T1 _ st1 (PR.bind (PR.re s1 (fun _ _ h => h) q) fun dy S2 q2 => ?_)
      intro u F2 H2 T2 s2 st2 r2
      refine hc.dat F2 H2 σ S2 T2 _ st2 (PR.bind (PR.re s2 (fun _ _ h => h) q2) fun dz S3 q3 => ?_)
      intro w F3 H3 T3 s3 st3 r3
      cases e : fNget3 (.dit kds) dy dz with
      | none => rw [e] at q3; exact q3.elim
      | some d =>
        rw [e] at q3
        have q3 : KE G F H σ T Q d S3 := q3
        have sF := s2.sF.trans s3.sF
        simp only [fNget3] at e
        split at e
        · rename_i hx
          cases e
          have r2' := r2.mono s3.sF
          obtain ⟨bb, rfl, hnk⟩ := nk_ref r2' hx
          have va := valN_at hk (rr.mono sF) (toNK dy)
          rw [hnk] at va
          refine ⟨xs, dy, same_rd st3.sub (same_rd sF h1), keysAt_mono st3.sub (keysAt_of hk (hq.mono sF)), r2'.mono st3.sub, hx, KE.val (q3.re ((s1.trans s2).trans s3)) st3 ?_⟩
          cases q1 : valD kds dy with
          | none =>
            cases q4 : valN xs (toNK dy) with
            | none => exact r3
            | some w => rw [q1, q4] at va; exact va.elim
          | some dd =>
            cases q4 : valN xs (toNK dy) with
            | none => rw [q1, q4] at va; exact va.elim
            | some w => rw [q1, q4] at va; exact va
        · cases e
  | _ => cases hd
theorem tr_nget3 {o ke ze : Expr} {a b c : E} {apos pos : Pos} (C : Cok X G W k) (hw : X.w = G.w) (h : TrE X G W o a) (hk : TrE X G W ke b) (hz : TrE X G W ze c) (m2 : M2 X o "get" apos ke ze pos := by exact ⟨rfl, rfl, rfl, rfl⟩) : TrE X G W (.Call (.Attribute o "get" apos) [ke, ze] [] pos) (eNget3 a b c) := by
  obtain ⟨t, p, d⟩ := h
  obtain ⟨t2, p2, d2⟩ := hk
  obtain ⟨t3, p3, d3⟩ := hz
  exact ⟨_, pe_nget2 C.hK hw (by have := C.room.un; omega) p p2 p3 m2, den_nget3 d d2 d3⟩
theorem pe_nget {o i : Expr} {td ty : TE} {pos : Pos} (hK : X.K = G.K) (hw : X.w = G.w) (hu : X.A.units + 64 < cLine) (ho : PE X o td) (hi : PE X i ty) (hs : NoSl i) : PE X (.Subscript o i pos) (tOp (rNGet G) td ty) := by
  refine ⟨fun pins s σ H Q I h => ?_⟩
  refine subD_of PySem.F.slot_dict_getitem.lookup hs (thn (ho.run pins s σ H _ I h) fun u s1 ⟨x, H1, I1, rx, q1⟩ => thn (hi.run pins s1 σ H1 _ I1 q1) fun iv s2 ⟨y, H2, I2, ry, q2⟩ => ?_)
  obtain ⟨a, xs, d, v, ex, hrd, hk, hr, hd, hv, q⟩ := id q2
  subst ex
  obtain rfl : u = Value.ref a := rx
  exact ⟨(isN_at I2 ⟨xs, hrd⟩).1, get_N hK hw hu pins s2 σ H2 (V.ref a) y (Value.ref a) iv Q I2 (Eq.refl _) ry ⟨a, xs, d, v, rfl, hrd, hk, hr, hd, hv, q⟩⟩
theorem s2_nget : S2 G (rNGet G) fNget := by
  intro F H σ S T x y dx dy kd Q st rx ry e z
  cases rx <;> simp only [fNget, reduceCtorEq] at e
  rename_i aa xs kds h1 hk hq rr
  split at e
  · rename_i hx
    obtain ⟨bb, rfl, hnk⟩ := nk_ref ry hx
    have va := valN_at hk rr (toNK dy)
    rw [hnk] at va
    cases q1 : valD kds dy with
    | none => rw [q1] at e; cases e
    | some dd =>
      rw [q1] at e va
      cases e
      cases q4 : valN xs (toNK dy) with
      | none => rw [q4] at va; exact va.elim
      | some w =>
        rw [q4] at va
        exact ⟨aa, xs, dy, w, rfl, same_rd st.sub h1, keysAt_mono st.sub (keysAt_of hk hq), ry.mono st.sub, hx, q4, KE.val z st va⟩
  · cases e
theorem tr_nget (C : Cok X G W k) (hw : X.w = G.w) {a b : Expr} {ma mb : E} {pos : Pos} (ha : TrE X G W a ma) (hb : TrE X G W b mb) (hs : NoSl b := by exact fun _ _ => rfl) : TrE X G W (.Subscript a b pos) (eOp fNget ma mb) := by
  obtain ⟨t, p, d⟩ := ha
  obtain ⟨u, q, d2⟩ := hb
  exact ⟨_, pe_nget C.hK hw (by have := C.room.un; omega) p q hs, den_op s2_nget d d2⟩
end
end TB

/-! TbA2: op= and stores at a path; quiet tuples; dicts of a kind. -/
namespace TB
open PySem L2
section
variable {X : Cx} {G : Cfgx} {W : WX} {k : Nat} {F H : Hp} {σ : L2.St} {S : List Slot} {T : Cnt}
theorem tr_dnewK (kk : Kd) {pos : Pos} : TrE X G W (.Dict [] [] pos) (eDnewK kk) := ⟨_, pe_dnewK, fun F H σ S T Q st z => by
  have z : KE G F H σ T Q (.dK kk, .dic []) S := z
  intro p hp
  obtain ⟨st2, s, le, fp⟩ := st.newT (o := .dK []) hp
  refine z (.ref p) F _ T (add (one p) nil0) (s.castR fun a => rfl) st2 (.dK (kds := []) upd_same rfl .nil) (fun a => le a) fun a n => ?_
  by_cases q : a = p
  · subst q; rw [fp] at n; exact absurd rfl n
  · simp [add, one, nil0, q]⟩
theorem q_tup {es : List Expr} {ms : List E} {c} {pos : Pos} (h : TrAQ X G es ms) : TrQ X G (.Tuple es c pos) (eTupQ ms) := by
  obtain ⟨t, hp, hd⟩ := h
  refine ⟨_, pe_tup hp, fun F H σ S T Q d S' st e kk => ?_⟩
  unfold eTupQ at e
  cases e1 : eFzDs ms S with
  | none => rw [e1] at e; cases e
  | some ds =>
    rw [e1] at e
    simp only at e
    split at e
    · rename_i z
      cases e
      refine hd F H σ S T _ ds st e1 fun vs F1 H1 s1 st1 h1 r1 => ?_
      refine ⟨by rw [r1.len]; exact z, fun x hx => ?_⟩
      obtain ⟨st2, s2⟩ := st1.newF (o := .tup vs) hx
      have fx : F1 x = none := st1.sub.free hx
      refine kk (.ref x) _ _ (s1.trans s2) st2 (fun a u q => ?_) (.tup (.inl (.inl upd_same)) (r1.mono s2.sF))
      have := h1 _ _ q
      rw [upd_ne (ne_of_none this hx)]; exact this
    · cases e
theorem get_list : PGet X (rIxL X.K) := by
  intro pins s σ H o i ov iv Q I ro ri h
  obtain ⟨p, xs, i, z, rfl, rfl, hq, he, q⟩ := h
  cases ro
  obtain ⟨t, rfl⟩ := ri
  obtain ⟨its, r, pl, hz⟩ := I.list hq
  obtain ⟨j, h1, h2, h3, h4, h5⟩ := atI_get he
  obtain ⟨w, ew, rw'⟩ := r.get h2
  have hl := r.length
  have hn := line63
  have fin : EP X pins σ Q w s := ⟨z, H, I, rw', q⟩
  by_cases h0 : 0 ≤ i
  · have hj : i.toNat = j := by
      rw [seqIndex_of h0 h5] at h1
      exact Option.some.inj h1
    exact wpAny_getItem_list pl.isList h0 (by omega) (by rw [hj]; simpa using ew) fin
  · have hj : (i + (its.toArray.size : Int)).toNat = j := by
      rw [seqIndex_neg (by omega) h4] at h1
      rw [List.size_toArray, ← hl]
      exact Option.some.inj h1
    exact wpAny_getItem_list_neg pl.isList (by omega) (by rw [List.size_toArray] <;> omega) (by omega) (by rw [hj]; simpa using ew) fin
def augOp (s : Bool) : Operator := if s then .Sub else .Add
theorem ip_aug (s : Bool) : PIp X (augOp s) (ipI (augI s)) := by cases s <;> first | exact ip_add | exact ip_sub
theorem rep_int {F : Hp} {v : V} {i : Int} (r : Rep G F v (.int i)) : v = .int i := by cases r; rfl
/-- o[i] op= e of a list -/
theorem tr_augIx (s : Bool) {op : Operator} {o e ke : Expr} {i : Nat} {ps : List PS} {n m : E} {p' pos : Pos} (h : TrP X G o i ps) (hk : TrQ X G ke n) (he : TrQ X G e m) (ho : augOp s = op := by rfl)
    (ha : ∀ ov iv new, augStore ke ov iv new = (do holding [new, ov, iv] (setItem ov iv new); release [new, ov, iv] []; pure .next) := by intros; rfl) : TrS X G W (.AugAssign (.Subscript o ke p') op e pos) (pAugIx i ps n s m) := by
  obtain ⟨t, p, d⟩ := h
  obtain ⟨u, q, d2⟩ := he
  obtain ⟨t3, q3, d3⟩ := hk
  subst ho
  refine ⟨_, ps_augS p q3 get_list q (ip_aug s) set_list ha, fun F H σ S T D st z => ?_⟩
  unfold pAugIx at z
  cases eg : tgt i ps S with
  | none => rw [eg] at z; exact z.elim
  | some g =>
    cases ek : eFzD n S with
    | none => rw [eg, ek] at z; exact z.elim
    | some x =>
      cases ev : eFzD m S with
      | none => rw [eg, ek, ev] at z; cases x <;> exact z.elim
      | some y =>
        rw [eg, ek, ev] at z
        cases x <;> first | exact z.elim | skip
        cases y <;> first | exact z.elim | skip
        rename_i j y
        obtain ⟨pv, rk, rd, gk, gd⟩ := g
        simp only at z
        split at z
        · rename_i xs
          split at z
          · rename_i nn e3
            split at z
            · rename_i x e4
              cases es : (⟨pv, rk, rd, .li .fz, .lst xs⟩ : Tgt).put i (.li .fz, .lst (xs.set nn (.int (augI s x y)))) S with
              | none => rw [es] at z; exact z.elim
              | some S2 =>
              rw [es] at z
              refine d F H σ S T _ _ st eg fun v0 w F1 H1 s1 st1 h1 hv nv => ?_
              obtain ⟨S', em⟩ := fzD_eq ek
              refine d3 F1 H1 σ S T _ _ S' st1 em fun yv F2 H2 s2 st2 h2 ry => ?_
              cases rep_int ry
              obtain ⟨v0', v', f', T0, hv', hT, nv', o', back⟩ := tgt_own st2 eg
              rw [hv] at hv'; cases hv'
              have := (nv.mono h2).uniq nv'
              subst this
              cases o' with
              | @li _ a vs _ gg hl rl =>
                obtain ⟨rr, rfl⟩ := reps_fz rl
                obtain ⟨xv, hx, rx⟩ := rr.get e4
                cases rep_int rx
                refine ⟨a, vs, j, .int x, rfl, rfl, .inl (.inl hl), atI_of (by rw [rr.len]; exact e3) hx, ?_⟩
                obtain ⟨S'', en⟩ := fzD_eq ev
                refine d2 F2 H2 σ S T _ _ S'' st2 en fun wv F3 H3 s3 st3 h3 re => ?_
                cases rep_int re
                refine ⟨x, y, rfl, rfl, ?_⟩
                obtain ⟨w0, w', f2, T2, hw, hT2, nw, o2, back2⟩ := tgt_own st3 eg
                rw [hv] at hw; cases hw
                have := ((nv.mono h2).mono h3).uniq nw
                subst this
                cases o2 with
                | @li _ _ vs2 _ gg2 hl2 rl2 =>
                  have hl3 := h3 _ _ hl
                  rw [hl2] at hl3; cases hl3
                  obtain ⟨rr2, rfl⟩ := reps_fz rl2
                  obtain ⟨n1, n2, n3⟩ := norm_ix e3
                  obtain ⟨T3, st4, s4⟩ := list_up st3 hl2 (fun b => rfl) hT2 back2 (rr2.set (.int (augI s x y)) nn) es
                  exact ⟨a, _, j, nn, rfl, rfl, hl2, by rw [rr2.len]; exact n1, nx_of (show KS G F H T D .nx S2 from z) (((s1.trans s2).trans s3).trans s4) st4⟩
            · exact z.elim
          · exact z.elim
        · exact z.elim
/-- o[k] op= e of a dict with nested keys -/
theorem tr_augN (s : Bool) {op : Operator} {o e ke : Expr} {i : Nat} {ps : List PS} {n m : E} {p' pos : Pos} (C : Cok X G W k) (hw : X.w = G.w) (h : TrP X G o i ps) (hk : TrQ X G ke n) (he : TrQ X G e m) (ho : augOp s = op := by rfl)
    (ha : ∀ ov iv new, augStore ke ov iv new = (do holding [new, ov, iv] (setItem ov iv new); release [new, ov, iv] []; pure .next) := by intros; rfl) : TrS X G W (.AugAssign (.Subscript o ke p') op e pos) (pNaug i ps n s m) := by
  obtain ⟨t, p, d⟩ := h
  obtain ⟨u, q, d2⟩ := he
  obtain ⟨t3, q3, d3⟩ := hk
  subst ho
  have hu : X.A.units + 64 < cLine := by have := C.room.units; omega
  refine ⟨_, ps_augS p q3 (get_N C.hK hw hu) q (ip_aug s) (set_N C.hK hw hu) ha, fun F H σ S T D st z => ?_⟩
  unfold pNaug at z
  cases eg : tgt i ps S with
  | none => rw [eg] at z; exact z.elim
  | some g =>
    cases ek : eFzD n S with
    | none => rw [eg, ek] at z; exact z.elim
    | some x =>
      cases ev : eFzD m S with
      | none => rw [eg, ek, ev] at z; exact z.elim
      | some y =>
        rw [eg, ek, ev] at z
        cases y <;> first | exact z.elim | skip
        rename_i y
        obtain ⟨pv, rk, rd, gk, gd⟩ := g
        simp only at z
        split at z
        · rename_i kds
          split at z
          · rename_i hc
            obtain ⟨hx, hz⟩ := hc
            split at z
            · rename_i old e4
              cases es : (⟨pv, rk, rd, .dN, .dit kds⟩ : Tgt).put i (.dN, .dit (putD kds x (.int (augI s old y)))) S with
              | none => rw [es] at z; exact z.elim
              | some S2 =>
              rw [es] at z
              refine d F H σ S T _ _ st eg fun v0 w F1 H1 s1 st1 h1 hv nv => ?_
              obtain ⟨S', em⟩ := fzD_eq ek
              refine d3 F1 H1 σ S T _ x S' st1 em fun yv F2 H2 s2 st2 h2 ry => ?_
              obtain ⟨v0', v', f', T0, hv', hT, nv', o', back⟩ := tgt_own st2 eg
              rw [hv] at hv'; cases hv'
              have := (nv.mono h2).uniq nv'
              subst this
              cases o' with
              | @dN a xs _ ho hkk hq hr =>
                obtain ⟨b, rfl, en⟩ := nk_ref ry hx
                have va := valN_at hkk hr (toNK x)
                rw [en, e4] at va
                cases q4 : valN xs (toNK x) with
                | none => rw [q4] at va; exact va.elim
                | some ov =>
                  rw [q4] at va
                  cases rep_int va
                  refine ⟨a, xs, x, .int old, rfl, .inl ho, keysAt_mono st2.sub (keysAt_of hkk hq), ry.mono st2.sub, hx, q4, ?_⟩
                  obtain ⟨S'', en2⟩ := fzD_eq ev
                  refine d2 F2 H2 σ S T _ _ S'' st2 en2 fun wv F3 H3 s3 st3 h3 re => ?_
                  cases rep_int re
                  refine ⟨old, y, rfl, rfl, ?_⟩
                  obtain ⟨w0, w', f2, T2, hw2, hT2, nw, o2, back2⟩ := tgt_own st3 eg
                  rw [hv] at hw2; cases hw2
                  have := ((nv.mono h2).mono h3).uniq nw
                  subst this
                  cases o2 with
                  | @dN _ xs2 _ ho2 hk2 hq2 hr2 =>
                    obtain ⟨T', st4, s4⟩ := nd_up (v := .int (augI s old y)) (y := .int (augI s old y)) st3 ho2 hk2 hq2 hr2 en (ry.mono s3.sF) (.int _) (fun b => rfl) hT2 back2 es
                    exact ⟨a, b, xs2, x, rfl, rfl, ho2, keysAt_mono st3.sub (keysAt_of hk2 hq2), (ry.mono s3.sF).mono st3.sub, hx, by rw [nd_len hk2]; exact hz, nx_of (show KS G F H T D .nx S2 from z) (((s1.trans s2).trans s3).trans s4) st4⟩
            · exact z.elim
          · exact z.elim
        · exact z.elim
end
end TB

/-! TbA3: fields op=, xs[k] = e at a path, unpacking into fields, records. -/
namespace TB
open PySem L2
section
variable {X : Cx} {G : Cfgx} {W : WX} {k : Nat} {F H : Hp} {σ : L2.St} {S : List Slot} {T : Cnt}
theorem in_aug (s : Bool) : InOp X (augOp s) (if s then L2.rSub else L2.rAdd) := by cases s <;> first | exact in_add | exact in_sub
theorem r_aug (s : Bool) {i j : Int} {H : Hp} {Q : VK} (h : Q (.int (augI s i j)) H) : (if s then L2.rSub else L2.rAdd) (.int i) (.int j) H Q := by
  cases s <;> exact ⟨i, j, rfl, rfl, h⟩
theorem tr_augF (c n : Nat) (s : Bool) {op : Operator} {o e : Expr} {f : PySem.Str} {i : Nat} {ps : List PS} {m : E} {p' pos : Pos} (h : TrP X G o i ps) (he : TrQ X G e m) (hc : L2.Cls X.K (G.ca c)) (hf : L2.NoAttr X.K (G.ca c) f) (hn : (G.cn c)[n]? = some f := by rfl) (nd : (G.cn c).Nodup := by decide) (ho : augOp s = op := by rfl) :
    TrS X G W (.AugAssign (.Attribute o f p') op e pos) (pAugF i ps c n s m) := by
  obtain ⟨t, p, d⟩ := h
  obtain ⟨u, q, d2⟩ := he
  subst ho
  refine ⟨_, ps_fldaug p q (in_aug s), fun F H σ S T D st z => ?_⟩
  unfold pAugF at z
  cases eg : tgt i ps S with
  | none => rw [eg] at z; exact z.elim
  | some g =>
    cases ev : eFzD m S with
    | none => rw [eg, ev] at z; exact z.elim
    | some y =>
      rw [eg, ev] at z
      cases y <;> first | exact z.elim | skip
      rename_i y
      obtain ⟨pv, rk, rd, gk, gd⟩ := g
      simp only at z
      split at z
      · rename_i ks c' ds
        split at z
        · rename_i hcc
          subst hcc
          split at z
          · rename_i x e1 e2
            split at z
            · rename_i r er
              cases es : (⟨pv, rk, rd, .ob ks, .ob c' ds⟩ : Tgt).put i (.ob r.1, .ob c' r.2) S with
              | none => rw [es] at z; exact z.elim
              | some S2 =>
              rw [es] at z
              refine d F H σ S T _ _ st eg fun v0 w F1 H1 s1 st1 h1 hv nv => ?_
              obtain ⟨v0', v', f', T0, hv', hT, nv', o', back⟩ := tgt_own st1 eg
              rw [hv] at hv'; cases hv'
              have := nv.uniq nv'
              subst this
              cases o' with
              | @ob _ a dx _ fs _ gg hob hnm rl =>
                obtain ⟨w, fw, g0, hg0, hw, ow, _⟩ := rl.at e1 e2
                cases ow with
                | fz rw' =>
                cases rep_int rw'
                have hl : fs.length = ds.length := by have := rl.len.1; simpa using this
                have hnl : n < fs.length := by rw [hl]; exact (List.getElem?_eq_some_iff.mp e2).1
                refine ⟨a, _, dx, fs, .int x, rfl, hob, hc, hf, lookup_at (by rw [hnm]; exact nd.sublist (List.take_sublist _ _)) (take_at hnm hn hnl) hw, ?_⟩
                obtain ⟨S'', en⟩ := fzD_eq ev
                refine d2 F1 H1 σ S T _ _ S'' st1 en fun wv F2 H2 s2 st2 h2 re => ?_
                cases rep_int re
                refine r_aug s ?_
                obtain ⟨w0, w', f2, T2, hw2, hT2, nw, o2, back2⟩ := tgt_own st2 eg
                rw [hv] at hw2; cases hw2
                have := (nv.mono h2).uniq nw
                subst this
                cases o2 with
                | @ob _ _ dx2 _ fs2 _ gg2 hob2 hnm2 rl2 =>
                  obtain ⟨hl3, T', st4, s4⟩ := fld_put (v := .int (augI s x y)) (fe := nil0) st2 hn nd hob2 hnm2 rl2 (fun b => rfl) hT2 back2 (.fz (.int _)) (fun b => by simp only [nil0]; exact st2.le b) (fun _ _ => rfl) er es
                  exact ⟨_, fs2, hob2, hl3, nx_of (show KS G F H T D .nx S2 from z) ((s1.trans s2).trans (s4.castL fun b => by simp [add, nil0])) st4⟩
            · exact z.elim
          · exact z.elim
        · exact z.elim
      · exact z.elim
theorem tr_pSetIx {o e ke : Expr} {i : Nat} {ps : List PS} {n m : E} {p' pos : Pos} (h : TrP X G o i ps) (hk : TrQ X G ke n) (he : TrE X G W e m)
    (ha : ∀ v, assign (.Subscript o ke p') X.env v = (do
      let ov ← holding [v] (eval o X.env)
      let iv ← holding [v, ov] (eval ke X.env)
      standAt p'
      holding [v, ov, iv] (setItem ov iv v)
      release [v, ov, iv] []) := by intro _; rfl)
    (hs : swapsWithSole [.Subscript o ke p'] e pos.line X.env = pure false := by rfl) (hw2 : swappedStores [.Subscript o ke p'] e X.env = pure none := by rfl) (h1 : (assignEach [.Subscript o ke p'] X.env).map (·.2) = [assign (.Subscript o ke p') X.env] := by rfl) :
    TrS X G W (.Assign [.Subscript o ke p'] e pos) (pSetIxF i ps n m) := by
  obtain ⟨t, p, d⟩ := h
  obtain ⟨u, q, d2⟩ := he
  obtain ⟨t3, q3, d3⟩ := hk
  refine ⟨_, ps_asg q (pg_sub p q3 set_list ha) hs hw2 h1, fun F H σ S T D st z => d2.dat F H σ S T _ st (PRs.bind z fun y S1 z1 => ?_)⟩
  intro v F1 H1 T1 s1 st1 r1
  have z1 := PRs.reS s1 z1
  have z1 : PRs G W F1 H1 T1 (KS G F1 H1 T1 D) (match tgt i ps S1, eFzD n S1 with
    | some t, some (.int j) => match t.k, t.d with
      | .li .fz, .lst xs => (match normIx xs.length j with
        | some n => pOk .nx (t.put i (.li .fz, .lst (xs.set n y)) S1)
        | none => .bad)
      | _, _ => .bad
    | _, _ => .bad) := z1
  cases eg : tgt i ps S1 with
  | none => rw [eg] at z1; exact z1.elim
  | some g =>
    cases ek : eFzD n S1 with
    | none => rw [eg, ek] at z1; exact z1.elim
    | some x =>
      rw [eg, ek] at z1
      cases x <;> first | exact z1.elim | skip
      rename_i j
      obtain ⟨pv, rk, rd, gk, gd⟩ := g
      simp only at z1
      split at z1
      · rename_i xs
        split at z1
        · rename_i nn e3
          refine d F1 H1 σ S1 T1 _ _ st1 eg fun v0 w F2 H2 s2 st2 sH hv nv => ?_
          obtain ⟨S', em⟩ := fzD_eq ek
          refine d3 F2 H2 σ S1 T1 _ _ S' st2 em fun yv F3 H3 s3 st3 sH3 ry => ?_
          cases rep_int ry
          obtain ⟨v0', v', f', T0, hv', hT, nv', o', back⟩ := tgt_own st3 eg
          rw [hv] at hv'; cases hv'
          have := (nv.mono sH3).uniq nv'
          subst this
          cases o' with
          | @li _ a vs _ gg hl rl =>
            obtain ⟨rr, rfl⟩ := reps_fz rl
            cases es : (⟨pv, rk, rd, .li .fz, .lst xs⟩ : Tgt).put i (.li .fz, .lst (xs.set nn y)) S1 with
            | none => rw [es] at z1; exact z1.elim
            | some S2 =>
              rw [es] at z1
              obtain ⟨n1, n2, n3⟩ := norm_ix e3
              obtain ⟨T', st4, s4⟩ := list_up st3 hl (fun b => rfl) hT back (rr.set (r1.mono (s2.sF.trans s3.sF)) nn) es
              exact ⟨a, vs, j, nn, rfl, rfl, hl, by rw [rr.len]; exact n1, nx_of (show KS G F1 H1 T1 D .nx S2 from z1) ((s2.trans s3).trans s4) st4⟩
        · exact z1.elim
      · exact z1.elim
end
end TB

/-! TbA4: unpacking into fields, records. -/
namespace TB
open PySem L2
section
variable {X : Cx} {G : Cfgx} {W : WX} {k : Nat} {F H : Hp} {σ : L2.St} {S : List Slot} {T : Cnt}
def gFld (K : PySem.W.Frag) (ta : TE) (f : PySem.Str) : TG := fun v σ H Q => ta σ H fun x H1 => ∃ a C dx fs, x = .ref a ∧ H1 a = some (.ins C dx fs) ∧ L2.Cls K C ∧ L2.NoAttr K C f ∧ fs.length < 1000 ∧ Q σ (upd H1 a (.ins C dx (putF f v fs)))
theorem pg_fld {o : Expr} {f : PySem.Str} {pos : Pos} {ta : TE} (ho : PE X o ta) : PG X (.Attribute o f pos) (gFld X.K ta f) := by
  refine ⟨fun pins s σ H v u Q I r h => ?_⟩
  rw [assign_Attribute]
  refine wpAny_bind (wpAny_holding (thn (ho.run pins s σ H _ I h) fun ov s1 ⟨x, H1, I1, r1, a, C, dx, fs, ex, ea, c, n, l, q1⟩ => ?_))
  subst ex
  obtain rfl : ov = Value.ref a := r1
  refine wpAny_bind (wpAny_standAt (wpAny_bind (wpAny_holding ?_)))
  exact setattr_ok I1 ea c n l r fun s2 I2 => wpAny_release ⟨σ, _, I2, q1⟩
def GsF (G : Cfgx) (g : TGs) (i c : Nat) (ns : List Nat) : Prop := ∀ F H σ S T vs ds S' (Q : L2.St → Hp → Prop), St' G F H σ S T → Reps G F vs ds → sPutFl i c ns ds S = some S' → (∀ F' H' T', Step F H T F' H' T' → St' G F' H' σ S' T' → Q σ H') → g vs σ H Q
def TrGF (X : Cx) (G : Cfgx) (es : List Expr) (i c : Nat) (ns : List Nat) : Prop := ∃ g, PGs X es g ∧ GsF G g i c ns
theorem tgf_nil {i c : Nat} : TrGF X G [] i c [] := ⟨_, pgs_nil, fun F H σ S T vs ds S' Q st r e k => by
  cases r with
  | nil =>
    unfold sPutFl at e
    cases e
    exact ⟨rfl, k F H T (Step.refl F H T) st⟩
  | cons a b => unfold sPutFl at e; cases e⟩
theorem tgf_cons {i c n : Nat} {o : Expr} {f : PySem.Str} {pos : Pos} {es : List Expr} {ns : List Nat} (h : TrP X G o i []) (r : TrGF X G es i c ns) (hc : L2.Cls X.K (G.ca c)) (hf : L2.NoAttr X.K (G.ca c) f) (hn : (G.cn c)[n]? = some f := by rfl) (nd : (G.cn c).Nodup := by decide)
    (ha : (assignEach (.Attribute o f pos :: es) X.env).map (·.2) = assign (.Attribute o f pos) X.env :: (assignEach es X.env).map (·.2) := by rfl) : TrGF X G (.Attribute o f pos :: es) i c (n :: ns) := by
  obtain ⟨t, p, d⟩ := h
  obtain ⟨g, q, dg⟩ := r
  refine ⟨_, pgs_cons (pg_fld p) q ha, fun F H σ S T vs ds S' Q st rr e kk => ?_⟩
  cases rr with
  | nil => unfold sPutFl at e; cases e
  | @cons v d0 vs ds r1 r2 =>
    unfold sPutFl at e
    cases eg : tgt i [] S with
    | none => rw [eg] at e; cases e
    | some g0 =>
      rw [eg] at e
      obtain ⟨pv, rk, rd, gk, gd⟩ := g0
      simp only at e
      split at e
      · rename_i ks c' fds
        split at e
        · rename_i hcc
          subst hcc
          split at e
          · rename_i r er
            cases es2 : (⟨pv, rk, rd, .ob ks, .ob c' fds⟩ : Tgt).put i (.ob r.1, .ob c' r.2) S with
            | none => rw [es2] at e; cases e
            | some S2 =>
              rw [es2] at e
              have e : sPutFl i c' ns ds S2 = some S' := e
              refine ⟨v, vs, rfl, d F H σ S T _ _ st eg fun v0 w F1 H1 s1 st1 sH hv nv => ?_⟩
              obtain ⟨v0', v', f', T0, hv', hT, nv', o', back⟩ := tgt_own st1 eg
              rw [hv] at hv'; cases hv'
              have := nv.uniq nv'
              subst this
              cases o' with
              | @ob _ a dx _ fs _ gg hob hnm rl =>
                obtain ⟨hl3, T', st4, s4⟩ := fld_put (v := v) (fe := nil0) st1 hn nd hob hnm rl (fun b => rfl) hT back (.fz (r1.mono s1.sF)) (fun b => by simp only [nil0]; exact st1.le b) (fun _ _ => rfl) er es2
                have s14 := s1.trans (s4.castL fun b => by simp [add, nil0])
                refine ⟨a, _, dx, fs, rfl, hob, hc, hf, hl3, ?_⟩
                exact dg F1 _ σ S2 T' vs ds S' Q st4 (r2.mono s1.sF) e fun F' H' T2 s2 st2 => kk F' H' T2 (s14.trans s2) st2
          · cases e
        · cases e
      · cases e
theorem sPutFl_len {i c : Nat} : ∀ {ns : List Nat} {ds : List D} {S S' : List Slot}, sPutFl i c ns ds S = some S' → ds.length = ns.length
  | [], [], _, _, _ => rfl
  | [], _ :: _, _, _, e => by unfold sPutFl at e; cases e
  | _ :: _, [], _, _, e => by unfold sPutFl at e; cases e
  | n :: ns, d :: ds, S, S', e => by
    unfold sPutFl at e
    split at e
    · split at e
      · split at e
        · split at e
          · rename_i r er
            cases es2 : Tgt.put _ i (.ob r.1, .ob c r.2) S with
            | none => rw [es2] at e; cases e
            | some S2 => rw [es2] at e; simp [sPutFl_len (show sPutFl i c ns ds S2 = some S' from e)]
          · cases e
        · cases e
      · cases e
    · cases e
/-- o.a, o.b = e -/
theorem tr_unpF (i c : Nat) {es : List Expr} {ns : List Nat} {e : Expr} {m : E} {kk : Nat} {n : Nat} {tpos pos : Pos} (C : Cok X G W k) (h : TrE X G W e m) (hg : TrGF X G es i c ns) (hl : ns.length = n := by rfl) (hn : (assignEach es X.env).length = n := by rfl) (hst : (assignEach es X.env).findIdx? (·.1) = none := by rfl)
    (hs : swapsWithSole [.Tuple es kk tpos] e pos.line X.env = pure false := by rfl) (hw : swappedStores [.Tuple es kk tpos] e X.env = pure none := by rfl) (h1 : (assignEach [.Tuple es kk tpos] X.env).map (·.2) = [assign (.Tuple es kk tpos) X.env] := by rfl) : TrS X G W (.Assign [.Tuple es kk tpos] e pos) (sUnpF i c ns m) := by
  obtain ⟨t, p, d⟩ := h
  obtain ⟨g, q, dg⟩ := hg
  refine ⟨_, ps_asg p (pg_tup C.calm q hn hst) hs hw h1, fun F H σ S T D st z => d.dat F H σ S T _ st (PRs.bind z fun y S1 z1 => ?_)⟩
  intro v F1 H1 T1 s1 st1 r1
  have z1 : PRs G W F H T (KS G F H T D) (unpR i c ns y S1) := z1
  cases r1 with
  | @tup a vs ds hs2 rs =>
    unfold unpR at z1
    cases e1 : sPutFl i c ns ds S1 with
    | none => simp only [e1] at z1; exact z1.elim
    | some S2 =>
      simp only [e1] at z1
      refine ⟨a, vs, rfl, C.hK ▸ same_t st1.sub hs2, by rw [rs.len, sPutFl_len e1, hl], ?_⟩
      exact dg F1 H1 σ S1 T1 vs ds S2 _ st1 rs e1 fun F' H' T' s' st' => nx_of (show KS G F H T D .nx S2 from z1) (s1.trans s') st'
  | _ => exact z1.elim
/-! ### records -/
def KPs (G : Cfgx) (F H : Hp) (σ : L2.St) (T : Cnt) (zs : List PySem.Str) (Q : List (V × V) → Hp → Prop) (kds : List KD) (S' : List Slot) : Prop :=
  ∀ vs F' H' T' f, Step F H T F' H' (add T' f) → St' G F' H' σ S' T' → OwnL G F' H' (kds.map (·.1)) vs (kds.map (·.2)) f → (∀ a, T' a + f a ≤ 1) → (∀ a, F' a ≠ none → f a = 0) → Q ((zs.zip vs).map fun p => (V.str p.1, p.2)) H'
def DenPs (G : Cfgx) (W : WX) (trs : List (TE × TE)) (zs : List PySem.Str) (m : M (List KD)) : Prop := ∀ F H σ S T Q, St' G F H σ S T → PR G W F H σ T (KPs G F H σ T zs Q) (m S) → tPairs trs σ H Q
def TrPs (X : Cx) (G : Cfgx) (W : WX) (pos : Pos) (keys : List (Option Expr)) (vals : List Expr) (zs : List PySem.Str) (ms : List E) : Prop := ∃ trs, PPs X pos keys vals trs ∧ DenPs G W trs zs (eAllK ms)
theorem tps_nil {pos : Pos} : TrPs X G W pos [] [] [] [] := ⟨_, pps_nil, fun F H σ S T Q st p => (show KPs G F H σ T [] Q [] S from p) [] F H T nil0 ((Step.refl F H T).castR fun a => rfl) st .nil (fun a => st.le a) fun _ _ => rfl⟩
theorem tps_cons {pos p1 : Pos} {z : PySem.Str} {j : Nat} {v : Expr} {ks : List (Option Expr)} {vs : List Expr} {zs : List PySem.Str} {m : E} {ms : List E} (h : TrE X G W v m) (r : TrPs X G W pos ks vs zs ms) : TrPs X G W pos (some (.Constant (.str z) j p1) :: ks) (v :: vs) (z :: zs) (m :: ms) := by
  obtain ⟨t, hp, hd⟩ := h
  obtain ⟨u, hq, hu⟩ := r
  refine ⟨_, pps_cons pe_str hp hq, fun F H σ S T Q st p => ?_⟩
  show t σ H fun v H2 => tPairs u σ H2 fun ps H3 => Q ((V.str z, v) :: ps) H3
  have p : PR G W F H σ T (KPs G F H σ T (z :: zs) Q) ((m S).bind fun kd => M.bind (eAllK ms) fun r => M.pure (kd :: r)) := p
  refine hd F H σ S T _ st (PR.bind p fun kd S1 q => ?_)
  intro v F1 H1 T1 f1 s1 st1 o1 le1 di1
  refine hu F1 H1 σ S1 T1 _ st1 (PR.bind (PR.re (s1.less (T2 := T1) fun a => by simp only [add]; omega) (fun _ _ h => h) q) fun kds S2 q2 => ?_)
  intro vs F2 H2 T2 f2 s2 st2 o2 le2 di2
  have q2 : KPs G F H σ T (z :: zs) Q (kd :: kds) S2 := q2
  have th : ∀ a, f1 a ≠ 0 → H1 a ≠ none := fun a n => o1.there a n
  obtain ⟨b1, b2, b3⟩ := s2.frame (R := f1) le1 th
  refine q2 (v :: vs) F2 H2 T2 (add f1 f2) (s1.trans (b1.castR fun a => ?_)) st2 (.cons (o1.mono s2.sF b3) o2) (fun a => ?_) fun a n => ?_
  · simp only [add]; omega
  · by_cases w : f1 a = 0
    · have := le2 a; simp only [add]; omega
    · have y := b2 a w; have := le1 a; simp only [add] at y ⊢; omega
  · by_cases w : f1 a = 0
    · have := di2 a n; simp only [add]; omega
    · exfalso
      by_cases w2 : F1 a = none
      · exact n (s2.keepF w2 (th a w) (by have := le1 a; omega) (o1.noT a w))
      · exact w (di1 a w2)
theorem merge_nd : ∀ (kvs acc : List (Key × V)), ((acc ++ kvs).map (·.1)).Nodup → mergeK acc kvs = acc ++ kvs
  | [], acc, _ => by simp [mergeK]
  | p :: kvs, acc, h => by
    have e : putK acc p.1 p.2 = acc ++ [p] := by
      unfold putK
      rw [if_neg]
      intro z
      obtain ⟨q, hq, e⟩ := List.any_eq_true.mp z
      have e := of_decide_eq_true e
      rw [List.map_append, List.nodup_append] at h
      exact h.2.2 q.1 (List.mem_map.mpr ⟨q, hq, rfl⟩) p.1 (by simp) e
    show mergeK (putK acc p.1 p.2) kvs = _
    rw [e, merge_nd kvs (acc ++ [p]) (by simpa using h)]
    simp
theorem rec_rel : ∀ {zs : List PySem.Str} {ks : List (List Nat)} {kds : List KD} {vs : List V}, ks = zs.map (fun z => z.cps.toList) → vs.length = kds.length → ks.length = kds.length →
    (recD ks kds).map (·.1) = ((zs.zip vs).map fun p => ((Sum.inr p.1 : Key), p.2)).map (fun p => keyD p.1) ∧ (recD ks kds).map (·.2) = kds.map (·.2) ∧ ((zs.zip vs).map fun p => ((Sum.inr p.1 : Key), p.2)).map (·.2) = vs ∧ ((zs.zip vs).map fun p => ((Sum.inr p.1 : Key), p.2)).length = ks.length
  | [], ks, kds, vs, h, h1, h2 => by
    subst h
    have : kds = [] := List.length_eq_zero_iff.mp h2.symm
    subst this
    have : vs = [] := List.length_eq_zero_iff.mp h1
    subst this
    exact ⟨rfl, rfl, rfl, rfl⟩
  | z :: zs, ks, kds, vs, h, h1, h2 => by
    subst h
    cases kds with
    | nil => simp at h2
    | cons kd kds =>
      cases vs with
      | nil => simp at h1
      | cons v vs =>
        obtain ⟨a, b, c, d⟩ := rec_rel (zs := zs) (kds := kds) (vs := vs) rfl (by simpa using h1) (by simpa using h2)
        refine ⟨?_, ?_, ?_, ?_⟩
        · simp only [List.map_cons, recD, List.zip_cons_cons]
          rw [a]; rfl
        · simp only [List.map_cons, recD]
          rw [b]
        · simp only [List.map_cons, List.zip_cons_cons]
          rw [c]
        · simp only [List.map_cons, List.zip_cons_cons, List.length_cons]
          rw [d]
theorem nodupT_nd : ∀ {zs : List PySem.Str}, nodupT (zs.map fun z => z.cps.toList) = true → zs.Nodup
  | [], _ => .nil
  | z :: zs, h => by
    rw [List.map_cons] at h
    unfold nodupT at h
    rw [Bool.and_eq_true] at h
    refine List.nodup_cons.mpr ⟨fun m => ?_, nodupT_nd h.2⟩
    have h1 := h.1
    rw [List.contains_iff_mem.mpr (List.mem_map.mpr ⟨z, m, rfl⟩)] at h1
    cases h1
theorem tr_rec (ks : List (List Nat)) {pos : Pos} {keys : List (Option Expr)} {vals : List Expr} {zs : List PySem.Str} {ms : List E} (h : TrPs X G W pos keys vals zs ms) (hz : zs.map (fun z => z.cps.toList) = ks := by rfl) (hall : keys.all (·.isSome) = true := by rfl) (hl : keys.length = vals.length := by rfl) (h0 : keys ≠ [] := by intro z; cases z) (h15 : keys.length ≤ 15 := by decide) :
    TrE X G W (.Dict keys vals pos) (eRec ks ms) := by
  obtain ⟨trs, hp, hd⟩ := h
  subst hz
  refine ⟨_, pe_disp hp hall hl h0 h15, fun F H σ S T Q st z => ?_⟩
  intro p hp
  obtain ⟨st2, s0, le0, fp⟩ := st.newT (o := .dK []) hp
  have s0' : Step F H T F (upd H p (.dK [])) T := s0.less fun a => by simp only [add]; omega
  refine hd F _ σ S T _ st2 (PR.bind (PR.re s0' (fun _ _ h => h) z) fun kds S1 q => ?_)
  intro vs F1 H1 T1 f1 s1 st1 o1 le1 di1
  have q : PR G W F (upd H p (.dK [])) σ T (KE G F H σ T Q) ((if (nodupT (zs.map fun z => z.cps.toList) && (zs.map fun z => z.cps.toList).length == kds.length && decide ((zs.map fun z => z.cps.toList).length ≤ 15)) = true then M.pure (.dR (kds.map (·.1)), .dic (recD (zs.map fun z => z.cps.toList) kds)) else eBad) S1) := q
  split at q
  · rename_i hc
    simp only [Bool.and_eq_true, decide_eq_true_eq, beq_iff_eq] at hc
    obtain ⟨⟨hnd, hlen⟩, h15'⟩ := hc
    have q : KE G F H σ T Q (.dR (kds.map (·.1)), .dic (recD (zs.map fun z => z.cps.toList) kds)) S1 := q
    have hp0 : T p = 0 := Decidable.byContradiction fun n => st.there p n hp
    have hp1 : H1 p = some (.dK []) := s1.fr p _ hp0 upd_same
    have lv : vs.length = kds.length := by have := o1.len.1; simpa using this
    obtain ⟨r1, r2, r3, r4⟩ := rec_rel (zs := zs) (ks := zs.map fun z => z.cps.toList) (kds := kds) (vs := vs) rfl lv hlen
    have hndz := nodupT_nd hnd
    have hzl : zs.length = vs.length := by rw [List.length_map] at hlen; omega
    have knd : (((zs.zip vs).map fun p => ((Sum.inr p.1 : Key), p.2)).map (·.1)).Nodup := by
      have e : ((zs.zip vs).map fun p => ((Sum.inr p.1 : Key), p.2)).map (·.1) = zs.map Sum.inr := by
        rw [List.map_map]
        show (zs.zip vs).map (fun p => (Sum.inr p.1 : Key)) = _
        have : (zs.zip vs).map (fun p => (Sum.inr p.1 : Key)) = ((zs.zip vs).map (·.1)).map Sum.inr := by rw [List.map_map]; rfl
        rw [this, List.map_fst_zip (by omega)]
      rw [e]
      exact hndz.map _ fun a b h e => h (Sum.inr.inj e)
    have mg : mergeK [] ((zs.zip vs).map fun p => ((Sum.inr p.1 : Key), p.2)) = (zs.zip vs).map fun p => ((Sum.inr p.1 : Key), p.2) := by
      have := merge_nd ((zs.zip vs).map fun p => ((Sum.inr p.1 : Key), p.2)) [] (by simpa using knd)
      simpa using this
    refine ⟨hp1, (zs.zip vs).map fun p => ((Sum.inr p.1 : Key), p.2), ?_, by rw [r4]; exact h15', ?_⟩
    · rw [List.map_map]; rfl
    · rw [mg]
      have fp1 : F1 p = none := by
        by_cases w : F1 p = none
        · exact w
        · exfalso
          rcases s1.nF p fp w with z | z | z
          · rw [upd_same] at z; cases z
          · exact z hp0
          · rw [upd_same] at z; rcases z with ⟨_, z⟩ | ⟨_, _, z⟩ <;> cases z
      have t1p : T1 p = 0 ∧ f1 p = 0 := by
        have : add T1 f1 p = 0 := Decidable.byContradiction fun n => by
          rcases s1.nT p n with z | z
          · exact z hp0
          · rw [upd_same] at z; cases z
        simp only [add] at this; omega
      have o2 : OwnL G F1 (upd H1 p (.dK ((zs.zip vs).map fun p => ((Sum.inr p.1 : Key), p.2)))) (kds.map (·.1)) vs (kds.map (·.2)) f1 := o1.mono (Same.refl F1) fun a o n e => by
        rw [upd_ne (fun z => by rw [z] at n; omega)]; exact e
      have oo : Own G F1 (upd H1 p (.dK ((zs.zip vs).map fun p => ((Sum.inr p.1 : Key), p.2)))) (.dR (kds.map (·.1))) (.ref p) (.dic (recD (zs.map fun z => z.cps.toList) kds)) (add (one p) f1) := .dR upd_same r1 (by rw [r3, r2]; exact o2)
      refine q (.ref p) F1 _ T1 (add (one p) f1) ⟨s0'.sF.trans s1.sF, fun a o t e => ?_, fun a n => ?_, fun a n1 n2 => ?_, fun a n => ?_⟩ ⟨st1.pi, fun a o e => ?_, st1.sl.mono (Same.refl F1) fun a o n e => ?_, st1.le, st1.di⟩ oo (fun a => ?_) fun a n => ?_
      · have ne : a ≠ p := ne_of_none e hp
        rw [upd_ne ne]
        exact s1.fr a o t (by rw [upd_ne ne]; exact e)
      · by_cases w : a = p
        · rw [w]; exact .inr hp
        · have n' : add T1 f1 a ≠ 0 := by simp only [add, one, if_neg w] at n ⊢; omega
          rcases s1.nT a n' with z | z
          · exact .inl z
          · rw [upd_ne w] at z; exact .inr z
      · by_cases w : a = p
        · rw [w]; exact .inl hp
        · rcases s1.nF a n1 n2 with z | z | z
          · rw [upd_ne w] at z; exact .inl z
          · exact .inr (.inl z)
          · rw [upd_ne w] at z; exact .inr (.inr z)
      · by_cases w : a = p
        · rw [w, upd_same]; simp
        · rw [upd_ne w]; exact s1.tl a (by rw [upd_ne w]; exact n)
      · rw [upd_ne (fun z => by rw [z, fp1] at e; cases e)]; exact st1.sub _ _ e
      · rw [upd_ne (fun z => by rw [z] at n; omega)]; exact e
      · by_cases w : a = p
        · rw [w]; simp only [add, one, if_true]; omega
        · have := le1 a; simp only [add, one, if_neg w]; omega
      · by_cases w : a = p
        · rw [w] at n; exact absurd fp1 n
        · have := di1 a n; simp only [add, one, if_neg w]; omega
  · exact q.elim
end
end TB

/-! TbA5: enumerate, over a list and over a tuple. -/
namespace TB
open PySem L2
open Sem (wp)
open PySem.Calls PyProof.Rows
section
theorem meets_enum1 {v : Value} {o : Obj} {H : Heap → Prop} (B : Begins v o H) :
    Meets (Builtin.«enumerate.__new__» ⟨[.type "enumerate", v], []⟩) (fun _ R s => H s.heap ∧
      R (.ok (.ret (.ref (s.heap.push o).objs.size))) { s with heap := (s.heap.push o).push { cls := .type "enumerate", data := .fields #[.none, .bool false, .ref s.heap.objs.size, rawInt 0, .none, .none] } }) :=
  .of_wp fun prog w A R s h => by
    obtain ⟨hp, g, d, tk, os⟩ := s; obtain ⟨h1, h⟩ := h
    have hsub := sub_enumerate
    have q1 : ∀ {A' : Around} {E : Value → Shared → Prop} {Q : Value → Shared → Prop}, Q (.ref hp.objs.size) ⟨hp.push o, g, d, tk, os⟩ → wpAny (model prog w) A' (pyIter v) Q E ⟨hp, g, d, tk, os⟩ :=
      fun q => B.iter prog w _ _ ⟨hp, g, d, tk, os⟩ _ h1 q
    wp_walk using q1
    refine wpAny_stack_any fun st => wpAny_pure ?_
    split
    · rename_i c _ _ _ _ _
      cases (c == Value.type "enumerate")
      · wp_walk using q1
        exact ⟨_, rfl, h⟩
      · wp_walk using q1
        exact ⟨_, rfl, h⟩
    · wp_walk using q1
      exact ⟨_, rfl, h⟩
theorem enum1_begins {prog : Program} {w : World} {A : Around} {E : Value → Shared → Prop} {s : Shared} {v : Value} {o : Obj} {H : Heap → Prop} {Q : Value → Shared → Prop} (B : Begins v o H) (h1 : H s.heap)
    (h : ∀ h', IsEnum h' (s.heap.objs.size + 1) s.heap.objs.size 0 .none → h'.get? s.heap.objs.size = some o → h'.objs.size = s.heap.objs.size + 2 →
      (∀ b o, s.heap.get? b = some o → h'.get? b = some o) → Q (.ref (s.heap.objs.size + 1)) { s with heap := h' }) :
    wpAny (model prog w) A (call (.type "enumerate") [v]) Q E s := by
  refine callType_new F.called_enumerate (by decide) (F.typeCall_enumerate_1 _) (F.newCall_enumerate_1 _) (fun obj => F.args_object_init_2 obj _) F.entry_enumerate_new
    (meets_enum1 B) ⟨h1, ?_⟩
  have hz : (s.heap.push o).objs.size = s.heap.objs.size + 1 := Heap.size_push ..
  show _ ∧ _
  rw [hz]
  have he : IsEnum ((s.heap.push o).push { cls := .type "enumerate", data := .fields #[.none, .bool false, .ref s.heap.objs.size, rawInt 0, .none, .none] }) (s.heap.objs.size + 1) s.heap.objs.size 0 .none := by
    have := Heap.get?_push_size (s.heap.push o) (o := { cls := .type "enumerate", data := .fields #[.none, .bool false, .ref s.heap.objs.size, rawInt 0, .none, .none] }) rfl
    rw [hz] at this; exact this
  refine ⟨⟨_, he, rfl⟩, h _ he (Heap.get?_push_of_some _ (Heap.get?_push_size _ B.free)) (by rw [Heap.size_push, hz]) fun b o x => Heap.get?_push_of_some _ (Heap.get?_push_of_some _ x)⟩
def IteT (K : PySem.W.Frag) (a : Addr) : L2.It :=
  ⟨fun i H => ∃ (xs : List V) (x : V), SqT K H a xs ∧ xs[i]? = some x, fun i H v H' => ∃ T x, v = .ref T ∧ H T = none ∧ H' = upd H T (.tup [.int (i : Nat), x]) ∧ ∀ xs, SqT K H a xs → xs[i]? = some x, fun i H => ∃ xs : List V, SqT K H a xs ∧ xs.length = i⟩
theorem turn_enumT {P : Program} {w : World} {K : PySem.W.Frag} {elts : List Expr} {kk : Nat} {tpos : Pos} (a e it : Addr) (hai : a ≠ it) :
    Turn P w K (.Tuple elts kk tpos) (IteT K a) [e, it] e (fun i h => (∃ old, IsEnum h e it ((i : Nat) : Int) old) ∧ h.IsTupleIter it a i ∧ e ≠ it ∧ e ≠ a) where
  mem := by simp
  obj := fun i h st b hb => by
    obtain ⟨⟨old, he⟩, ⟨o, ho, hc, hd⟩, _⟩ := st
    have e' : b = e ∨ b = it := by simpa using hb
    rcases e' with z | z
    · rw [z]; exact ⟨_, he, fun v q => nomatch q⟩
    · rw [z]; exact ⟨o, ho, fun v q => by rw [hd] at q; cases q⟩
  keep := fun i h h' st k => let ⟨⟨old, he⟩, hi, hne⟩ := st; ⟨⟨old, k e (by simp) _ he⟩, hi.at fun o q => k it (by simp) o q, hne⟩
  item := by
    intro X hP hw hK hc i pins s σ H E I hf st hg
    subst hP hw hK
    obtain ⟨⟨old, he⟩, hit, hne, hea⟩ := st
    obtain ⟨xs, x, hq, hx⟩ := hg
    obtain ⟨its, rv, p, hz⟩ := I.tuple hq
    obtain ⟨u, hu, ru⟩ := rv.get hx
    have hlt : i < its.toArray.size := by
      have := (List.getElem?_eq_some_iff.mp hu).1
      simpa using this
    have hel : e < s.heap.objs.size := Heap.lt_size he
    have hil : it < s.heap.objs.size := by obtain ⟨_, q, _⟩ := hit; exact Heap.lt_size q
    have D := Draws.tuple (prog := X.prog) (w := X.w) (A := X.A.in1) (I.ok.hd hc) it a hai its.toArray
    refine wpAny_pyNext_enum_itemC D he ⟨hit, p⟩ hlt hne (by simp [hne, hea]) fun u' h' tk hP ho hit' hT hsz hk => ?_
    obtain rfl : u' = u := by
      have h2 : its.toArray[i]? = some u := by simpa using hu
      rw [h2] at hP; exact (Option.some.inj hP).symm
    refine ⟨_, rfl, wpAny_letOwnedTupleGo_enum (s := { s with heap := h', toks := tk + 1 }) ho fun h'' he' sb => ?_⟩
    have hT2 : h''.get? s.heap.objs.size = some { cls := .type "tuple", data := .seq #[.int i tk, u'] } := (sb.2 _ (Nat.ne_of_gt hel)).trans hT
    have new : ObjOk X.prog X.w (upd H s.heap.objs.size (.tup [.int (i : Nat), x])) h'' s.heap.objs.size (.tup [.int (i : Nat), x]) :=
      ⟨by show 2 ≤ sizeLine; decide, [.int i tk, u'], .cons ⟨_, rfl⟩ (.cons ru .nil), ⟨_, hT2, rfl, _, rfl⟩⟩
    have I1 : Inv X pins σ (upd H s.heap.objs.size (.tup [.int (i : Nat), x])) { s with heap := h'', toks := tk + 1 } :=
      I.turnedNew (ch := [e, it]) (fun b ob hb q => (sb.2 b (fun z => hb (by simp [z]))).trans (hk b ob (fun z => hb (by simp [z])) (fun z => hb (by simp [z])) q)) hf (Nat.le_refl _) new
    refine ⟨.ref s.heap.objs.size, _, I1, rfl, ⟨_, x, rfl, I.hok.fresh (Nat.le_refl _), rfl, fun ys hy => by rw [I.tuple_inj hy hq]; exact hx⟩, ⟨⟨u', ?_⟩, hit'.1.at fun o q => (sb.2 it (Ne.symm hne)).trans q, hne, hea⟩, fun b hb => ?_⟩
    · have e1 : ((i + 1 : Nat) : Int) = (i : Int) + 1 := by omega
      rw [e1]; exact he'
    · have hb' : b < s.heap.objs.size := by
        have e' : b = e ∨ b = it := by simpa using hb
        rcases e' with z | z
        · rw [z]; exact hel
        · rw [z]; exact hil
      rw [upd_ne (Nat.ne_of_lt hb')]
      exact (hf b hb).1
  done := by
    intro X hP hw hK hc i pins s σ H E I hf st hg
    subst hP hw hK
    obtain ⟨⟨old, he⟩, hit, hne, hea⟩ := st
    obtain ⟨xs, hq, hx⟩ := hg
    obtain ⟨its, rv, p, hz⟩ := I.tuple hq
    obtain ⟨f0, f1, f2, f3, f4, f5⟩ := hf it (by simp)
    have hl := rv.length
    have hsz : its.toArray.size = i := by rw [List.size_toArray, ← hl, hx]
    have D := Draws.tuple (prog := X.prog) (w := X.w) (A := X.A.in1) (I.ok.hd hc) it a hai its.toArray
    exact wpAny_pyNext_enum_endD D he ⟨by rw [hsz]; exact hit, p⟩ fun h' eb => ⟨rfl, I.turned (t' := s.toks) (fun b o hb q => eb b o hb q) f0 f1 f3 f4 f5⟩
  self := fun A i s Q E st h => let ⟨⟨_, he⟩, _⟩ := st; wpAny_pyIter_enum he h
def iEnumA (K : PySem.W.Frag) (ta : TA) : TI := fun σ H R => ta σ H fun vs H1 => ∃ a xs, vs = [.ref a] ∧ ((SqL K H1 a xs ∧ R (L2.Ite K a) H1) ∨ (SqT K H1 a xs ∧ R (IteT K a) H1))
theorem pi_enumA {X : Cx} {e : Expr} {ta : TA} {p pos tpos : Pos} {elts : List Expr} {kk : Nat} (hg : Gl X "enumerate") (hm : X.mg "enumerate" = none) (ha : PA X [e] ta) (hs : starEach [e] X.env = [(false, eval e X.env)] := by rfl) :
    PI X (.Tuple elts kk tpos) (.Call (.Name "enumerate" p) [e] [] pos) (iEnumA X.K ta) := by
  refine ⟨fun pins s σ H R I h => ?_⟩
  refine Call_ (ld_blt I hg hm boot_enumerate (PyProof.Rows.callWith_type1 (thn (ha.run pos pins s σ H _ I h) fun us s1 ⟨vs, H1, I1, r1, q1⟩ => ?_) hs rfl))
  obtain ⟨a, xs, ex, q⟩ := q1
  subst ex
  cases r1 with
  | cons r rr =>
    cases rr
    cases r
    have fin : ∀ b, b ∈ [s1.heap.objs.size + 1, s1.heap.objs.size] → FpOk X pins H1 b := fun b hb => by
      have e' : b = s1.heap.objs.size + 1 ∨ b = s1.heap.objs.size := by simpa using hb
      have hle : s1.heap.objs.size ≤ b := by
        rcases e' with z | z
        · rw [z]; exact Nat.le_add_right _ _
        · rw [z]; exact Nat.le_refl _
      exact I1.fpOk hle (I1.hok.fresh hle)
    rcases q with ⟨hq, q⟩ | ⟨hq, q⟩
    · obtain ⟨its, rv, p', hz⟩ := I1.list hq
      refine call_enumerate_list p'.isList fun h' he hit hsz hk => wpAny_pyIter_enum he ?_
      have I2 : Inv X pins σ H1 { s1 with heap := h' } := I1.kept (t' := s1.toks) hk
      exact ⟨s1.heap.objs.size + 1, [s1.heap.objs.size + 1, s1.heap.objs.size], _, _, H1, rfl, I2, turn_enum a (s1.heap.objs.size + 1) s1.heap.objs.size, ⟨⟨.none, he⟩, hit, Nat.succ_ne_self _⟩, fin, q⟩
    · obtain ⟨its, rv, p', hz⟩ := I1.tuple hq
      have p'' : s1.heap.IsTuple a its.toArray := p'
      have hal : a < s1.heap.objs.size := by obtain ⟨o, ho, _⟩ := id p''; exact Heap.lt_size ho
      refine enum1_begins (begins_tuple a its.toArray) p'' fun h' he hit hsz hk => wpAny_pyIter_enum he ?_
      have I2 : Inv X pins σ H1 { s1 with heap := h' } := I1.kept (t' := s1.toks) hk
      exact ⟨s1.heap.objs.size + 1, [s1.heap.objs.size + 1, s1.heap.objs.size], _, _, H1, rfl, I2, turn_enumT a (s1.heap.objs.size + 1) s1.heap.objs.size (Nat.ne_of_lt hal), ⟨⟨.none, he⟩, ⟨_, hit, rfl, rfl⟩, Nat.succ_ne_self _, Nat.ne_of_gt (Nat.lt_succ_of_lt hal)⟩, fin, q⟩
theorem walk_enumT {K : PySem.W.Frag} {a : Addr} {xs : List V} : L2.Walk (IteT K a) xs.length (fun H => SqT K H a xs) (L2.YPair (fun i => some (.int (i : Nat))) (fun i => xs[i]?)) := by
  refine ⟨fun i _ hi q => ⟨xs, xs[i], q, by simp [hi]⟩, fun _ q => ⟨xs, q, rfl⟩, fun i H v H' _ q y => ?_⟩
  obtain ⟨T, x, h1, h2, h3, h4⟩ := y
  exact ⟨T, .int (i : Nat), x, h1, h2, h3, rfl, h4 xs q⟩
theorem enumL_len : ∀ (n : Nat) (ds : List D), (enumL n ds).length = ds.length
  | _, [] => rfl
  | n, d :: ds => by simp [enumL, enumL_len (n + 1) ds]
theorem enumL_at : ∀ (n : Nat) (ds : List D) (i : Nat) (e : D), (enumL n ds)[i]? = some e → ∃ d, ds[i]? = some d ∧ e = .tup [.int ((n + i : Nat) : Int), d]
  | n, [], i, e, h => by simp [enumL] at h
  | n, d :: ds, 0, e, h => by
    simp [enumL] at h
    exact ⟨d, rfl, h ▸ rfl⟩
  | n, d :: ds, i + 1, e, h => by
    simp only [enumL, List.getElem?_cons_succ] at h
    obtain ⟨x, h1, h2⟩ := enumL_at (n + 1) ds i e h
    exact ⟨x, by simpa using h1, by rw [h2]; congr 3; omega⟩
theorem walkD_enum {G : Cfgx} {F : Hp} {K : PySem.W.Frag} {J : L2.It} {vs : List V} {ds : List D} {P : Hp → Prop} (w : L2.Walk J vs.length P (L2.YPair (fun i => some (.int (i : Nat))) (fun i => vs[i]?))) (h : ∀ H, Same F H → P H) (r : Reps G F vs ds) : WalkD G F J (enumL 0 ds) := by
  rw [WalkD, enumL_len, ← r.len]
  refine ⟨_, w.mono (fun H s => h H s) (fun i H x H' _ _ y => y), fun i H x H' d e y => ?_⟩
  obtain ⟨T, u, v, rfl, h2, rfl, h3, h4⟩ := y
  obtain ⟨d', e1, rfl⟩ := enumL_at 0 ds i d e
  obtain ⟨v', hv, rv⟩ := r.get e1
  have h4 : vs[i]? = some v := h4
  rw [hv] at h4; cases h4
  cases (show some (V.int (i : Nat)) = some u from h3)
  exact .inr ⟨T, _, _, rfl, h2, rfl, rfl, .cons (by rw [Nat.zero_add]; exact .int _) (.cons rv .nil)⟩
variable {X : Cx} {G : Cfgx} {W : WX} {k : Nat}
theorem ti_enum {e : Expr} {m : E} {p pos tpos : Pos} {elts : List Expr} {kk : Nat} (C : Cok X G W k) (h : TrE X G W e m) (hm : X.mg "enumerate" = none) (hg : Gl X "enumerate" := by rfl) (hs : starEach [e] X.env = [(false, eval e X.env)] := by rfl) : TrI X G W (.Tuple elts kk tpos) (.Call (.Name "enumerate" p) [e] [] pos) (itEnum m) := by
  obtain ⟨t, q, d⟩ := h
  refine ⟨_, pi_enumA hg hm (pa_cons q pa_nil (by rw [hs]; rfl)) hs, fun F H σ S T R st z => ?_⟩
  show t σ H fun v H1 => _
  refine d.dat F H σ S T _ st (PR.bind z fun dd S1 y => ?_)
  intro v F1 H1 T1 s1 st1 r1
  cases r1 with
  | @tup a vs ds hq rs =>
    have y : KI G F H σ T R (enumL 0 ds) S1 := y
    exact ⟨a, vs, rfl, .inr ⟨C.hK ▸ same_t st1.sub hq, y _ F1 H1 T1 s1 st1 (walkD_enum (K := X.K) walk_enumT (fun H s => C.hK ▸ same_t s hq) rs)⟩⟩
  | @lst a vs ds hq rs =>
    have y : KI G F H σ T R (enumL 0 ds) S1 := y
    exact ⟨a, vs, rfl, .inl ⟨.inl (.inl (st1.sub _ _ hq)), y _ F1 H1 T1 s1 st1 (walkD_enum (K := X.K) L2.walk_enum (fun H s => .inl (.inl (s _ _ hq))) rs)⟩⟩
  | _ => exact y.elim
end
end TB

/-! TbZ1: next of a zip whose pair is still held; list(zip(..)), in the machine. -/
namespace TBZ
open PySem PySem.W
open Sem (wp)
/-- the zip whose last pair is at T -/
abbrev IsZo (h : Heap) (z TI TO T : Addr) (b : Bool) : Prop := h.get? z = some { cls := .type "zip", data := .fields #[rawInt T, .bool b, .bool false, .ref TI, .ref TO] }
section
variable {prog : Program} {w : World} {A : Around} {E : Value → Shared → Prop} {s : Shared} {z TI TO i1 i2 T : Addr} {fp1 fp2 : List Addr} {n1 n2 i : Nat} {P1 P2 : Nat → Value → Prop} {St1 St2 : Nat → Heap → Prop} {b : Bool} {o : Obj}
/-- the pair is alive: not free -/
theorem held {Q : Bool → Shared → Prop} (hz : IsZo s.heap z TI TO T b) (ha : s.heap.get? T = some o) (h : ∀ h', IsZo h' z TI TO T true → Heap.SameBut z s.heap h' → Q false { s with heap := h' }) : wpAny (model prog w) A (Builtin.SmallTypes.ownedTupleIsFree (.ref z)) Q E s := by
  unfold Builtin.SmallTypes.ownedTupleIsFree
  refine wpAny_bind (wpAny_field hz rfl (x := rawInt T) rfl ?_)
  show wpAny _ _ (loadIfAlive (Int.toNat ((T : Nat) : Int)) >>= _) _ _ _
  refine wpAny_bind ?_
  rw [Int.toNat_natCast]
  refine kdx_alive ha ?_
  show wpAny _ _ (field (.ref z) 1 >>= _) _ _ _
  refine wpAny_bind (wpAny_field hz rfl (x := .bool b) rfl ?_)
  cases b with
  | true =>
    show wpAny _ _ (pure false) _ _ _
    refine wpAny_pure ?_
    exact h s.heap hz ⟨rfl, fun _ _ => rfl⟩
  | false =>
    show wpAny _ _ (setField (.ref z) 1 (.bool true) >>= _) _ _ _
    refine wpAny_bind (wpAny_setField_rec hz (by simp) fun h' hz' hs' => wpAny_pure (h h' hz' hs'))
theorem zo_item {Q : Value → Shared → Prop} (D1 : Draws prog w A i1 fp1 n1 P1 St1) (D2 : Draws prog w A i2 fp2 n2 P2 St2) (S : ZipSep2 z TI TO i1 i2 fp1 fp2)
    (hz : IsZo s.heap z TI TO T b) (ha : s.heap.get? T = some o) (hTI : IsTupOf2 s.heap TI (.ref i1) (.ref i2)) (st1 : St1 i s.heap) (st2 : St2 i s.heap) (hlt1 : i < n1) (hlt2 : i < n2)
    (hQ : ∀ x1 x2 h' tk, P1 i x1 → P2 i x2 → IsZo h' z TI TO T true → St1 (i + 1) h' → St2 (i + 1) h' → IsTupOf2 h' s.heap.objs.size x1 x2 → h'.objs.size = s.heap.objs.size + 1 →
      (∀ c o, c ≠ z → c ≠ i1 → c ≠ i2 → s.heap.get? c = some o → h'.get? c = some o) → Q (.ref s.heap.objs.size) { s with heap := h', toks := tk }) :
    wpAny (model prog w) A (Builtin.«zip.__next__» ⟨[.ref z], []⟩) (fun fin s' => ∃ v, fin = .done (.ret v) ∧ Q v s') E s := by
  obtain ⟨hp, g, d, tk0, os⟩ := s
  show wpAny _ _ (field (.ref z) 2 >>= _) _ _ _
  refine wpAny_bind (wpAny_field hz rfl (x := .bool false) rfl ?_)
  show wpAny _ _ (field (.ref z) 3 >>= _) _ _ _
  refine wpAny_bind (wpAny_field hz rfl (x := .ref TI) rfl ?_)
  refine wpAny_bind (wpAny_seqItems hTI rfl ?_)
  show wpAny _ _ (Builtin.SmallTypes.ownedTupleIsFree (.ref z) >>= _) _ _ _
  refine wpAny_bind (held hz ha fun g0 hz0 hs0 => ?_)
  replace hs0 : Heap.SameBut z hp g0 := hs0
  simp only [Bool.false_eq_true, if_false, List.forIn_toArray, List.forIn_cons, List.forIn_nil]
  refine wpAny_bind (wpAny_bind (wpAny_bind (wpAny_holding ?_)))
  show wpAny _ _ (Builtin.SmallTypes.nextOf (.ref i1) >>= _) _ _ ⟨g0, g, d, tk0, os⟩
  refine wpAny_bind (D1.item i _ _ _ hlt1 (D1.over st1 hs0 S.zf1) fun x1 p1 tk1 hx1 sn1 hp1 => wpAny_pure (wpAny_pure ?_))
  replace hp1 : Heap.SameBut i1 g0 p1 := hp1
  refine wpAny_bind (wpAny_bind (wpAny_holding ?_))
  show wpAny _ _ (Builtin.SmallTypes.nextOf (.ref i2) >>= _) _ _ ⟨p1, g, d, tk1, os⟩
  refine wpAny_bind (D2.item i _ _ _ hlt2 (D2.over (D2.over st2 hs0 S.zf2) hp1 S.sep1_2) fun x2 p2 tk2 hx2 sn2 hp2 => wpAny_pure (wpAny_pure (wpAny_pure ?_)))
  replace hp2 : Heap.SameBut i2 p1 p2 := hp2
  refine wpAny_bind (wpAny_newTuple (hsz := by show 2 ≤ sizeLine; decide) (wpAny_pure ⟨_, rfl, ?_⟩))
  have hz2 : IsZo p2 z TI TO T true := hp2.extBut _ _ S.zi2 (hp1.extBut _ _ S.zi1 hz0)
  have hsz : p2.objs.size = hp.objs.size := by rw [hp2.1, hp1.1, hs0.1]
  have hkk : ∀ c o, c ≠ z → c ≠ i1 → c ≠ i2 → hp.get? c = some o → p2.get? c = some o := fun c o cz c1 c2 e => hp2.extBut _ _ c2 (hp1.extBut _ _ c1 (hs0.extBut _ _ cz e))
  show Q (.ref p2.objs.size) _
  have hT8 : IsTupOf2 (p2.push { cls := .type "tuple", data := .seq #[x1, x2] }) p2.objs.size x1 x2 := Heap.get?_push_size _ rfl
  rw [hsz] at hT8 ⊢
  refine hQ x1 x2 _ tk2 hx1 hx2 (Heap.get?_push_of_some _ hz2) (D1.frame _ _ _ (D1.over sn1 hp2 S.sep2_1) fun b hb o e => Heap.get?_push_of_some _ e) (D2.frame _ _ _ sn2 fun b hb o e => Heap.get?_push_of_some _ e) hT8 (by rw [Heap.size_push, hsz]) fun c o cz c1 c2 e => Heap.get?_push_of_some _ (hkk c o cz c1 c2 e)
theorem zo_end {Q : Fin → Shared → Prop} (S : ZipSep2 z TI TO i1 i2 fp1 fp2) (D1 : Draws prog w A i1 fp1 n1 P1 St1) (D2 : Draws prog w A i2 fp2 n2 P2 St2)
    (hz : IsZo s.heap z TI TO T b) (ha : s.heap.get? T = some o) (hTI : IsTupOf2 s.heap TI (.ref i1) (.ref i2)) (st1 : St1 i s.heap) (st2 : St2 i s.heap) (hle1 : i ≤ n1) (hle2 : i ≤ n2) (hend : i = n1 ∨ i = n2)
    (hE : ∀ h' tk e, (∀ c o, c ≠ z → c ≠ i1 → c ≠ i2 → s.heap.get? c = some o → h'.get? c = some o) → (∃ o, h'.get? e = some o ∧ o.cls = .type "StopIteration") → E (.ref e) { s with heap := h', toks := tk }) :
    wpAny (model prog w) A (Builtin.«zip.__next__» ⟨[.ref z], []⟩) Q E s := by
  obtain ⟨hp, g, d, tk0, os⟩ := s
  show wpAny _ _ (field (.ref z) 2 >>= _) _ _ _
  refine wpAny_bind (wpAny_field hz rfl (x := .bool false) rfl ?_)
  show wpAny _ _ (field (.ref z) 3 >>= _) _ _ _
  refine wpAny_bind (wpAny_field hz rfl (x := .ref TI) rfl ?_)
  refine wpAny_bind (wpAny_seqItems hTI rfl ?_)
  show wpAny _ _ (Builtin.SmallTypes.ownedTupleIsFree (.ref z) >>= _) _ _ _
  refine wpAny_bind (held hz ha fun g0 hz0 hs0 => ?_)
  replace hs0 : Heap.SameBut z hp g0 := hs0
  simp only [Bool.false_eq_true, if_false, List.forIn_toArray, List.forIn_cons, List.forIn_nil]
  refine wpAny_bind (wpAny_bind (wpAny_bind (wpAny_holding ?_)))
  show wpAny _ _ (Builtin.SmallTypes.nextOf (.ref i1) >>= _) _ _ ⟨g0, g, d, tk0, os⟩
  by_cases hlt1 : i < n1
  · refine wpAny_bind (D1.item i _ _ _ hlt1 (D1.over st1 hs0 S.zf1) fun x1 p1 tk1 hx1 sn1 hp1 => wpAny_pure (wpAny_pure ?_))
    replace hp1 : Heap.SameBut i1 g0 p1 := hp1
    have hi2 : i = n2 := by omega
    refine wpAny_bind (wpAny_bind (wpAny_holding ?_))
    show wpAny _ _ (Builtin.SmallTypes.nextOf (.ref i2) >>= _) _ _ ⟨p1, g, d, tk1, os⟩
    refine wpAny_bind (D2.done ⟨p1, g, d, tk1, os⟩ _ _ (by rw [← hi2]; exact D2.over (D2.over st2 hs0 S.zf2) hp1 S.sep1_2) fun q e hq he => ?_)
    replace hq : Heap.ExtBut i2 p1 q := hq
    exact hE q tk1 e (fun c o cz c1 c2 x => hq _ _ c2 (hp1.extBut _ _ c1 (hs0.extBut _ _ cz x))) he
  · have hi1 : i = n1 := by omega
    refine wpAny_bind (D1.done ⟨g0, g, d, tk0, os⟩ _ _ (by rw [← hi1]; exact D1.over st1 hs0 S.zf1) fun q e hq he => ?_)
    replace hq : Heap.ExtBut i1 g0 q := hq
    exact hE q tk0 e (fun c o cz c1 c2 x => hq _ _ c1 (hs0.extBut _ _ cz x)) he
theorem pyNext_zo_item {Q : Option Value → Shared → Prop} (S : ZipSep2 z TI TO i1 i2 fp1 fp2) (D1 : Draws prog w A.in1 i1 fp1 n1 P1 St1) (D2 : Draws prog w A.in1 i2 fp2 n2 P2 St2)
    (hz : IsZo s.heap z TI TO T b) (ha : s.heap.get? T = some o) (hTI : IsTupOf2 s.heap TI (.ref i1) (.ref i2)) (st1 : St1 i s.heap) (st2 : St2 i s.heap) (hlt1 : i < n1) (hlt2 : i < n2)
    (hQ : ∀ x1 x2 h' tk, P1 i x1 → P2 i x2 → IsZo h' z TI TO T true → St1 (i + 1) h' → St2 (i + 1) h' → IsTupOf2 h' s.heap.objs.size x1 x2 → h'.objs.size = s.heap.objs.size + 1 →
      (∀ c o, c ≠ z → c ≠ i1 → c ≠ i2 → s.heap.get? c = some o → h'.get? c = some o) → Q (some (.ref s.heap.objs.size)) { s with heap := h', toks := tk }) : wpAny (model prog w) A (pyNext (.ref z)) Q E s := by
  have hT : s.TypeIs (.ref z) "zip" := ⟨_, hz, rfl⟩
  unfold pyNext
  exact wpAny_bind (wpAny_attempt (wpAny_callSpecial?_slot (name := Str.ofString "__next__") hT F.slot_zip_next
    (wpAny_call_entry F.slot_zip_next hT F.entry_zip_next
      (zo_item D1 D2 S hz ha hTI st1 st2 hlt1 hlt2 fun x1 x2 h' tk y1 y2 b1 d1 d2 b5 b6 b7 => wpAny_pure (hQ x1 x2 h' tk y1 y2 b1 d1 d2 b5 b6 b7)) (F.args_zip_next_1 _))))
theorem pyNext_zo_end {Q : Option Value → Shared → Prop} (S : ZipSep2 z TI TO i1 i2 fp1 fp2) (D1 : Draws prog w A.in1 i1 fp1 n1 P1 St1) (D2 : Draws prog w A.in1 i2 fp2 n2 P2 St2)
    (hz : IsZo s.heap z TI TO T b) (ha : s.heap.get? T = some o) (hTI : IsTupOf2 s.heap TI (.ref i1) (.ref i2)) (st1 : St1 i s.heap) (st2 : St2 i s.heap) (hle1 : i ≤ n1) (hle2 : i ≤ n2) (hend : i = n1 ∨ i = n2)
    (hQ : ∀ h' tk, (∀ c o, c ≠ z → c ≠ i1 → c ≠ i2 → s.heap.get? c = some o → h'.get? c = some o) → Q none { s with heap := h', toks := tk }) : wpAny (model prog w) A (pyNext (.ref z)) Q E s := by
  have hT : s.TypeIs (.ref z) "zip" := ⟨_, hz, rfl⟩
  unfold pyNext
  refine wpAny_bind (wpAny_attempt (wpAny_callSpecial?_slot (name := Str.ofString "__next__") hT F.slot_zip_next
    (wpAny_call_entry F.slot_zip_next hT F.entry_zip_next (zo_end S D1 D2 hz ha hTI st1 st2 hle1 hle2 hend fun h' tk e hk he => ?_) (F.args_zip_next_1 _))))
  obtain ⟨o, ho, hc⟩ := he
  refine wpAny_bind (wpAny_isInstance (T := "StopIteration") (b := true) ⟨o, ho, hc⟩ isSubtype_stop ?_)
  exact wpAny_pure (hQ _ _ hk)
/-- both states -/
def ZS (x z TI TO i1 i2 : Addr) (St1 St2 : Nat → Heap → Prop) (i : Nat) (h : Heap) : Prop := IsTupOf2 h TI (.ref i1) (.ref i2) ∧ St1 i h ∧ St2 i h ∧
  ((IsZip h z TI TO .none ∧ ∃ a1 a2, IsTupOf2 h TO a1 a2) ∨ ∃ (T : Addr) (b : Bool) (o : Obj), IsZo h z TI TO T b ∧ h.get? T = some o ∧ T ≠ z ∧ T ≠ i1 ∧ T ≠ i2 ∧ T ≠ x)
theorem zs_item {Q : Option Value → Shared → Prop} {x : Addr} (hx : ∃ o, s.heap.get? x = some o) (S : ZipSep2 z TI TO i1 i2 fp1 fp2) (D1 : Draws prog w A.in1 i1 fp1 n1 P1 St1) (D2 : Draws prog w A.in1 i2 fp2 n2 P2 St2) (hz : ZS x z TI TO i1 i2 St1 St2 i s.heap) (hlt1 : i < n1) (hlt2 : i < n2)
    (hQ : ∀ x1 x2 h' tk, P1 i x1 → P2 i x2 → ZS x z TI TO i1 i2 St1 St2 (i + 1) h' → IsTupOf2 h' s.heap.objs.size x1 x2 → h'.objs.size = s.heap.objs.size + 1 →
      (∀ c o, c ≠ z → c ≠ TO → c ≠ i1 → c ≠ i2 → s.heap.get? c = some o → h'.get? c = some o) → Q (some (.ref s.heap.objs.size)) { s with heap := h', toks := tk }) : wpAny (model prog w) A (pyNext (.ref z)) Q E s := by
  obtain ⟨hTI, st1, st2, ⟨hz, a1, a2, hTO⟩ | ⟨T, b, o, hz, ha, t1, t2, t3, t4⟩⟩ := hz
  · have lt : ∀ {c o}, s.heap.get? c = some o → s.heap.objs.size ≠ c := fun e => Nat.ne_of_gt (Heap.lt_size e)
    have l1 : s.heap.objs.size ≠ i1 := by obtain ⟨_, e⟩ := D1.live _ _ st1; exact lt e
    have l2 : s.heap.objs.size ≠ i2 := by obtain ⟨_, e⟩ := D2.live _ _ st2; exact lt e
    refine wpAny_pyNext_zipD2_item S D1 D2 hz hTI hTO st1 st2 hlt1 hlt2 fun x1 x2 h' tk y1 y2 b1 b2 d1 d2 b5 b6 hk => ?_
    exact hQ x1 x2 h' tk y1 y2 ⟨hk _ _ S.TIz S.TITO S.TIi1 S.TIi2 hTI, d1, d2, .inr ⟨_, false, _, b1, b5, lt hz, l1, l2, by obtain ⟨_, e⟩ := hx; exact lt e⟩⟩ b5 b6 hk
  · refine pyNext_zo_item S D1 D2 hz ha hTI st1 st2 hlt1 hlt2 fun x1 x2 h' tk y1 y2 b1 d1 d2 b5 b6 hk => ?_
    exact hQ x1 x2 h' tk y1 y2 ⟨hk _ _ S.TIz S.TIi1 S.TIi2 hTI, d1, d2, .inr ⟨T, true, o, b1, hk _ _ t1 t2 t3 ha, t1, t2, t3, t4⟩⟩ b5 b6 fun c o cz _ c1 c2 e => hk c o cz c1 c2 e
theorem zs_done {Q : Option Value → Shared → Prop} {x : Addr} (S : ZipSep2 z TI TO i1 i2 fp1 fp2) (D1 : Draws prog w A.in1 i1 fp1 n1 P1 St1) (D2 : Draws prog w A.in1 i2 fp2 n2 P2 St2) (hz : ZS x z TI TO i1 i2 St1 St2 i s.heap) (hle1 : i ≤ n1) (hle2 : i ≤ n2) (hend : i = n1 ∨ i = n2)
    (hQ : ∀ h' tk, (∀ c o, c ≠ z → c ≠ TO → c ≠ i1 → c ≠ i2 → s.heap.get? c = some o → h'.get? c = some o) → Q none { s with heap := h', toks := tk }) : wpAny (model prog w) A (pyNext (.ref z)) Q E s := by
  obtain ⟨hTI, st1, st2, ⟨hz, a1, a2, hTO⟩ | ⟨T, b, o, hz, ha, t1, t2, t3, t4⟩⟩ := hz
  · exact wpAny_pyNext_zipD2_end S D1 D2 hz hTI hTO st1 st2 hle1 hle2 hend hQ
  · exact pyNext_zo_end S D1 D2 hz ha hTI st1 st2 hle1 hle2 hend fun h' tk hk => hQ h' tk fun c o cz _ c1 c2 e => hk c o cz c1 c2 e
theorem ZS.keep (D1 : Draws prog w A.in1 i1 fp1 n1 P1 St1) (D2 : Draws prog w A.in1 i2 fp2 n2 P2 St2) {x : Addr} {h h' : Heap} (hz : ZS x z TI TO i1 i2 St1 St2 i h) (hx : ∀ b o, b ≠ x → h.get? b = some o → h'.get? b = some o) (n1 : x ≠ z) (n2 : x ≠ TI) (n3 : x ≠ TO) (n4 : x ∉ fp1) (n5 : x ∉ fp2) : ZS x z TI TO i1 i2 St1 St2 i h' := by
  obtain ⟨hTI, st1, st2, q⟩ := hz
  refine ⟨hx _ _ (Ne.symm n2) hTI, D1.frame _ _ _ st1 fun b hb o e => hx b o (fun q => n4 (q ▸ hb)) e, D2.frame _ _ _ st2 fun b hb o e => hx b o (fun q => n5 (q ▸ hb)) e, ?_⟩
  rcases q with ⟨hz, a1, a2, hTO⟩ | ⟨T, b, o, hz, ha, t⟩
  · exact .inl ⟨hx _ _ (Ne.symm n1) hz, a1, a2, hx _ _ (Ne.symm n3) hTO⟩
  · exact .inr ⟨T, b, o, hx _ _ (Ne.symm n1) hz, hx _ _ t.2.2.2 ha, t⟩
/-- the pairs at as, new ones, above lo -/
structure ZG (P1 P2 : Nat → Value → Prop) (lo : Addr) (h : Heap) (as : List Addr) : Prop where
  rise : as.Pairwise (· < ·)
  above : ∀ a ∈ as, lo < a
  pairs : ∀ j a, as[j]? = some a → ∃ x y, P1 j x ∧ P2 j y ∧ IsTupOf2 h a x y
theorem zg_there {lo : Addr} {h : Heap} {as : List Addr} (g : ZG P1 P2 lo h as) {a : Addr} (ha : a ∈ as) : a < h.objs.size := by
  obtain ⟨j, hj⟩ := List.mem_iff_getElem?.mp ha
  obtain ⟨_, _, _, _, e⟩ := g.pairs j a hj
  exact Heap.lt_size e
theorem zg_keep {lo : Addr} {h h' : Heap} {as : List Addr} (g : ZG P1 P2 lo h as) (k : ∀ a ∈ as, ∀ o, h.get? a = some o → h'.get? a = some o) : ZG P1 P2 lo h' as := ⟨g.rise, g.above, fun j a e => by
  obtain ⟨x, y, p, q, r⟩ := g.pairs j a e
  exact ⟨x, y, p, q, k a (List.mem_of_getElem? e) _ r⟩⟩
theorem lz_loop {S z TI TO i1 i2 : Addr} {A : Around} {R : Result → Shared → Prop} (Z : ZipSep2 z TI TO i1 i2 fp1 fp2) (D1 : Draws prog w A.in1.in1 i1 fp1 n1 P1 St1) (D2 : Draws prog w A.in1.in1 i2 fp2 n2 P2 St2) (hSz : z < S) (hSt : TI < S) (hSo : TO < S) (h1S : ∀ b ∈ fp1, b < S) (h2S : ∀ b ∈ fp2, b < S) (hn : min n1 n2 ≤ sizeLine) (res : Value) {h₁ : Heap}
    (hR : ∀ h' tk acc c as, (∀ b o, b ≠ S → b ≠ z → b ≠ TO → b ≠ i1 → b ≠ i2 → h₁.get? b = some o → h'.get? b = some o) → h'.get? S = some { cls := .type "list", dict := none, data := .seq acc c, slots := #[] } → as.length = min n1 n2 → ZG P1 P2 S h' as →
      acc.toList = as.map Value.ref → R (.ok (.ret res)) { s with heap := h', toks := tk }) :
    ∀ (k i : Nat) (h : Heap) (tk c : Nat) (acc : Array Value) (as : List Addr), min n1 n2 - i = k → i ≤ min n1 n2 → ZS S z TI TO i1 i2 St1 St2 i h → (∀ b o, b ≠ S → b ≠ z → b ≠ TO → b ≠ i1 → b ≠ i2 → h₁.get? b = some o → h.get? b = some o) →
      h.get? S = some { cls := .type "list", dict := none, data := .seq acc c, slots := #[] } → acc.toList = as.map Value.ref → as.length = i → ZG P1 P2 S h as →
      codeAny (model prog w) A (.builtin "list.extend.loop" ⟨[.ref S, .ref z, res], []⟩) R { s with heap := h, toks := tk } := by
  have i1S : i1 < S := h1S _ Z.mem1
  have i2S : i2 < S := h2S _ Z.mem2
  intro k
  induction k with
  | zero =>
    intro i h tk c acc as hk hi hst hkeep hS hacc hal hG
    refine codeAny_builtin PySem.F.entry_extend_loop ?_
    rw [Around.under_plainId PySem.F.plain_extend_loop _]
    show wpAny _ A.in1 (pyNext (.ref z) >>= _) _ _ _
    refine wpAny_bind (zs_done (s := { s with heap := h, toks := tk }) (A := A.in1) Z D1 D2 hst (by omega) (by omega) (by omega) fun h' tk' he => ?_)
    refine wpAny_pure (hR h' tk' acc c as (fun b o h1 h2 h3 h4 h5 e => he b o h2 h3 h4 h5 (hkeep b o h1 h2 h3 h4 h5 e)) (he S _ (Nat.ne_of_gt hSz) (Nat.ne_of_gt hSo) (Nat.ne_of_gt i1S) (Nat.ne_of_gt i2S) hS) (by omega) (zg_keep hG fun a ha o e => ?_) hacc)
    have := hG.above a ha
    exact he a o (Nat.ne_of_gt (Nat.lt_trans hSz this)) (Nat.ne_of_gt (Nat.lt_trans hSo this)) (Nat.ne_of_gt (Nat.lt_trans i1S this)) (Nat.ne_of_gt (Nat.lt_trans i2S this)) e
  | succ k ih =>
    intro i h tk c acc as hk hi hst hkeep hS hacc hal hG
    have hlt : i < min n1 n2 := by omega
    have hsz : acc.size = i := by rw [← Array.length_toList, hacc, List.length_map, hal]
    refine codeAny_builtin PySem.F.entry_extend_loop ?_
    rw [Around.under_plainId PySem.F.plain_extend_loop _]
    show wpAny _ A.in1 (pyNext (.ref z) >>= _) _ _ _
    refine wpAny_bind (zs_item (s := { s with heap := h, toks := tk }) (A := A.in1) ⟨_, hS⟩ Z D1 D2 hst (by omega) (by omega) fun x1 x2 h' tk' hx1 hx2 hst' ht hz hkp => ?_)
    dsimp only at ht hz hkp ⊢
    have hS' := hkp S _ (Nat.ne_of_gt hSz) (Nat.ne_of_gt hSo) (Nat.ne_of_gt i1S) (Nat.ne_of_gt i2S) hS
    have up : ∀ b o, b ≠ S → h'.get? b = some o → (h'.update S (Obj.mapSeq (·.push (Value.ref h.objs.size)))).get? b = some o := fun b o hb e => (Heap.get?_update_other _ _ (Ne.symm hb)).trans e
    have hSl : S < h.objs.size := Heap.lt_size hS
    have hkA : ∀ a ∈ as, ∀ o, h.get? a = some o → (h'.update S (Obj.mapSeq (·.push (Value.ref h.objs.size)))).get? a = some o := fun a ha o e => by
      have := hG.above a ha
      exact up a o (Nat.ne_of_gt this) (hkp a o (Nat.ne_of_gt (Nat.lt_trans hSz this)) (Nat.ne_of_gt (Nat.lt_trans hSo this)) (Nat.ne_of_gt (Nat.lt_trans i1S this)) (Nat.ne_of_gt (Nat.lt_trans i2S this)) e)
    show wpAny _ A.in1 (updateSeq S (·.push (Value.ref h.objs.size)) >>= _) _ _ _
    refine wpAny_bind ?_
    refine wpAny_updateSeq hS' rfl (wpAny_pure ⟨plainId_quiet PySem.F.plain_extend_loop _, ih (i + 1) _ tk' _ (acc.push (Value.ref h.objs.size)) (as ++ [h.objs.size]) (by omega) hlt (hst'.keep D1 D2 up (Nat.ne_of_gt hSz) (Nat.ne_of_gt hSt) (Nat.ne_of_gt hSo) (fun m => Nat.lt_irrefl _ (h1S _ m)) (fun m => Nat.lt_irrefl _ (h2S _ m)))
      (fun b o h1 h2 h3 h4 h5 e => up b o h1 (hkp b o h2 h3 h4 h5 (hkeep b o h1 h2 h3 h4 h5 e))) (Heap.get?_update_self _ hS' rfl) (by rw [Array.toList_push, hacc, List.map_append]; rfl) (by rw [List.length_append, hal]; rfl) ⟨?_, ?_, ?_⟩⟩) (by rw [hsz]; omega) (by show (acc.push (Value.ref h.objs.size)).size ≤ sizeLine + 1; rw [Array.size_push, hsz]; omega)
    · refine List.pairwise_append.mpr ⟨hG.rise, List.pairwise_singleton _ _, fun a ha b hb => ?_⟩
      rw [List.mem_singleton.mp hb]
      exact zg_there hG ha
    · intro a ha
      rcases List.mem_append.mp ha with ha | ha
      · exact hG.above a ha
      · rw [List.mem_singleton.mp ha]; exact hSl
    · intro j b hj
      rcases Nat.lt_trichotomy j as.length with h1 | h1 | h1
      · rw [List.getElem?_append_left h1] at hj
        obtain ⟨x, y, p, q, r⟩ := hG.pairs j b hj
        exact ⟨x, y, p, q, hkA b (List.mem_of_getElem? hj) _ r⟩
      · subst h1
        have hb : h.objs.size = b := by simpa using hj
        subst hb
        rw [hal]
        exact ⟨x1, x2, hx1, hx2, up _ _ (Nat.ne_of_gt hSl) ht⟩
      · have hnone : (as ++ [h.objs.size])[j]? = none := List.getElem?_eq_none (by rw [List.length_append, List.length_singleton]; omega)
        rw [hnone] at hj; cases hj
end
end TBZ

/-! TbZ2: list(zip(..)) as a call. -/
namespace TBZ
open PySem PySem.W
open Sem (wp)
theorem zip_len : typeLookup (.type "zip") "__len__" = pure none := by rw [typeLookup_type, builtinLookup_eq_fast]; kernel_rfl
theorem zip_lhint : typeLookup (.type "zip") "__length_hint__" = pure none := by rw [typeLookup_type, builtinLookup_eq_fast]; kernel_rfl
section
variable {prog : Program} {w : World} {A : Around} {E : Value → Shared → Prop} {s : Shared} {z TI TO i1 i2 T : Addr} {fp1 fp2 : List Addr} {n1 n2 i : Nat} {P1 P2 : Nat → Value → Prop} {St1 St2 : Nat → Heap → Prop}
theorem zip_hint (hT : s.TypeIs (.ref z) "zip") {Q : Bool → Shared → Prop} (h : Q true s) : wpAny (model prog w) A (Builtin.List.listLengthHint (.ref z)) Q E s := by
  unfold Builtin.List.listLengthHint
  refine wpAny_bind (wpAny_specialOf hT zip_len ?_)
  refine PySem.W.KFB.if_not rfl ?_
  refine PySem.W.KFB.if_not rfl ?_
  refine wpAny_bind (wpAny_specialOf hT zip_lhint ?_)
  exact wpAny_pure h
theorem lz_extend {R : Result → Shared → Prop} (Z : ZipSep2 z TI TO i1 i2 fp1 fp2) (D1 : Draws prog w A.in1.in1 i1 fp1 n1 P1 St1) (D2 : Draws prog w A.in1.in1 i2 fp2 n2 P2 St2) (S : Addr) (hSz : z < S) (hSt : TI < S) (hSo : TO < S) (h1S : ∀ b ∈ fp1, b < S) (h2S : ∀ b ∈ fp2, b < S) (hn : min n1 n2 ≤ sizeLine) (res : Value) (c₀ : Nat)
    (hz : IsZip s.heap z TI TO .none) (hTI : IsTupOf2 s.heap TI (.ref i1) (.ref i2)) (hTO : ∃ a1 a2, IsTupOf2 s.heap TO a1 a2) (st1 : St1 0 s.heap) (st2 : St2 0 s.heap) (hS : s.heap.get? S = some { cls := .type "list", data := .seq #[] c₀ })
    (hR : ∀ h' tk acc c as, (∀ b o, b ≠ S → b ≠ z → b ≠ TO → b ≠ i1 → b ≠ i2 → s.heap.get? b = some o → h'.get? b = some o) → h'.get? S = some { cls := .type "list", dict := none, data := .seq acc c, slots := #[] } → as.length = min n1 n2 → ZG P1 P2 S h' as →
      acc.toList = as.map Value.ref → R (.ok (.ret res)) { s with heap := h', toks := tk }) :
    wpAny (model prog w) A.in1 (Builtin.List.listExtendWith (.ref S) (.ref z) res)
      (fun fin s' => match fin with | .done f => R (.ok f) s' | .again c' => c'.quiet = true ∧ codeAny (model prog w) A c' R s') (fun e s' => R (.error e) s') s := by
  have hT : s.TypeIs (.ref z) "zip" := ⟨_, hz, rfl⟩
  have z0 : ZS S z TI TO i1 i2 St1 St2 0 s.heap := ⟨hTI, st1, st2, .inl ⟨hz, hTO⟩⟩
  unfold Builtin.List.listExtendWith
  refine wpAny_bind (wpAny_typeOf (T := "zip") hT ?_)
  have h1 : Builtin.List.listSameRef (.ref S) (.ref z) = false := by simp [Builtin.List.listSameRef, Nat.ne_of_gt hSz]
  have h2 : (Value.type "zip" == Value.type "list") = false := by decide
  have h3 : (Value.type "zip" == Value.type "tuple") = false := by decide
  simp only [h1, h2, h3, Bool.or_false, Bool.false_eq_true, if_false]
  refine wpAny_bind (wpAny_pyIter_zip hz ?_)
  refine wpAny_bind (wpAny_holding (zip_hint hT ?_))
  refine wpAny_ite_split (fun _ => ?_) (fun hx => absurd rfl hx)
  refine wpAny_bind (wpAny_rule ?_)
  refine wpAny_bind ?_
  show wpAny _ _ (updateSeq S (·.push .none) >>= fun _ => updateSeq S (·.pop)) _ _ _
  refine wpAny_bind (wpAny_updateSeq hS rfl ?_)
  have hS₂ := Heap.get?_update_self (Obj.mapSeq (·.push Value.none)) hS rfl
  refine wpAny_updateSeq (hz := by seq_fits) hS₂ rfl ?_
  have hS₃ := Heap.get?_update_self (Obj.mapSeq (·.pop)) hS₂ rfl
  have oth : ∀ b o, b ≠ S → s.heap.get? b = some o → ((s.heap.update S (Obj.mapSeq (·.push Value.none))).update S (Obj.mapSeq (·.pop))).get? b = some o := fun b o hb e => (Heap.get?_update_other _ _ (Ne.symm hb)).trans ((Heap.get?_update_other _ _ (Ne.symm hb)).trans e)
  refine wpAny_pure ⟨plainId_quiet PySem.F.plain_extend_loop _, ?_⟩
  exact lz_loop (s := s) (h₁ := s.heap) Z D1 D2 hSz hSt hSo h1S h2S hn res hR (min n1 n2) 0 _ s.toks _ #[] [] (Nat.sub_zero _) (Nat.zero_le _)
    (z0.keep D1 D2 oth (Nat.ne_of_gt hSz) (Nat.ne_of_gt hSt) (Nat.ne_of_gt hSo) (fun m => Nat.lt_irrefl _ (h1S _ m)) (fun m => Nat.lt_irrefl _ (h2S _ m))) (fun b o hb _ _ _ _ e => oth b o hb e) hS₃ rfl rfl ⟨List.Pairwise.nil, (fun _ ha => nomatch ha), fun j a hj => by simp at hj⟩
theorem lz_init {R : Result → Shared → Prop} (Z : ZipSep2 z TI TO i1 i2 fp1 fp2) (D1 : Draws prog w A.in1.in1 i1 fp1 n1 P1 St1) (D2 : Draws prog w A.in1.in1 i2 fp2 n2 P2 St2) (S : Addr) (hSz : z < S) (hSt : TI < S) (hSo : TO < S) (h1S : ∀ b ∈ fp1, b < S) (h2S : ∀ b ∈ fp2, b < S) (hn : min n1 n2 ≤ sizeLine)
    (hz : IsZip s.heap z TI TO .none) (hTI : IsTupOf2 s.heap TI (.ref i1) (.ref i2)) (hTO : ∃ a1 a2, IsTupOf2 s.heap TO a1 a2) (st1 : St1 0 s.heap) (st2 : St2 0 s.heap) (hS : s.heap.get? S = some { cls := .type "list", data := .seq #[] })
    (hR : ∀ h' tk acc c as, (∀ b o, b ≠ S → b ≠ z → b ≠ TO → b ≠ i1 → b ≠ i2 → s.heap.get? b = some o → h'.get? b = some o) → h'.get? S = some { cls := .type "list", dict := none, data := .seq acc c, slots := #[] } → as.length = min n1 n2 → ZG P1 P2 S h' as →
      acc.toList = as.map Value.ref → R (.ok (.ret .none)) { s with heap := h', toks := tk }) :
    wpAny (model prog w) A.in1 (Builtin.«list.__init__» ⟨[.ref S, .ref z], []⟩)
      (fun fin s' => match fin with | .done f => R (.ok f) s' | .again c' => c'.quiet = true ∧ codeAny (model prog w) A c' R s') (fun e s' => R (.error e) s') s := by
  show wpAny _ _ (do let old ← Builtin.List.listItems (.ref S); Builtin.List.listUpdate (.ref S) (fun _ => #[]); letGo old.toList.reverse; Builtin.List.listExtendWith (.ref S) (.ref z) .none) _ _ s
  refine wpAny_bind ?_
  unfold Builtin.List.listItems
  refine wpAny_bind (wpAny_seqItems hS rfl (wpAny_pure ?_))
  show wpAny _ _ (updateSeq S (fun _ => #[]) >>= fun _ => letGo (#[] : Array Value).toList.reverse >>= fun _ => Builtin.List.listExtendWith (.ref S) (.ref z) .none) _ _ s
  refine wpAny_bind (wpAny_updateSeq hS rfl ?_)
  have hS₂ := Heap.get?_update_self (Obj.mapSeq (fun _ => (#[] : Array Value))) hS rfl
  have oth : ∀ b o, b ≠ S → s.heap.get? b = some o → (s.heap.update S (Obj.mapSeq (fun _ => (#[] : Array Value)))).get? b = some o :=
    fun b o hb e => (Heap.get?_update_other _ _ (Ne.symm hb)).trans e
  refine wpAny_bind (wpAny_letGo ?_)
  refine lz_extend Z D1 D2 S hSz hSt hSo h1S h2S hn .none _ (oth _ _ (Nat.ne_of_lt hSz) hz) (oth _ _ (Nat.ne_of_lt hSt) hTI) (by obtain ⟨a1, a2, e⟩ := hTO; exact ⟨a1, a2, oth _ _ (Nat.ne_of_lt hSo) e⟩) (D1.frame _ _ _ st1 fun b hb o e => oth b o (Nat.ne_of_lt (h1S b hb)) e) (D2.frame _ _ _ st2 fun b hb o e => oth b o (Nat.ne_of_lt (h2S b hb)) e) hS₂ fun h' tk acc c as hk hS' hl hG hacc => ?_
  exact hR h' tk acc c as (fun b o h1 h2 h3 h4 h5 e => hk b o h1 h2 h3 h4 h5 (oth b o h1 e)) hS' hl hG hacc
theorem lz_call {Q : Value → Shared → Prop} (Z : ZipSep2 z TI TO i1 i2 fp1 fp2) (D1 : Draws prog w A.in1.in1.in1 i1 fp1 n1 P1 St1) (D2 : Draws prog w A.in1.in1.in1 i2 fp2 n2 P2 St2) (hz : IsZip s.heap z TI TO .none) (hTI : IsTupOf2 s.heap TI (.ref i1) (.ref i2)) (hTO : ∃ a1 a2, IsTupOf2 s.heap TO a1 a2) (st1 : St1 0 s.heap) (st2 : St2 0 s.heap)
    (h1S : ∀ b ∈ fp1, b < s.heap.objs.size) (h2S : ∀ b ∈ fp2, b < s.heap.objs.size) (hn : min n1 n2 ≤ sizeLine)
    (hQ : ∀ h' tk acc c as, (∀ b o, b ≠ z → b ≠ TO → b ≠ i1 → b ≠ i2 → s.heap.get? b = some o → h'.get? b = some o) → h'.get? s.heap.objs.size = some { cls := .type "list", dict := none, data := .seq acc c, slots := #[] } → as.length = min n1 n2 → ZG P1 P2 s.heap.objs.size h' as →
      acc.toList = as.map Value.ref → Q (.ref s.heap.objs.size) { s with heap := h', toks := tk }) :
    wpAny (model prog w) A (call (.type "list") [.ref z]) Q E s := by
  refine callType_codes (Q₁ := fun obj s₁ => obj = .ref s.heap.objs.size ∧ s₁ = { s with heap := s.heap.push { cls := .type "list", data := .seq #[] } }) PySem.F.called_list (PySem.F.typeCall_list_1 _) PySem.F.entry_list_init
    (code_list_new _ ⟨rfl, rfl⟩) fun obj s₁ h₁ => ?_
  obtain ⟨rfl, rfl⟩ := h₁
  have hS : (s.heap.push { cls := .type "list", data := .seq #[] }).get? s.heap.objs.size = some { cls := .type "list", data := .seq #[] } := Heap.get?_push_size _ rfl
  have up : ∀ b o, s.heap.get? b = some o → (s.heap.push { cls := .type "list", data := .seq #[] }).get? b = some o := fun b o e => Heap.get?_push_of_some _ e
  obtain ⟨a1, a2, hTO⟩ := hTO
  refine ⟨⟨_, hS, rfl⟩, PySem.F.args_list_init_2 _ _, lz_init (A := A.in1) Z D1 D2 _ (Heap.lt_size hz) (Heap.lt_size hTI) (Heap.lt_size hTO) h1S h2S hn (up _ _ hz) (up _ _ hTI) ⟨a1, a2, up _ _ hTO⟩ (D1.frame _ _ _ st1 fun b _ o e => up b o e) (D2.frame _ _ _ st2 fun b _ o e => up b o e) hS fun h' tk acc c as hk hS' hl hG hacc => ?_⟩
  exact ⟨rfl, hQ h' tk acc c as (fun b o h1 h2 h3 h4 e => hk b o (Nat.ne_of_lt (Heap.lt_size e)) h1 h2 h3 h4 (up b o e)) hS' hl hG hacc⟩
end
section
open L2
/-- what a zip draws from: a list or a tuple -/
theorem draws_seq {X : Cx} {pins : List (Addr × Obj)} {σ : L2.St} {H : Hp} {s : Shared} {a : Addr} {xs : List V} (A : Around) (hh : A.handled = none) (I : Inv X pins σ H s) (h : SqL X.K H a xs ∨ SqT X.K H a xs) :
    ∃ (its : List Value) (o : Obj) (Hs : Heap → Prop), Vals xs its ∧ xs.length ≤ sizeLine ∧ Begins (.ref a) o Hs ∧ Hs s.heap ∧ a < s.heap.objs.size ∧ ∀ it : Addr, a ≠ it → ∃ St : Nat → Heap → Prop, Draws X.prog X.w A it [it, a] xs.length (fun i v => its[i]? = some v) St ∧ (∀ h', h'.get? it = some o → (∀ b o, s.heap.get? b = some o → h'.get? b = some o) → St 0 h') := by
  rcases h with h | h
  · obtain ⟨its, rv, p, hz⟩ := I.list h
    have p := p.isList
    have hl : a < s.heap.objs.size := by obtain ⟨o, ho, _⟩ := id p; exact Heap.lt_size ho
    refine ⟨its, _, _, rv, hz, begins_list a its.toArray, p, hl, fun it hne => ⟨fun i h => h.IsListIter it a i ∧ h.IsList a its.toArray, ?_, fun h' e k => ⟨⟨_, e, rfl, rfl⟩, p.at fun o q => k a o q⟩⟩⟩
    have := Draws.list (prog := X.prog) (w := X.w) hh it a hne its.toArray
    rw [List.size_toArray, ← rv.length] at this
    simpa using this
  · obtain ⟨its, rv, p, hz⟩ := I.tuple h
    have p : s.heap.IsTuple a its.toArray := p
    have hl : a < s.heap.objs.size := by obtain ⟨o, ho, _⟩ := id p; exact Heap.lt_size ho
    refine ⟨its, _, _, rv, hz, begins_tuple a its.toArray, p, hl, fun it hne => ⟨fun i h => h.IsTupleIter it a i ∧ h.IsTuple a its.toArray, ?_, fun h' e k => ⟨⟨_, e, rfl, rfl⟩, p.at fun o q => k a o q⟩⟩⟩
    have := Draws.tuple (prog := X.prog) (w := X.w) hh it a hne its.toArray
    rw [List.size_toArray, ← rv.length] at this
    simpa using this
def putP : Hp → List Addr → List (V × V) → Hp
  | H, a :: as, p :: ps => putP (upd H a (.tup [p.1, p.2])) as ps
  | H, _, _ => H
theorem putP_off {b : Addr} : ∀ (as : List Addr) (ps : List (V × V)) (H : Hp), b ∉ as → putP H as ps b = H b
  | [], _, _, _ => rfl
  | _ :: _, [], _, _ => rfl
  | a :: as, p :: ps, H, h => by
    show putP (upd H a (.tup [p.1, p.2])) as ps b = H b
    rw [putP_off as ps _ (fun z => h (List.mem_cons_of_mem _ z)), upd_ne (fun z => h (by rw [z]; exact List.mem_cons_self))]
theorem putP_at : ∀ (as : List Addr) (ps : List (V × V)) (H : Hp), as.length = ps.length → as.Nodup → ∀ (j : Nat) (t : Addr) (p : V × V), as[j]? = some t → ps[j]? = some p → putP H as ps t = some (.tup [p.1, p.2])
  | [], _, _, _, _, j, t, p, h, _ => by simp at h
  | a :: as, [], _, h, _, _, _, _, _, _ => by simp at h
  | a :: as, q :: ps, H, h, hn, 0, t, p, h1, h2 => by
    simp at h1 h2
    subst h1 h2
    have hn' := List.nodup_cons.mp hn
    show putP (upd H a (.tup [q.1, q.2])) as ps a = _
    rw [putP_off as ps _ hn'.1, upd_same]
  | a :: as, q :: ps, H, h, hn, j + 1, t, p, h1, h2 => putP_at as ps _ (by simpa using h) (List.nodup_cons.mp hn).2 j t p (by simpa using h1) (by simpa using h2)
/-- list(zip(a, b)): a new list of new pairs -/
def rLZ (K : PySem.W.Frag) : V → V → Hp → VK → Prop := fun x y H Q => ∃ (a b : Addr) (xs ys : List V), x = .ref a ∧ y = .ref b ∧ (SqL K H a xs ∨ SqT K H a xs) ∧ (SqL K H b ys ∨ SqT K H b ys) ∧
  ∀ (p : Addr) (ts : List Addr), H p = none → (∀ t ∈ ts, H t = none) → p ∉ ts → ts.Nodup → ts.length = (xs.zip ys).length → Q (.ref p) (putP (upd H p (.lst (ts.map V.ref))) ts (xs.zip ys))
theorem laidZ {X : Cx} {pins : List (Addr × Obj)} {σ : L2.St} {H : Hp} {s : Shared} {h' : Heap} {tk : Nat} {ps : List (V × V)} {N : Addr} {its : List Value} {its2 : List Value} {acc : Array Value} {c : Nat} {as : List Addr} (I : Inv X pins σ H s) (hz : ps.length ≤ sizeLine)
    (hk : ∀ b o, s.heap.get? b = some o → h'.get? b = some o) (hN : s.heap.objs.size ≤ N) (hS : h'.get? N = some { cls := .type "list", dict := none, data := .seq acc c, slots := #[] }) (hl : as.length = ps.length)
    (hr : as.Pairwise (· < ·)) (ha : ∀ a ∈ as, N < a) (hp : ∀ (j : Nat) (a : Addr) (p : V × V), as[j]? = some a → ps[j]? = some p → ∃ u v, RelV p.1 u ∧ RelV p.2 v ∧ h'.get? a = some { cls := .type "tuple", data := .seq #[u, v] }) (hacc : acc.toList = as.map Value.ref) :
    H N = none ∧ (∀ t ∈ as, H t = none) ∧ N ∉ as ∧ as.Nodup ∧ Inv X pins σ (putP (upd H N (.lst (as.map V.ref))) as ps) { s with heap := h', toks := tk } := by
  have hSn : N ∉ as := fun z => Nat.lt_irrefl _ (ha _ z)
  have nd : as.Nodup := List.Pairwise.imp (fun {a b} (h : a < b) => Nat.ne_of_lt h) hr
  have new : ∀ t ∈ as, H t = none := fun t ht => I.hok.fresh (Nat.le_of_lt (Nat.lt_of_le_of_lt hN (ha t ht)))
  have newS : H N = none := I.hok.fresh hN
  have atP := putP_at as ps (upd H N (.lst (as.map V.ref))) hl nd
  have off : ∀ b, b ∉ as → b ≠ N → putP (upd H N (.lst (as.map V.ref))) as ps b = H b := fun b h1 h2 => by rw [putP_off as ps _ h1, upd_ne h2]
  have low : ∀ b o, s.heap.get? b = some o → b ∉ as ∧ b ≠ N := fun b o e => ⟨fun z => absurd (Nat.lt_of_lt_of_le (Heap.lt_size e) hN) (Nat.not_lt.mpr (Nat.le_of_lt (ha b z))), Nat.ne_of_lt (Nat.lt_of_lt_of_le (Heap.lt_size e) hN)⟩
  have kp : ∀ b u, H b = some u → (putP (upd H N (.lst (as.map V.ref))) as ps) b = some u := fun b u e => by
    rw [off b (fun z => by rw [new b z] at e; cases e) (fun z => by rw [z, newS] at e; cases e)]
    exact e
  have eS : putP (upd H N (.lst (as.map V.ref))) as ps N = some (.lst (as.map V.ref)) := by rw [putP_off as ps _ hSn, upd_same]
  refine ⟨newS, new, hSn, nd, ?_⟩
  refine I.call' (ch := []) rfl ⟨fun b o q _ _ _ => hk b o q, fun b o q _ _ _ => ⟨o.slots, hk b o q⟩, fun b o q n _ => ?_, fun b o q _ => ⟨o, hk b o q⟩, fun b xs q => kp b _ q, fun b o u q => kp b _ q, fun b ps q => ⟨#[], by rw [kp b _ q]; simp⟩⟩ (fun b u q => ?_) I.bare fun b z => by simp at z
  · obtain ⟨z1, z2⟩ := low b o q
    rw [off b z1 z2]
    exact n
  · by_cases hb : b ∈ as
    · obtain ⟨j, hj⟩ := List.mem_iff_getElem?.mp hb
      have hjl : j < ps.length := by rw [← hl]; exact (List.getElem?_eq_some_iff.mp hj).1
      obtain ⟨u', v', r1, r2, e3⟩ := hp j b ps[j] hj (List.getElem?_eq_getElem hjl)
      rw [atP j b ps[j] hj (List.getElem?_eq_getElem hjl)] at q
      cases q
      exact ⟨by show 2 ≤ sizeLine; decide, [u', v'], .cons r1 (.cons r2 .nil), ⟨_, e3, rfl, _, rfl⟩⟩
    · by_cases hb2 : b = N
      · rw [hb2] at q ⊢
        rw [eS] at q
        cases q
        refine ⟨by rw [List.length_map]; omega, acc.toList, c, by rw [hacc]; exact LiI.vals_refs as, ?_⟩
        rw [Array.toArray_toList]
        exact hS
      · rw [off b hb hb2] at q
        exact (I.hok b u q).stay (fun d v _ y => hk d v y) (fun d y => kp d _ y) fun d xs y => kp d _ y
end
section
open PyProof.Rows L2
variable {X : Cx}
def qLZ (K : PySem.W.Frag) (Q : VK) : List V → Hp → Prop
  | [x, y], H => rLZ K x y H Q
  | _, _ => False
/-- list(zip(a, b)) -/
theorem pe_listZip {e e2 : Expr} {t1 t2 : TE} {p q pos pos2 : Pos} (hc : X.calm = true) (h1 : PE X e t1) (h2 : PE X e2 t2) (hg : Gl X "list") (hm : X.mg "list" = none) (hg2 : Gl X "zip") (hm2 : X.mg "zip" = none)
    (hs : starEach [e, e2] X.env = (false, eval e X.env) :: starEach [e2] X.env) (hs2 : starEach [e2] X.env = (false, eval e2 X.env) :: starEach [] X.env) (hpl : (backTo pos2 (starEach [e2] X.env)).any (·.1) = false)
    (hso : starEach [.Call (.Name "zip" q) [e, e2] [] pos2] X.env = (false, eval (.Call (.Name "zip" q) [e, e2] [] pos2) X.env) :: starEach [] X.env) :
    PE X (.Call (.Name "list" p) [.Call (.Name "zip" q) [e, e2] [] pos2] [] pos) (tOp (rLZ X.K) t1 t2) := by
  refine ⟨fun pins s σ H Q I hq => ?_⟩
  refine Call_ (ld_blt I hg hm boot_list ?_)
  refine PyProof.Rows.callWith_type1 ?_ hso rfl
  rw [hso]
  show wpAny _ _ (spliced ((false, eval (.Call (.Name "zip" q) [e, e2] [] pos2) X.env) :: backTo pos (starEach [] X.env))) _ _ s
  refine Calls.spliced_cons ?_
  have ha := pa_cons h1 (pa_cons h2 pa_nil hs2) hs
  refine Call_ (ld_blt I hg2 hm2 PyProof.Rows.boot_zip (PyProof.Rows.callWith_type1 (thn (ha.run pos2 pins s σ H (qLZ X.K Q) I hq) fun us s1 ⟨vs, H1, I1, r1, q1⟩ => ?_) hs hpl))
  cases r1 with
  | nil => exact q1.elim
  | cons ra rr =>
    cases rr with
    | nil => exact q1.elim
    | cons rb rr =>
      cases rr with
      | cons _ _ => exact q1.elim
      | nil =>
        obtain ⟨a, b, xs, ys, rfl, rfl, ha, hb, fin⟩ := q1
        cases ra
        cases rb
        have hh := I1.ok.hd hc
        obtain ⟨its, o1, Hs1, rv1, hz1, B1, hb1, la, D1⟩ := draws_seq X.A.in1.in1.in1 hh I1 ha
        obtain ⟨its2, o2, Hs2, rv2, hz2, B2, hb2, lb, D2⟩ := draws_seq X.A.in1.in1.in1 hh I1 hb
        refine zip_begins2 B1 B2 hb1 hb2 fun h' iz iTI iTO g1 g2 hsz hk => ?_
        obtain ⟨St1, D1, st1⟩ := D1 s1.heap.objs.size (Nat.ne_of_lt la)
        obtain ⟨St2, D2, st2⟩ := D2 (s1.heap.objs.size + 1) (Nat.ne_of_lt (Nat.lt_succ_of_lt lb))
        have st1 := st1 h' g1 hk
        have st2 := st2 h' g2 hk
        refine Calls.spliced_nil ?_
        have Z := zip_sep2 (N := s1.heap.objs.size) (fp1 := [a]) (fp2 := [b]) (fun c hc => by rw [List.mem_singleton.mp hc]; exact la) (fun c hc => by rw [List.mem_singleton.mp hc]; exact lb)
        refine lz_call (s := { s1 with heap := h' }) Z D1 D2 iz iTI ⟨_, _, iTO⟩ st1 st2 (fun c hc => ?_) (fun c hc => ?_) (by omega) fun h'' tk acc c as hk2 hS hl hG hacc => ?_
        · show c < h'.objs.size
          rcases List.mem_cons.mp hc with e | e
          · rw [hsz, e]; exact Nat.lt_add_of_pos_right (by decide)
          · rw [hsz, List.mem_singleton.mp e]; exact Nat.lt_of_lt_of_le la (Nat.le_add_right _ _)
        · show c < h'.objs.size
          rcases List.mem_cons.mp hc with e | e
          · rw [hsz, e]; exact Nat.add_lt_add_left (by decide) _
          · rw [hsz, List.mem_singleton.mp e]; exact Nat.lt_of_lt_of_le lb (Nat.le_add_right _ _)
        · have lz : (xs.zip ys).length = min xs.length ys.length := List.length_zip
          have hlow : ∀ c (o : Obj), s1.heap.get? c = some o → h''.get? c = some o := fun c o e => by
            have hlt := Heap.lt_size e
            exact hk2 c o (Nat.ne_of_lt (Nat.lt_of_lt_of_le hlt (Nat.le_add_right _ _))) (Nat.ne_of_lt (Nat.lt_of_lt_of_le hlt (Nat.le_add_right _ _))) (Nat.ne_of_lt hlt) (Nat.ne_of_lt (Nat.lt_of_lt_of_le hlt (Nat.le_add_right _ _))) (hk c o e)
          have hN : s1.heap.objs.size ≤ h'.objs.size := by rw [hsz]; exact Nat.le_add_right _ _
          obtain ⟨f1, f2, f3, f4, J⟩ := laidZ (its := its) (its2 := its2) (tk := tk) (ps := xs.zip ys) I1 (by omega) hlow hN hS (by rw [hl, lz]) hG.rise hG.above (fun j t p hj hp => by
            obtain ⟨u, v, e1, e2, e3⟩ := hG.pairs j t hj
            obtain ⟨p1, p2⟩ := p
            have hp2 := List.getElem?_zip_eq_some.mp hp
            obtain ⟨u', g3, r3⟩ := rv1.get hp2.1
            obtain ⟨v', g4, r4⟩ := rv2.get hp2.2
            rw [e1] at g3; rw [e2] at g4
            cases g3; cases g4
            exact ⟨u, v, r3, r4, e3⟩) hacc
          exact ⟨.ref _, _, J, rfl, fin _ as f1 f2 f3 f4 (by rw [hl, lz])⟩
end
end TBZ

/-! TbA6: list(zip(..)), remove of a text, the record's store. -/
namespace TB
open PySem L2
section
variable {X : Cx} {G : Cfgx} {W : WX} {k : Nat} {F H : Hp} {σ : L2.St} {S : List Slot} {T : Cnt}
open TBZ
theorem putP_upd {o : HO} {p : Addr} : ∀ (ts : List Addr) (ps : List (V × V)) (H : Hp), p ∉ ts → putP (upd H p o) ts ps = upd (putP H ts ps) p o
  | [], _, _, _ => rfl
  | _ :: _, [], _, _ => rfl
  | t :: ts, q :: ps, H, h => by
    have h1 : p ≠ t := fun e => h (e ▸ List.mem_cons_self)
    show putP (upd (upd H p o) t (.tup [q.1, q.2])) ts ps = upd (putP (upd H t (.tup [q.1, q.2])) ts ps) p o
    rw [← putP_upd ts ps _ (fun m => h (List.mem_cons_of_mem _ m))]
    congr 1
    funext b
    by_cases e1 : b = p
    · subst e1; rw [upd_same, upd_ne h1, upd_same]
    · by_cases e2 : b = t
      · subst e2; rw [upd_same, upd_ne e1, upd_same]
      · rw [upd_ne e2, upd_ne e1, upd_ne e1, upd_ne e2]
theorem newPs : ∀ (ts : List Addr) (ps : List (V × V)) {F H : Hp} {T : Cnt}, St' G F H σ S T → (∀ t ∈ ts, H t = none) → ts.Nodup → St' G (putP F ts ps) (putP H ts ps) σ S T ∧ Step F H T (putP F ts ps) (putP H ts ps) T
  | [], _, F, H, T, st, _, _ => ⟨st, Step.refl F H T⟩
  | _ :: _, [], F, H, T, st, _, _ => ⟨st, Step.refl F H T⟩
  | t :: ts, q :: ps, F, H, T, st, h, nd => by
    obtain ⟨n1, n2⟩ := List.nodup_cons.mp nd
    obtain ⟨st1, s1⟩ := st.newF (o := .tup [q.1, q.2]) (h t List.mem_cons_self)
    obtain ⟨st2, s2⟩ := newPs ts ps st1 (fun u hu => by rw [upd_ne (fun e => n1 (by rw [← e]; exact hu))]; exact h u (List.mem_cons_of_mem _ hu)) n2
    exact ⟨st2, s1.trans s2⟩
theorem reps_zipP : ∀ {ts : List Addr} {xs ys : List V} {as bs : List D} {F : Hp}, ts.length = (xs.zip ys).length → (∀ (j : Nat) (t : Addr) (p : V × V), ts[j]? = some t → (xs.zip ys)[j]? = some p → F t = some (.tup [p.1, p.2])) → Reps G F xs as → Reps G F ys bs → Reps G F (ts.map V.ref) ((as.zip bs).map fun p => .tup [p.1, p.2])
  | [], xs, ys, as, bs, F, hl, h, ra, rb => by
    have e : (as.zip bs).length = 0 := by rw [List.length_zip, ← ra.len, ← rb.len, ← List.length_zip, ← hl]; rfl
    rw [List.length_eq_zero_iff.mp e]; exact .nil
  | t :: ts, xs, ys, as, bs, F, hl, h, ra, rb => by
    cases ra with
    | nil => simp at hl
    | cons r1 ra =>
      cases rb with
      | nil => simp at hl
      | cons r2 rb =>
        have h0 := h 0 t _ rfl rfl
        exact .cons (.tup (.inl (.inl h0)) (.cons r1 (.cons r2 .nil))) (reps_zipP (by simpa using hl) (fun j u p h1 h2 => h (j + 1) u p (by simpa using h1) (by simpa using h2)) ra rb)
theorem seq_of (hK : X.K = G.K) (st : St' G F H σ S T) {x : V} {d : D} {ds : List D} (r : Rep G F x d) (e : itemsOf d = some ds) : ∃ a xs, x = .ref a ∧ (SqL X.K H a xs ∨ SqT X.K H a xs) ∧ Reps G F xs ds := by
  cases r <;> simp only [itemsOf, reduceCtorEq] at e
  · rename_i a xs as h1 r1
    cases e
    exact ⟨a, xs, rfl, .inr (hK ▸ same_t st.sub h1), r1⟩
  · rename_i a xs as h1 r1
    cases e
    exact ⟨a, xs, rfl, .inl (.inl (.inl (st.sub _ _ h1))), r1⟩
theorem s2_zip (hK : X.K = G.K) : S2 G (rLZ X.K) fZip := by
  intro F H σ S T x y dx dy kd Q st rx ry e z
  unfold fZip at e
  cases e1 : itemsOf dx with
  | none => rw [e1] at e; cases e
  | some as =>
    cases e2 : itemsOf dy with
    | none => rw [e1, e2] at e; cases e
    | some bs =>
      rw [e1, e2] at e
      simp only at e
      split at e
      · cases e
        obtain ⟨a, xs, rfl, ha, ra⟩ := seq_of hK st rx e1
        obtain ⟨b, ys, rfl, hb, rb⟩ := seq_of hK st ry e2
        refine ⟨a, b, xs, ys, rfl, rfl, ha, hb, fun p ts hp hts hpt nd hl => ?_⟩
        obtain ⟨st1, s1⟩ := newPs ts (xs.zip ys) st hts nd
        rw [putP_upd ts _ _ hpt]
        have hp1 : putP H ts (xs.zip ys) p = none := by rw [putP_off ts _ _ hpt]; exact hp
        have atF := putP_at ts (xs.zip ys) F hl nd
        exact KE.newL (z.re s1) st1 (reps_zipP hl atF (ra.mono s1.sF) (rb.mono s1.sF)) p hp1
      · cases e
theorem tr_listZip {e e2 : Expr} {m n : E} {p q pos pos2 : Pos} (C : Cok X G W k) (h1 : TrE X G W e m) (h2 : TrE X G W e2 n) (hm : X.mg "list" = none) (hm2 : X.mg "zip" = none) (hg : Gl X "list" := by rfl) (hg2 : Gl X "zip" := by rfl)
    (hs : starEach [e, e2] X.env = (false, eval e X.env) :: starEach [e2] X.env := by rfl) (hs2 : starEach [e2] X.env = (false, eval e2 X.env) :: starEach [] X.env := by rfl) (hpl : (backTo pos2 (starEach [e2] X.env)).any (·.1) = false := by rfl)
    (hso : starEach [.Call (.Name "zip" q) [e, e2] [] pos2] X.env = (false, eval (.Call (.Name "zip" q) [e, e2] [] pos2) X.env) :: starEach [] X.env := by rfl) :
    TrE X G W (.Call (.Name "list" p) [.Call (.Name "zip" q) [e, e2] [] pos2] [] pos) (eOp fZip m n) := by
  obtain ⟨t, p1, d⟩ := h1
  obtain ⟨u, p2, d2⟩ := h2
  exact ⟨_, pe_listZip C.calm p1 p2 hg hm hg2 hm2 hs hs2 hpl hso, den_op (s2_zip C.hK) d d2⟩
/-! remove -/
def rRemS : V → List V → Hp → VK → Prop := fun x xs H Q => ∃ (l : Addr) (zs : List PySem.Str) (z : PySem.Str) (j : Nat), x = .ref l ∧ xs = [.str z] ∧ H l = some (.lst (zs.map V.str)) ∧ zs[j]? = some z ∧ (∀ m : Nat, m < j → zs[m]? ≠ some z) ∧ Q .non (upd H l (.lst ((zs.eraseIdx j).map V.str)))
def eqz (z : PySem.Str) (v : Value) : Bool := match v with
  | .str y _ => y == z
  | _ => false
theorem vals_strs : ∀ {zs : List PySem.Str} {us : List Value}, Vals (zs.map V.str) us → us.length = zs.length ∧ ∀ (j : Nat) (y : PySem.Str), zs[j]? = some y → ∃ t, us[j]? = some (.str y t)
  | [], _, .nil => ⟨rfl, fun j y h => by simp at h⟩
  | z :: zs, _, .cons r rr => by
    obtain ⟨a, b⟩ := vals_strs rr
    obtain ⟨t, rfl⟩ := r
    refine ⟨by simp [a], fun j y h => ?_⟩
    cases j with
    | zero => simp at h; subst h; exact ⟨t, rfl⟩
    | succ j => exact b j y (by simpa using h)
theorem mt_removeS : MtR X "list.remove" rRemS := by
  intro pins s σ H x xs v us Q I rx rxs h
  obtain ⟨l, zs, z, j, rfl, rfl, hH, hj, hno, q⟩ := h
  cases rx
  obtain ⟨u, rfl, ru⟩ := rxs.one
  obtain ⟨t, rfl⟩ := ru
  obtain ⟨sz, its, n, r, hl, e⟩ := I.lstM hH
  obtain ⟨vl, vat⟩ := vals_strs r
  rw [List.length_map] at hl sz
  have hjn : j < zs.length := (List.getElem?_eq_some_iff.mp hj).1
  have hjl : j < its.toArray.size := by rw [List.size_toArray]; omega
  refine PySem.call_meets PySem.F.slot_list_remove ⟨_, e, rfl⟩ PySem.F.entry_list_remove (PySem.F.args_list_remove_2 _ _)
    (MeetsSeq.list_remove l its.toArray n (.str z t) (eqz z) (fun y hy => ?_) j hjl ?_ ?_ (by rw [List.size_toArray]; omega)) ⟨e, ?_⟩
  · have hy : y ∈ its := by simpa using hy
    obtain ⟨m, hm⟩ := List.mem_iff_getElem?.mp hy
    have hml : m < zs.length := by have := (List.getElem?_eq_some_iff.mp hm).1; omega
    obtain ⟨t', e1⟩ := vat m zs[m] (List.getElem?_eq_getElem hml)
    rw [hm] at e1; cases e1
    exact PyProof.Rows.eqGives_str _ _ _ _
  · obtain ⟨t', e1⟩ := vat j z hj
    have e2 : its.toArray[j] = .str z t' := by
      obtain ⟨h1, h2⟩ := List.getElem?_eq_some_iff.mp e1
      simpa using h2
    rw [e2]
    show (z == z) = true
    simp
  · intro m hm hmj
    have hmn : m < zs.length := by omega
    obtain ⟨t', e1⟩ := vat m zs[m] (List.getElem?_eq_getElem hmn)
    have e2 : its.toArray[m] = .str zs[m] t' := by
      obtain ⟨h1, h2⟩ := List.getElem?_eq_some_iff.mp e1
      simpa using h2
    rw [e2]
    show (zs[m] == z) = false
    refine beq_eq_false_iff_ne.mpr fun e3 => hno m hmj ?_
    rw [List.getElem?_eq_getElem hmn, e3]
  · have rr := r.eraseIdx j
    have em : (zs.map V.str).eraseIdx j = (zs.eraseIdx j).map V.str := by
      rw [List.eraseIdx_eq_take_drop_succ, List.eraseIdx_eq_take_drop_succ]; simp
    rw [em] at rr
    refine ⟨.non, _, I.lset (its' := its.eraseIdx j) (t' := s.toks) hH e ?_ rr ?_, rfl, q⟩
    · show its.toArray.eraseIdxIfInBounds j = (its.eraseIdx j).toArray
      rw [List.eraseIdxIfInBounds_toArray]
    · rw [List.length_map, List.length_eraseIdx]; split <;> omega
theorem strs_of' {F : Hp} : ∀ {vs : List V} {ds : List D} {ss : List (List Nat)}, Reps G F vs ds → strsOf ds = some ss → ∃ zs : List PySem.Str, vs = zs.map V.str ∧ ss = zs.map (fun z => z.cps.toList) ∧ ds = zs.map (fun z => D.str z.cps.toList)
  | _, _, _, .nil, h => by cases h; exact ⟨[], rfl, rfl, rfl⟩
  | _, _, ss, .cons r s, h => by
    cases r <;> simp only [strsOf, reduceCtorEq] at h
    rename_i z
    cases q : strsOf _ with
    | none => rw [q] at h; cases h
    | some l =>
      rw [q] at h; cases h
      obtain ⟨zs, rfl, rfl, rfl⟩ := strs_of' s q
      exact ⟨z :: zs, rfl, rfl, rfl⟩
theorem cps_inj {a b : PySem.Str} (h : a.cps.toList = b.cps.toList) : a = b := by
  cases a; cases b
  have h2 := Array.toList_inj.mp h
  simp at h2
  rw [h2]
theorem mo_remove : MthOk G rRemS fRemove := by
  intro F H a vs xs us ds d ys Q hH rs ru e q
  cases ru with
  | nil => cases e
  | cons r1 r2 =>
    cases r2 with
    | cons a b => cases r1 <;> cases e
    | nil =>
      cases r1 with
      | str z =>
        have e : ((strsOf xs).bind fun ss => (ss.findIdx? fun y => y == z.cps.toList).bind fun j => if xs.length ≤ sizeMax then some (D.non, xs.eraseIdx j) else none) = some (d, ys) := e
        cases e1 : strsOf xs with
        | none => rw [e1] at e; cases e
        | some ss =>
          rw [e1] at e
          simp only [Option.bind_some] at e
          obtain ⟨zs, rfl, rfl, rfl⟩ := strs_of' rs e1
          cases e2 : (zs.map fun z => z.cps.toList).findIdx? (fun y => y == z.cps.toList) with
          | none => rw [e2] at e; cases e
          | some j =>
            rw [e2] at e
            simp only [Option.bind_some] at e
            split at e
            · cases e
              obtain ⟨h1, h2, h3⟩ := List.findIdx?_eq_some_iff_getElem.mp e2
              rw [List.length_map] at h1
              have hz : zs[j] = z := cps_inj (by simpa using h2)
              refine ⟨a, zs, z, j, rfl, rfl, hH, by rw [List.getElem?_eq_getElem h1, hz], fun m hm hc => ?_, q .non _ .non ?_⟩
              · obtain ⟨hml, hc⟩ := List.getElem?_eq_some_iff.mp hc
                have := h3 m hm
                simp [hc] at this
              · have rr := rs.erase j
                have em : (zs.map V.str).eraseIdx j = (zs.eraseIdx j).map V.str := by
                  rw [List.eraseIdx_eq_take_drop_succ, List.eraseIdx_eq_take_drop_succ]; simp
                rw [em] at rr
                exact rr
            · cases e
      | _ => cases e
theorem tr_remove (i : Nat) {x : PySem.Str} {e : Expr} {m : E} {p apos cpos : Pos} (h : TrE X G W e m) (hs : starEach [e] X.env = (false, eval e X.env) :: starEach [] X.env := by rfl)
    (hN : X.N[i]? = some x := by rfl) (hv : Vis X.env.scope x := by first | exact Or.inl rfl | exact Or.inr (Or.inl rfl) | exact Or.inr (Or.inr rfl)) (hd : (x == ("__debug__" : PySem.Str)) = false := by decide) (hcd : (x == ("__classdict__" : PySem.Str)) = false := by decide)
    (hbase : attributeBase (.Name x p) "remove" X.env (eval (.Name x p) X.env) = eval (.Name x p) X.env := by rfl)
    (hfew : ((backTo cpos (starEach [e] X.env)).all (fun x => !x.1) && (backToKw cpos (keywordEach [] X.env)).all (fun x => x.1.isSome)
      && decide ([e].length + ([] : List Keyword).length + (if ([] : List Keyword).isEmpty then 0 else 1) < 30)) = true := by rfl)
    (hline : (apos.endLine == cpos.line) = true := by rfl) (hplain : (backTo cpos (starEach [] X.env)).any (·.1) = false := by rfl) :
    TrE X G W (.Call (.Attribute (.Name x p) "remove" apos) [e] [] cpos) (eMth fRemove i [m]) :=
  tr_mth i PySem.F.slot_list_remove PySem.F.type_list_remove mt_removeS mo_remove (tra_cons h tra_nil hs) hN hv hd hcd hbase hfew hline hs hplain
/-! records -/
theorem ownL_put {F H : Hp} {kk : Key} {v : V} {d : D} (rv : Rep G F v d) : ∀ {ks : List Kd} {kvs : List (Key × V)} {kds : List (D × D)} {g : Cnt}, kds.map (·.1) = kvs.map (fun p => keyD p.1) → OwnL G F H ks (kvs.map (·.2)) (kds.map (·.2)) g → recFz ks kds (keyD kk) = true →
    OwnL G F H ks ((kvs.map fun p => if p.1 = kk then (p.1, v) else p).map (·.2)) ((kds.map fun p => if D.eqv p.1 (keyD kk) = true then (p.1, d) else p).map (·.2)) g
  | ks, [], [], g, _, o, _ => o
  | ks, [], _ :: _, g, h, _, _ => by simp at h
  | ks, _ :: _, [], g, h, _, _ => by simp at h
  | ks, p :: kvs, q :: kds, g, h, o, hf => by
    obtain ⟨h1, h2⟩ := List.cons.inj (show q.1 :: kds.map (·.1) = keyD p.1 :: kvs.map (fun p => keyD p.1) from h)
    cases o with
    | @cons k ks v0 d0 vs ds f g0 o1 o2 =>
      simp only [recFz, Bool.and_eq_true] at hf
      have ih := ownL_put rv h2 o2 hf.2
      rw [List.map_cons, List.map_cons, List.map_cons, List.map_cons]
      by_cases e : p.1 = kk
      · have e2 : D.eqv q.1 (keyD kk) = true := by rw [h1, key_eqv, decide_eq_true e]
        rw [if_pos e, if_pos e2]
        have hk : k.isF = true := by simpa [e2] using hf.1
        cases k <;> first | cases hk | skip
        cases o1 with
        | fz _ => exact .cons (.fz rv) ih
      · have e2 : ¬ D.eqv q.1 (keyD kk) = true := by rw [h1, key_eqv, decide_eq_false e]; simp
        rw [if_neg e, if_neg e2]
        exact .cons o1 ih
theorem tr_pSetR (i : Nat) {o e ke : Expr} {n m : E} {p' pos : Pos} (C : Cok X G W k) (h : TrP X G o i []) (hk : TrQ X G ke n) (he : TrE X G W e m)
    (hs : swapsWith e (some (.Subscript o ke p')) pos.line X.env = pure false := by rfl) : TrS X G W (.Assign [.Subscript o ke p'] e pos) (pSetR i n m) := by
  obtain ⟨t, p, d⟩ := h
  obtain ⟨u, q, d2⟩ := he
  obtain ⟨t3, q3, d3⟩ := hk
  refine ⟨_, ps_dput (by have := C.room.units; omega) p q3 q hs, fun F H σ S T D st z => d2.dat F H σ S T _ st (PRs.bind z fun y S1 z1 => ?_)⟩
  intro v F1 H1 T1 s1 st1 r1
  have z1 := PRs.reS s1 z1
  have z1 : PRs G W F1 H1 T1 (KS G F1 H1 T1 D) (match S1[i]?, eFzD n S1 with
    | some (some (.dR ks, .dic kvs)), some x => (match recPut ks kvs x y with
      | some kd => .ok .nx (S1.set i (some kd))
      | none => .bad)
    | _, _ => .bad) := z1
  split at z1
  · rename_i ks kds x e1 e2
    split at z1
    · rename_i kd er
      unfold recPut at er
      split at er
      · rename_i hc
        obtain ⟨hx, hz, ha, hf⟩ := hc
        cases er
        have eg : tgt i [] S1 = some ⟨[], .dR ks, .dic kds, .dR ks, .dic kds⟩ := tgt_mk e1 rfl rfl
        refine d F1 H1 σ S1 T1 _ _ st1 eg fun v0 w F2 H2 s2 st2 sH hv nv => ?_
        obtain ⟨S', em⟩ := fzD_eq e2
        refine d3 F2 H2 σ S1 T1 _ x S' st2 em fun yv F3 H3 s3 st3 sH3 ry => ?_
        obtain ⟨v0', v', f', T0, hv', hT, nv', o', back⟩ := tgt_own st3 eg
        rw [hv] at hv'; cases hv'
        have := (nv.mono sH3).uniq nv'
        subst this
        cases o' with
        | @dR _ a kvs _ gg ho hnm rl =>
          obtain ⟨kx, rfl, rfl⟩ := key_of hx ry
          have ga : gg a = 0 := by have := hT a; have := st3.le a; simp only [add, one, if_true] at *; omega
          have ha2 : (kvs.any fun kv => decide (kv.1 = kx)) = true := by rw [← put_any hnm]; exact ha
          have e3 : putK kvs kx v = kvs.map fun p => if p.1 = kx then (p.1, v) else p := by unfold putK; rw [if_pos ha2]
          have e4 : putD kds (keyD kx) y = kds.map fun p => if TB.D.eqv p.1 (keyD kx) = true then (p.1, y) else p := by unfold putD; rw [if_pos ha]
          have ol := ownL_put (r1.mono (s2.sF.trans s3.sF)) hnm rl hf
          have nm : (putD kds (keyD kx) y).map (·.1) = (putK kvs kx v).map (fun p => keyD p.1) := by
            rw [e3, e4, List.map_map, List.map_map]
            have a1 : (fun p : TB.D × TB.D => p.1) ∘ (fun p => if TB.D.eqv p.1 (keyD kx) = true then (p.1, y) else p) = fun p => p.1 := by funext p; simp only [Function.comp]; split <;> rfl
            have a2 : (fun p : Key × V => keyD p.1) ∘ (fun p => if p.1 = kx then (p.1, v) else p) = fun p => keyD p.1 := by funext p; simp only [Function.comp]; split <;> rfl
            rw [a1, a2]; exact hnm
          have ow : Own G F3 (upd H3 a (.dK (putK kvs kx v))) (.dR ks) (.ref a) (.dic (putD kds (keyD kx) y)) (add (one a) gg) := by
            refine .dR upd_same nm ?_
            rw [e3, e4]
            refine ol.mono (Same.refl F3) fun b u nb e => ?_
            rw [upd_ne (fun q => by rw [q] at nb; omega)]; exact e
          obtain ⟨st4, s4⟩ := put_core (g := ⟨[], .dR ks, .dic kds, .dR ks, .dic kds⟩) (fe := nil0) st3 hT (by simp [add, one]) back (fun b => by simp only [nil0]; exact st3.le b) (fun _ _ => rfl) ow (fun b => by simp only [nil0]; omega) (S1 := S1.set i (some (.dR ks, .dic (putD kds (keyD kx) y)))) rfl
          have hl : kvs.length = kds.length := by have := congrArg List.length hnm; simpa using this.symm
          have l2 : sizeLine = sizeMax := rfl
          exact ⟨a, _, rfl, .k ho (by rw [hl, l2]; exact hz), nx_of (show KS G F1 H1 T1 D .nx _ from z1) ((s2.trans s3).trans (s4.castL fun b => by simp [add, nil0])) st4⟩
      · cases er
    · exact z1.elim
  · exact z1.elim
/-- the inner block of a comprehension keeps the conditions -/
theorem cokB {s : Shared} {H : Hp} {sc : Scope} {cl : List (PySem.Str × Addr)} {A : Addr} {fp : List Addr} (C : Cok X G W k) : Cok (X.blk s H sc (compEnvC sc cl A X.env) fp) G W0 k := ⟨C.hK, takesN0, PassesOwn.never, C.calm, C.room, C.nd⟩
end
end TB

namespace TB
open PySem PySem.Spec PyProof.Rows L2
/-! ### raise -/
/-- a class of refusals without an own __init__ -/
structure RaiseC (K : PySem.W.Frag) (C : Addr) : Prop where
  q : PySem.W.excIn K C [.type "ValueError", .type "Exception", .type "BaseException", .type "object"] "ValueError.__new__" = true
  kp : PySem.W.keepIn K (.ref C) = true
  b : PySem.W.subIn K (.ref C) (.type "BaseException") = some true
  t : PySem.W.typeIn K (.ref C) = some (.type "type")
def raiseB (K : PySem.W.Frag) (C : Addr) : Bool := PySem.W.excIn K C [.type "ValueError", .type "Exception", .type "BaseException", .type "object"] "ValueError.__new__" && (PySem.W.keepIn K (.ref C) && (decide (PySem.W.subIn K (.ref C) (.type "BaseException") = some true) && decide (PySem.W.typeIn K (.ref C) = some (.type "type"))))
theorem raiseB_ok {K : PySem.W.Frag} {C : Addr} (h : raiseB K C = true) : RaiseC K C := by
  obtain ⟨h1, h⟩ := Bool.and_eq_true_iff.mp h
  obtain ⟨h2, h⟩ := Bool.and_eq_true_iff.mp h
  obtain ⟨h3, h4⟩ := Bool.and_eq_true_iff.mp h
  exact ⟨h1, h2, of_decide_eq_true h3, of_decide_eq_true h4⟩
theorem tr_raise (c : Nat) {X : Cx} {G : Cfgx} {W : WX} {k : Nat} {x m : PySem.Str} {j : Nat} {p p2 pos pos' : Pos} (C : Cok X G W k) (R : RaiseC X.K (G.ca c)) (hm : X.mg x = some (.ref (G.ca c))) (hg : Gl X x := by rfl) (hdb : (x == ("__debug__" : PySem.Str)) = false := by decide) :
    TrS X G W (.Raise (some (.Call (.Name x p) [.Constant (.str m) j p2] [] pos)) none pos') (sRaise c) :=
  ⟨_, L2N.ps_raise C.calm C.tk (L2N.pmk_own PySem.F.excBase_ValueError R.q hm R.kp (raises_own R.b R.t) hg hdb),
    fun F H σ S T D st z => (show PXs G W F H T ⟨c, .non⟩ S from z) σ (.ref (G.ca c)) none F H T (Step.refl F H T) st ⟨rfl, .inl ⟨rfl, rfl⟩⟩⟩
/-! ### the widest reading of a mirror -/
def tM (G : Cfgx) (W : WX) (m : St) : TS := fun D σ H => ∃ F S T, St' G F H σ S T ∧ PRs G W F H T (KS G F H T D) (m S)
theorem TrSs.can {X : Cx} {G : Cfgx} {W : WX} {ss : List Stmt} {m : St} (h : TrSs X G W ss m) : PSs X ss (tM G W m) := by
  obtain ⟨t, p, d⟩ := h
  exact ⟨fun pins s σ H D I ⟨F, S, T, st, z⟩ => p.run pins s σ H D I (d F H σ S T D st z)⟩

/-! ### try: .. except A as x: .. except B as y: .. -/
/-- a clause: its class, the slot of its name, the reading of its suite -/
structure ClK where
  c : Value
  i : Nat
  ts : Addr → Value → Option Addr → TS
/-- the suite's ends: the name goes -/
def clrD (i : Nat) (D : Ends) : Ends := { nx := fun σ H => D.nx (σ.set i none) H, rt := D.rt, bk := fun σ H => D.bk (σ.set i none) H, ct := fun σ H => D.ct (σ.set i none) H }
def wCl (K : PySem.W.Frag) (Wout : WX) (D : Ends) : List ClK → WX
  | [] => Wout
  | q :: qs => fun cls d σ H => ∃ b, PySem.W.exmOne K cls q.c = some b ∧ (b = true → ∀ a, H a = none → q.ts a cls d (clrD q.i D) (σ.set q.i (some (.ref a))) H) ∧ (b = false → wCl K Wout D qs cls d σ H)
inductive ClOk (X : Cx) : List ExceptHandler → List ClK → Prop
  | nil : ClOk X [] []
  | cons {x n : PySem.Str} {c : Value} {i : Nat} {ts : Addr → Value → Option Addr → TS} {b₁ : Stmt} {ss : List Stmt} {np ep : Pos} {hds : List ExceptHandler} {qs : List ClK} (hi : X.N[i]? = some n) (hl : X.env.kindOf n = some .local) (hc : Names X x c)
      (hu : ∀ (a : Addr) (oe : Obj) (cls : Value) (d : Option Addr) (pn : List (Addr × Obj)), L2N.Zn cls d oe → (∃ fv, oe.data = .fields fv) → PSs (X.suite a ((a, oe) :: pn)) (b₁ :: ss) (ts a cls d)) (rest : ClOk X hds qs) :
      ClOk X (.ExceptHandler (some (.Name x np)) (some n) (b₁ :: ss) ep :: hds) (⟨c, i, ts⟩ :: qs)
section
variable {X : Cx}
/-- an exception that has landed meets the clauses -/
theorem meets_cl {pins : List (Addr × Obj)} {D : Ends} {Wout : WX} {a : Addr} {B hb : Heap} {sI z : Shared} {τ : L2.St} {Hx : Hp} {cls : Value} {dx : Option Addr} (st : X.stack = X.env :: X.outer) (fr : X.env.frame = some X.env.locals) (nd : X.N.Nodup) (tk : L2N.Takes X Wout)
    (J : Inv X pins τ Hx sI) (gr : ∀ b o, sI.heap.get? b = some o → b ∉ frs X.stack → B.get? b = some o) (hz : sI.heap.UpToSlots hb) (fl : HandSPX.FlyingZ B (X.env :: X.outer) a (L2N.Zn cls dx) hb) (na : Hx a = none) (os : z.os = sI.os) (ag : AllBare z.gens) :
    ∀ {hds : List ExceptHandler} {qs : List ClK}, ClOk X hds qs → wCl X.K Wout D qs cls dx τ Hx → wpAny (model X.prog X.w) X.A (handleBy (.ref a) X.env hds) (SP X pins D) X.xe { z with heap := hb } := by
  obtain ⟨oz, vz, gz, kz, dz⟩ := fl.there
  have outside : ∀ {h : Heap} {o : Obj} {vs : Array Value}, h.FunFrames B (X.env :: X.outer) → h.get? a = some o → o.data = .fields vs → a ∉ frs (X.env :: X.outer) := fun {h o vs} ff e dd hm => by
    obtain ⟨_, u, e2, hn⟩ := ff.mem hm
    rw [e] at e2
    cases e2
    exact hn _ dd
  have n1 := outside fl.2.2.1 gz dz
  have notL : a ≠ X.env.locals := fun y => n1 (List.mem_filterMap.mpr ⟨X.env, List.mem_cons_self, by rw [fr, y]⟩)
  have notF : a ∉ X.fs := fun hm => by
    obtain ⟨e, he, y⟩ := List.mem_filterMap.mp hm
    exact n1 (List.mem_filterMap.mpr ⟨e, List.mem_cons_of_mem _ he, y⟩)
  have JL : Inv X pins τ Hx { z with heap := hb } := J.landed gr fl.1 hz os ag
  have JS := JL.suite gz dz na notL notF
  intro hds qs hk
  induction hk with
  | nil =>
    intro w
    refine wpAny_handleBy_nil ?_
    obtain ⟨_, _, _, o1, vs1, T1, _, _, g1, _, d1, t1, _⟩ := id fl
    unfold PySem.passOn
    refine wpAny_bind (wpAny_field g1 d1 t1 ?_)
    rw [if_neg (show ¬ ((Value.ref T1 == Value.none) = true) from by simp)]
    have on : wpAny (model X.prog X.w) X.A (setFlight (.ref a) X.env.frame) (fun _ s4 => wpAny (model X.prog X.w) X.A (throw (.ref a) : Sem Flow) (SP X pins D) X.xe s4) X.xe { z with heap := hb } := by
      rw [fr]
      exact HandSPX.setFlight_upZ fl fun h4 hh4 up4 => wpAny_throw (tk _ _ ⟨a, B, sI, pins, τ, Hx, cls, dx, rfl, J, gr, hz.trans up4, .inr (.inr (by rw [st]; exact hh4)), na, os, ag, w⟩)
    first
      | exact wpAny_bind (wpAny_pure (wpAny_bind on))
      | exact wpAny_bind on
  | @cons x n c i ts b₁ ss np ep hds qs hi hl hc hu rest ih =>
    intro w
    obtain ⟨b, eb, yes, no⟩ := w
    refine wpAny_handleBy_cons (codeAny_handlers_test ?_) (by intro y; cases y)
    have ty : PySem.W.Looks (model X.prog X.w) hb (typeOf (.ref a)) cls := fun A Q E s k y => wpAny_typeOf_ref (k _ _ gz) (by rw [kz.1]; exact y)
    have asked : ∀ {Q E : Value → Shared → Prop}, Q c { z with heap := hb } → wpAny (model X.prog X.w) (X.A.mark (some (.ref a))) (eval (.Name x np) X.env) Q E { z with heap := hb } := fun {Q E} y => by
      obtain ⟨g1, g2, g3 | ⟨g3, g4, g5⟩⟩ := hc
      · exact ld_glob (X := X.suite a ((a, oz) :: (X.pn ++ pins))) JS g1 g3 y g2
      · exact ld_blt (X := X.suite a ((a, oz) :: (X.pn ++ pins))) JS g1 g3 g4 y g5 g2
    refine asked ((PySem.W.exm_one (M := model X.prog X.w) JL.kIn ty eb).here ?_)
    cases b with
    | false =>
      show wpAny _ X.A (handleBy (.ref a) X.env hds) _ _ _
      exact ih (no rfl)
    | true =>
      refine codeAny_handlers_suite_as ?_
      refine HandSPX.lands_againZ fl fun h4 fl4 up4 => ?_
      have J4 : Inv X pins τ Hx { z with heap := h4 } := J.landed gr fl4.1 (hz.trans up4) os ag
      obtain ⟨o4, v4, g4, k4, d4⟩ := fl4.there
      have S4 := J4.suite g4 d4 na notL notF
      refine store_ok (X := X.suite a ((a, o4) :: (X.pn ++ pins))) (v := .ref a) S4 nd hi (.inl hl) rfl (fun s5 S5 => ?_) (.inr hl)
      have gone : ∀ {s6 : Shared} {υ : L2.St} {H6 : Hp} {Q : Shared → Prop}, Inv (X.suite a ((a, o4) :: (X.pn ++ pins))) [] υ H6 s6 → (∀ s7, Inv X pins (υ.set i none) H6 s7 → Q s7) →
          wpAny (model X.prog X.w) X.A (do bindName X.env n .none; unbindBehindTheSuite X.env n ep) (fun _ s7 => Q s7) X.xe s6 := fun {s6 υ H6 Q} S6 hq => gone_ok (S6.unsuite JL.ok) nd hi hl hq
      refine wpAny_mono ((hu a o4 cls dx (X.pn ++ pins) k4 ⟨_, d4⟩).run [] s5 _ Hx _ S5 (yes rfl a na)) (fun f s6 q => ?_) (fun _ _ y => False.elim y)
      cases f with
      | ret u =>
        obtain ⟨v6, υ, H6, S6, r6, q6⟩ := q
        exact gone S6 fun s7 J7 => ⟨_, _, _, J7, r6, q6⟩
      | next =>
        obtain ⟨υ, H6, S6, q6⟩ := q
        exact gone S6 fun s7 J7 => ⟨_, _, J7, q6⟩
      | brk =>
        obtain ⟨υ, H6, S6, q6⟩ := q
        exact gone S6 fun s7 J7 => ⟨_, _, J7, q6⟩
      | cont =>
        obtain ⟨υ, H6, S6, q6⟩ := q
        exact gone S6 fun s7 J7 => ⟨_, _, J7, q6⟩
theorem ps_try_cl {body : List Stmt} {h₁ : ExceptHandler} {hds : List ExceptHandler} {qs : List ClK} {pos : Pos} {tb : WX → TS} {Wout : WX} (st : X.stack = X.env :: X.outer) (fr : X.env.frame = some X.env.locals) (nd : X.N.Nodup) (tk : L2N.Takes X Wout)
    (hb : ∀ (W : WX) (pn : List (Addr × Obj)) (xe : Value → Shared → Prop), L2N.Takes (X.tr pn xe) W → PassesOwn (model X.prog X.w) X.A X.env xe → PSs (X.tr pn xe) body (tb W))
    (hh : ClOk X (h₁ :: hds) qs) : L2.PS X (.Try body (h₁ :: hds) [] [] pos) (fun D σ H => tb (wCl X.K Wout D qs) D σ H) := by
  refine ⟨fun pins s σ H D I h => ?_⟩
  have ok := I.ok
  have fr2 : X.A.frames = some (X.env :: X.outer) := by rw [ok.frames, st]
  have out := (hb (wCl X.K Wout D qs) (X.pn ++ pins) (fun u s₁ => wpAny (model X.prog X.w) X.A (noteFrame u X.env) (fun _ s₂ => wpAny (model X.prog X.w) X.A (setFlight u none) (fun _ s₃ =>
    wpAny (model X.prog X.w) X.A (handleBy u X.env (h₁ :: hds)) (SP X pins D) X.xe s₃) X.xe s₂) X.xe s₁) (fun u z xx => by
      obtain ⟨a, B, sI, pins', τ, Hx, cls, dx, rfl, J', gr, up, sky, na, os, ag, w⟩ := xx
      have J : Inv X pins τ Hx sI := J'.ofTry ok
      have sky2 : Sky B (X.env :: X.outer) a (L2N.Zn cls dx) X.env.locals z.heap := by rw [← st]; exact sky
      show wpAny (model X.prog X.w) X.A (noteFrame (.ref a) X.env) _ _ _
      exact L2N.Sky.land L2N.Zn.steady fr2 fr sky2 fun h3 fl3 up3 => meets_cl st fr nd tk J gr (up.trans up3) fl3 na os ag hh w) PassesOwn.looking).run [] s σ H D (I.toTry _) h
  refine wpAny_Try_except (wpAny_mono out (fun f s1 q => ?_) fun _ _ y => y)
  cases f with
  | next =>
    obtain ⟨τ, Hx, J, q⟩ := q
    exact wpAny_execs_nil ⟨τ, Hx, J.ofTry ok, q⟩
  | ret u =>
    obtain ⟨v, τ, Hx, J, r, q⟩ := q
    exact ⟨v, τ, Hx, J.ofTry ok, r, q⟩
  | brk =>
    obtain ⟨τ, Hx, J, q⟩ := q
    exact ⟨τ, Hx, J.ofTry ok, q⟩
  | cont =>
    obtain ⟨τ, Hx, J, q⟩ := q
    exact ⟨τ, Hx, J.ofTry ok, q⟩
end
end TB

namespace TB
open PySem PySem.Spec PyProof.Rows L2 L2H
/-! ### a comprehension while an exception is handled -/
/-- the block's context: the handled exception p stays in sight -/
abbrev blkH (X : Cx) (p : Addr × Obj) (s : Shared) (H : Hp) (scope : Scope) (ce : Env) (fp : List Addr) : Cx := (X.blk s H scope ce fp).tr [p] fun _ _ => False
theorem pe_lcH {X : Cx} {p : Addr × Obj} {elt tg iter : Expr} {ifs : List Expr} {scope : Scope} {own : List (PySem.Str × Nat)} {pos : Pos} {wi : TI} {g : TG} {tt : TT} {te : TE} (hot : Hot1 X.A p) (hp : p ∈ X.pn) (nd : X.N.Nodup) (hi : PIH X tg iter wi) (ok : BlkOk X.N X.env.scope scope own)
    (hg : ∀ (s : Shared) (H : Hp) (C : Addr) (cl : List (PySem.Str × Addr)) (fp : List Addr), PG (blkH X p s H scope (compEnvC scope cl C X.env) fp) tg g)
    (ht : ∀ (s : Shared) (H : Hp) (C : Addr) (cl : List (PySem.Str × Addr)) (fp : List Addr), PTs (blkH X p s H scope (compEnvC scope cl C X.env) fp) ifs tt)
    (he : ∀ (s : Shared) (H : Hp) (C : Addr) (cl : List (PySem.Str × Addr)) (fp : List Addr), PE (blkH X p s H scope (compEnvC scope cl C X.env) fp) elt te) (hs : ∀ x, foldedSetIterable iter X.env x = pure x := by intro _; rfl) :
    PE X (.ListComp elt [⟨tg, iter, ifs, 0⟩] scope pos) (tLc wi g tt te (own.map (·.2))) := by
  refine ⟨fun pins s σ H Q I h => ?_⟩
  rw [eval_ListComp]
  have cells : ∀ y ∈ scope.names, y.2 = .free → ∃ c, X.env.cells.lookup y.1 = some c := fun y hy e => I.ok.has _ (ok.free y hy e)
  refine wpAny_comprehension_free (use := none) rfl hs (closure_ok cells) ok.kind (fun y hy e => by rw [ok.uniq y hy, e]) (thn (hi.run pins s σ H _ I h) fun xv sa ha => thn ha fun itv sb hb => ?_)
  obtain ⟨it, fp, tn, J, Hb, e, Ib, T, stb, fb, q⟩ := hb
  subst e
  refine wpAny_newObj_type (newEnv_comp ?_) (by show 0 ≤ sizeLine; decide)
  generalize eL : sb.heap.objs.size = L
  obtain ⟨W, ⟨m0, w0⟩, turn⟩ := q L (Ib.hok.fresh (Nat.le_of_eq eL))
  generalize es : ({ sb with heap := sb.heap.push { cls := .type "list", data := .seq ([] : List Value).toArray } } : Shared) = sc
  have hc : sc.heap = sb.heap.push { cls := .type "list", data := .seq ([] : List Value).toArray } := by rw [← es]
  have Ic : Inv X pins σ (upd Hb L (.lst [])) sc := by
    rw [← es]
    exact Ib.laid (t' := sb.toks) (fun b o e => Heap.get?_push_of_some _ e) (Nat.le_of_eq eL) ⟨Nat.zero_le _, [], 0, .nil, by rw [← eL]; exact Heap.get?_push_size _ rfl⟩
  have fc : ∀ b ∈ fp, FpOk X pins (upd Hb L (.lst [])) b ∧ b < sc.heap.objs.size := fun b hb => by
    obtain ⟨o, e, _⟩ := T.obj _ _ stb b hb
    have lt := Heap.lt_size e
    exact ⟨⟨by rw [upd_ne (by rw [← eL]; exact Nat.ne_of_lt lt)]; exact (fb b hb).1, (fb b hb).2⟩, by rw [hc, Heap.size_push]; exact Nat.lt_succ_of_lt lt⟩
  have stc : tn 0 sc.heap := T.keep _ _ _ stb fun b _ o e => by rw [hc]; exact Heap.get?_push_of_some _ e
  have Id := block_start Ic ok nd fc
  have pP := Ic.pin p (List.mem_append_left _ hp)
  have pg := hg sc (upd Hb L (.lst [])) sc.heap.objs.size (cellsFrom (sc.heap.objs.size + 1) scope.names (cloFrom X.env.cells scope.names [])) fp
  have pt := ht sc (upd Hb L (.lst [])) sc.heap.objs.size (cellsFrom (sc.heap.objs.size + 1) scope.names (cloFrom X.env.cells scope.names [])) fp
  have pe := he sc (upd Hb L (.lst [])) sc.heap.objs.size (cellsFrom (sc.heap.objs.size + 1) scope.names (cloFrom X.env.cells scope.names [])) fp
  show codeAny _ _ (.compStart (.ListComp elt [⟨tg, iter, ifs, 0⟩] scope pos) 0 (.ref it) (.ref L) (compEnvC scope (cellsFrom (sc.heap.objs.size + 1) scope.names (cloFrom X.env.cells scope.names [])) sc.heap.objs.size X.env)) (compPost (model X.prog X.w) X.A X.xe none (EP X pins σ Q) (.ref L) sc.heap.objs.size) { sc with heap := pushCells (sc.heap.push { cls := .type "dict", data := .dict #[] }) scope.names }
  have n0 : ∀ b ∈ fp, (upd Hb L (.lst [])) b = none := fun b hb => (fc b hb).1.1
  generalize ece : compEnvC scope (cellsFrom (sc.heap.objs.size + 1) scope.names (cloFrom X.env.cells scope.names [])) sc.heap.objs.size X.env = ce at Id pg pt pe ⊢
  have cL : ce.locals = sc.heap.objs.size := by subst ece; rfl
  generalize eHc : upd Hb L (.lst []) = Hc at Ic Id pg pt pe w0 n0 fc pP
  generalize ed : ({ sc with heap := pushCells (sc.heap.push { cls := .type "dict", data := .dict #[] }) scope.names } : Shared) = sd at Id ⊢
  have kd : ∀ b o, sc.heap.get? b = some o → sd.heap.get? b = some o := fun b o e => by rw [← ed]; exact pushCells_keeps _ _ _ _ (Heap.get?_push_of_some _ e)
  have std : tn 0 sd.heap := T.keep _ _ _ stc fun b _ o e => kd b o e
  have frees : (X.blk sc Hc scope ce fp).fs = frs X.stack := rfl
  have Ip : Inv (X.blk sc Hc scope ce fp) [p] (wipe σ (own.map (·.2))) Hc sd := Id.pins_of fun q hq => by
    have e : q = p := by simpa using hq
    subst e
    refine ⟨kd _ _ pP.1, pP.2.1, ?_, fun hm => (List.mem_cons.mp (Ic.stkSub q.1 hm)).elim pP.2.2.1 pP.2.2.2.1, pP.2.2.2.2⟩
    show q.1 ≠ ce.locals
    rw [cL]
    exact Nat.ne_of_lt (Heap.lt_size pP.1)
  have Ih : Inv (blkH X p sc Hc scope ce fp) [] (wipe σ (own.map (·.2))) Hc sd := Ip.toTry _
  have hotB : HotC (blkH X p sc Hc scope ce fp) := ⟨p, hot, List.mem_singleton.mpr rfl⟩
  have offp : ∀ b ∈ fp, p.1 ≠ b := fun b hb => (fc b hb).1.2.2.2.2.2 p (List.mem_append_left _ hp)
  have stay : ∀ {τ : L2.St} {H' : Hp} {z : Shared}, Inv (blkH X p sc Hc scope ce fp) [] τ H' z → (∀ b ∈ fp, H' b = none) → ∀ b ∈ fp, FpOk (blkH X p sc Hc scope ce fp) [] H' b := fun {τ H' z} I' hn b hb =>
    ⟨hn b hb, (I'.ok.exf b hb).1, I'.ok.exfs b hb, .inl hb, fun x c e => (I'.ok.exf b hb).2 x c e, fun q hq => by
      have e : q = p := by simpa using (show q ∈ [p] ++ ([] : List (Addr × Obj)) from hq)
      subst e
      exact offp b hb⟩
  have go : codeAny (model X.prog X.w) X.A (.compLoop (.ListComp elt [⟨tg, iter, ifs, 0⟩] scope pos) 0 (.ref it) (.ref L) ce) (compPost (model X.prog X.w) X.A X.xe none (EP X pins σ Q) (.ref L) sc.heap.objs.size) sd := by
    refine compLoop_any (fun n z => ∃ i H', Inv (blkH X p sc Hc scope ce fp) [] (wipe σ (own.map (·.2))) H' z ∧ tn i z.heap ∧ (∀ b ∈ fp, H' b = none) ∧ W i n H') ?_ m0 ⟨0, Hc, Ih, std, n0, w0⟩
    rintro n z ⟨i, H5, I5, st5, n5, w5⟩
    rcases turn i n H5 w5 with ⟨ends, qq⟩ | ⟨more, Nx, hNx, step⟩
    · refine thnF (T.done (blkH X p sc Hc scope ce fp) rfl rfl rfl hotB i [] z _ H5 (fun _ _ => False) I5 (stay I5 n5) st5 ends) fun r z6 ⟨hr, I6⟩ => ?_
      subst hr
      have I7 : Inv X pins σ H5 z6 := Ic.call' (ch := fp) I6.os I6.base I6.hok I6.bare fun b hb => ⟨(fc b hb).1.2.2.2.1, (fc b hb).1.2.1, (fc b hb).1.2.2.2.2.1, (fc b hb).1.2.2.2.2.2⟩
      have nC : H5 sc.heap.objs.size = none := by
        have y : H5 ce.locals = none := I6.free
        rwa [cL] at y
      obtain ⟨m, hn, _⟩ := I6.loc
      have hn : z6.heap.Ns ce.locals m := hn
      rw [cL] at hn
      obtain ⟨f0, f1, f2, f3, f4, f5⟩ := Ic.fpOk (Nat.le_refl _) nC
      exact ⟨m, hn, fun h9 sb9 => ⟨.ref L, H5, I7.turned (t' := z6.toks) (fun b o hb e => (sb9.2 b hb).trans e) f0 f1 f3 f4 f5, rfl, qq⟩⟩
    · refine thnF (T.item (blkH X p sc Hc scope ce fp) rfl rfl rfl hotB i [] z _ H5 (fun _ _ => False) I5 (stay I5 n5) st5 more) fun r z6 ⟨u, hr, h6⟩ => ?_
      subst hr
      refine thnF h6 fun _ z7 ⟨x, H7, I7, r7, y7, st7, n7⟩ => ?_
      refine thnF (pg.run _ z7 _ H7 x u _ (I7.pinned (stay I7 n7) (T.obj _ _ st7)) r7 (step x H7 y7)) fun _ z8 ⟨σ8, H8, I8, hw8, q8⟩ => ?_
      refine thnF (pt.run _ z8 σ8 H8 _ I8 q8) fun b z9 ⟨H9, I9, q9⟩ => ?_
      have again : ∀ {z' : Shared} {H' : Hp}, Inv (blkH X p sc Hc scope ce fp) ([] ++ pinsAt fp z7.heap) σ8 H' z' → Nx H' → ∃ m, m < n ∧ ∃ i H', Inv (blkH X p sc Hc scope ce fp) [] (wipe σ (own.map (·.2))) H' z' ∧ tn i z'.heap ∧ (∀ b ∈ fp, H' b = none) ∧ W i m H' := fun {z' H'} I' nx => by
        obtain ⟨m', lt, w'⟩ := hNx H' nx
        have held : ∀ b ∈ fp, ∀ o, z7.heap.get? b = some o → z'.heap.get? b = some o ∧ H' b = none := fun b hb o e =>
          let y := I'.pin (b, o) (List.mem_append_right _ (List.mem_append_right _ (mem_pinsAt hb e)))
          ⟨y.1, y.2.1⟩
        refine ⟨m', lt, i + 1, H', (I'.unpinned (pins := [])).weak (by rw [← hw8, wipe_length]) (fun j v e => ?_), T.keep _ _ _ st7 fun b hb o e => (held b hb o e).1, fun b hb => ?_, w'⟩
        · rw [← hw8] at e
          exact (wipe_some e).1
        · obtain ⟨o, e, _⟩ := T.obj _ _ st7 b hb
          exact (held b hb o e).2
      cases b with
      | false =>
        simp only [Bool.false_eq_true, if_false] at q9 ⊢
        exact again I9 q9
      | true =>
        simp only [if_true] at q9 ⊢
        refine thnF (pe.run _ z9 σ8 H9 _ I9 q9) fun _ zA ⟨yv, HA, IA, rA, acc, hL, hz, nx⟩ => ?_
        exact app_ok (X := blkH X p sc Hc scope ce fp) IA hL hz rA fun zB IB => again IB nx
  exact codeAny_compStart_list go (T.self X.A 0 _ _ _ std go)
end TB

namespace TB
open PySem PySem.Spec PyProof.Rows L2 L2H
/-! ### a def called while an exception is handled: its promise may speak of that exception -/
theorem hot_fn {P : Program} {w : World} {K : PySem.W.Frag} {mg : PySem.Str → Option Value} {base : Heap} {x qual : PySem.Str} {params : Arguments} {body : List Stmt} {scope : Scope} {dvs : List V} {kws : List (PySem.Str × V)} {f : Addr} {fd : FuncData} {N ps : List PySem.Str} {k : Nat}
    {A : Around} {outer : List Env} {s : Shared} {H : Hp} {args : PySem.Args} {us : List Value} {vs : List V} {Q : VK} {E : XK} {p : Addr × Obj} (FD : FunD K x qual params body scope dvs kws f fd) (S : FnScope N ps scope) (room : RoomH (k + 1) A) (pin : PinOk outer H s p) (e0 : Env0 P w K mg base A outer s H)
    (bd : BindsTo s fd args (ps.zip us)) (rv : Vals vs us) (hl : vs.length = ps.length)
    (hb : ∀ cdv : Value, ∃ t, PSs (cxH (L2N.CX P w) P w K mg base N qual scope f cdv A outer s H E p) body t ∧ t { nx := fun _ H' => Q .non H', rt := Q } (L2.start N vs) H) :
    codeAny (model P w) A (.call (.ref f) args) (CR (L2N.CX P w) outer P w H s Q E) s := by
  obtain ⟨oc, od, dV, kV, doc, pm, an, cdv, ct, osl, rfl, lk, hcd, _, _⟩ := FD.ex
  obtain ⟨t, ht, hq⟩ := hb cdv
  have inK : K.In s.heap := e0.mod.kin.keeps fun b o e => (e0.bs b o e).1
  have free : s.heap.NoLimit := e0.mod.nolimit.keeps fun b o e => (e0.bs b o e).1
  have kinds : ∀ y ∈ ps.zip us, scope.names.lookup y.1 = some .local ∨ (scope.names.lookup y.1 = some .cell ∧ ((cellsFrom (s.heap.objs.size + 1) scope.names []).lookup y.1).isSome = true) := by
    rintro ⟨n, v⟩ hy
    exact (S.par n (List.of_mem_zip hy).1).imp id fun c => ⟨c, PySem.W.cellsFrom_some _ _ _ (.inl c)⟩
  refine codeAny_call_function room.depth (inK _ _ lk) rfl S.co S.gen rfl (PySem.W.codeRec_of inK hcd) (bd _ _ _ _ (wpAny_newFunctionEnv_cells S.kind kinds fun env he s1 x => ?_))
  subst he
  refine ⟨free.keeps x.toInCall.keep, codeAny_func ?_⟩
  refine wpAny_mono (ht.run [] s1 (L2.start N vs) H _ (inv_startH S pin e0 hl rv x) hq) (fun fl z hz => ?_) fun _ _ y => y
  cases fl with
  | brk => exact hz.elim fun _ y => y.elim fun _ y => False.elim y.2
  | cont => exact hz.elim fun _ y => y.elim fun _ y => False.elim y.2
  | next =>
    obtain ⟨τ, Hz, J, q⟩ := hz
    exact ⟨.non, Hz, J.os, J.bare, J.base, J.hok, rfl, q⟩
  | ret u =>
    obtain ⟨v, τ, Hz, J, r, q⟩ := hz
    exact ⟨v, Hz, J.os, J.bare, J.base, J.hok, r, q⟩

/-! ### isinstance of the handled exception -/
/-- the exception's own dict, if it has one, stands in the heap -/
def DictAt (h : Heap) (d : Option Addr) : Prop := match d with
  | none => True
  | some dx => ∃ o, h.get? dx = some o
theorem call_isP {X : Cx} {D : Addr} {p : Addr × Obj} (C : ExcC X.K D) (hp : p ∈ X.pn) (hc : p.2.cls = .ref D) (hf : ∃ fv, p.2.data = .fields fv) (hd : DictAt X.s_0.heap p.2.dict) (he : X.ex = []) : CallR X (.builtin "isinstance") (rIsE X.K D p.1) := by
  intro pins s σ H xs us Q I r h
  obtain ⟨c, cv, b, rfl, hcv, e, q⟩ := h
  obtain ⟨fv, dt⟩ := hf
  cases r with
  | cons rx rr =>
    cases rr with
    | @cons _ u2 _ _ rt rr =>
      cases rr
      cases rx
      have ec := hcv _ rt
      subst ec
      have at_ : s.heap.get? p.1 = some p.2 := (I.pin p (List.mem_append_left _ hp)).1
      have no : PySem.W.notCls p.2 = true := by unfold PySem.W.notCls; rw [dt]
      have cl : (PySem.W.clsIn X.K D).isSome = true := by
        obtain ⟨cd, hcd, _⟩ := PySem.W.any_some C.hd
        rw [hcd]
        rfl
      have fin : ∀ {od : Option Obj}, PySem.W.InstAt s.heap p.1 p.2 D od → wpAny (model X.prog X.w) X.A (call (.builtin "isinstance") [.ref p.1, u2]) (EP X pins σ Q) X.xe s := fun {od} J =>
        PySem.W.kia_one (PySem.W.kitx_exc cl C.hg C.hk C.hs C.ha C.hn C.ht C.hm) I.kIn J e (fun z => nomatch z) fun tk => ⟨.bl b, H, I.kept (t' := tk) fun _ _ z => z, rfl, q⟩
      cases q2 : p.2.dict with
      | none => exact fin (od := none) ⟨at_, hc, no, by rw [q2]; trivial⟩
      | some dx =>
        rw [q2] at hd
        obtain ⟨o, ho⟩ := hd
        obtain ⟨o2, ho2⟩ := I.base.there dx o ho (by rw [he]; simp)
        exact fin (od := some o2) ⟨at_, hc, no, by rw [q2]; exact ho2⟩
/-- what is known of the classes of refusals -/
structure XFacts (K : PySem.W.Frag) (ca : Nat → Addr) (xs : List Nat) : Prop where
  ec : ∀ c, xs.contains c = true → ExcC K (ca c)
  is_ : ∀ c t, xs.contains c = true → t ∈ ([13, 17, 11, 18, 16, 15, 14, 22, 12, 20, 21, 23, 19] : List Nat) → PySem.W.kitOne K (.ref (ca c)) (.ref (ca t)) = some (xSub c t)
  ve : ∀ c, xs.contains c = true → PySem.W.kitOne K (.ref (ca c)) (.type "ValueError") = some true
  ct : ∀ c t, xs.contains c = true → t ∈ ([10, 22, 23] : List Nat) → PySem.W.exmOne K (.ref (ca c)) (.ref (ca t)) = some (xSub c t)
def excCB (K : PySem.W.Frag) (D : Addr) : Bool := decide (PySem.W.findIn K (.ref D) "__getattribute__" = some (some (.builtin "BaseException.__getattribute__"))) && (decide (PySem.W.findIn K (.ref D) "__getattr__" = some none) && (decide (PySem.W.subIn K (.ref D) (.type "BaseException") = some true) && (PySem.W.hasDictIn K D &&
  (decide (PySem.W.findIn K (.ref D) "__class__" = some (some (.builtin "object.__class__"))) && (decide (PySem.W.specialIn K (.builtin "object.__class__") "__get__" = some (some (.builtin "getset_descriptor.__get__"))) && (decide (PySem.W.takesIn K (.builtin "object.__class__") = some true) && decide (PySem.W.mroIn K D (.type "object") = some true)))))))
theorem excCB_ok {K : PySem.W.Frag} {D : Addr} (h : excCB K D = true) : ExcC K D := by
  simp only [excCB, Bool.and_eq_true, decide_eq_true_eq] at h
  obtain ⟨h1, h2, h3, h4, h5, h6, h7, h8⟩ := h
  exact ⟨h1, h2, h3, h4, h5, h6, h7, h8⟩
def xFactsB (K : PySem.W.Frag) (ca : Nat → Addr) (xs : List Nat) : Bool := xs.all fun c => excCB K (ca c) && (([13, 17, 11, 18, 16, 15, 14, 22, 12, 20, 21, 23, 19] : List Nat).all (fun t => decide (PySem.W.kitOne K (.ref (ca c)) (.ref (ca t)) = some (xSub c t))) &&
  (decide (PySem.W.kitOne K (.ref (ca c)) (.type "ValueError") = some true) && ([10, 22, 23] : List Nat).all (fun t => decide (PySem.W.exmOne K (.ref (ca c)) (.ref (ca t)) = some (xSub c t)))))
theorem xFactsB_ok {K : PySem.W.Frag} {ca : Nat → Addr} {xs : List Nat} (h : xFactsB K ca xs = true) : XFacts K ca xs := by
  have h : ∀ c, xs.contains c = true → _ := fun c hc => List.all_eq_true.mp h c (by simpa using hc)
  simp only [Bool.and_eq_true, List.all_eq_true, decide_eq_true_eq] at h
  exact ⟨fun c hc => excCB_ok (h c hc).1, fun c t hc ht => (h c hc).2.1 t ht, fun c hc => (h c hc).2.2.1, fun c t hc ht => (h c hc).2.2.2 t ht⟩

section
variable {X : Cx} {G : Cfgx} {W : WX}
theorem tr_setN (i : Nat) {x : PySem.Str} {e : Expr} {m : E} {p pos : Pos} (nd : X.N.Nodup) (h : TrE X G W e m) (hp : G.pk.contains i = false := by rfl) (hi : X.N[i]? = some x := by rfl) (hx : Loc X.env.scope x := by first | exact Or.inl rfl | exact Or.inr rfl) (hs : swapsWith e (some (.Name x p)) pos.line X.env = pure false := by rfl)
    (hf : X.fn x = true ∨ X.env.scope.names.lookup x = some .local := by first | exact .inl rfl | exact .inr rfl) : TrS X G W (.Assign [.Name x p] e pos) (sSet i m) := by
  obtain ⟨t, q, d⟩ := h
  refine ⟨_, ps_set nd hi hx q hs hf, fun F H σ S T D st z => d F H σ S T _ st (PRs.bind z fun kd S1 y => ?_)⟩
  obtain ⟨kk, dd⟩ := kd
  intro v F' H' T' f s' st' o le di
  show D.nx (σ.set i (some v)) H'
  have y : PRs G W F H T (KS G F H T D) (if i < S1.length then .ok .nx (S1.set i (some (kk, dd))) else .bad) := y
  by_cases hl : i < S1.length
  · rw [if_pos hl] at y
    obtain ⟨T2, st2, l2⟩ := st'.set hl (pin_ok hp) o le di
    exact (show KS G F H T D .nx _ from y) _ F' H' T2 (s'.less l2) st2
  · rw [if_neg hl] at y
    exact y.elim
/-- isinstance(e, C), C a class of refusals -/
theorem tr_isP {p : Addr × Obj} {c t : Nat} {y cn : PySem.Str} {xs : List Nat} {p0 p1 p2 pos : Pos} (V : XFacts X.K G.ca xs) (hcx : xs.contains c = true) (ht : t ∈ ([13, 17, 11, 18, 16, 15, 14, 22, 12, 20, 21, 23, 19] : List Nat)) (hp : p ∈ X.pn) (hc : p.2.cls = .ref (G.ca c)) (hf : ∃ fv, p.2.data = .fields fv) (hd : DictAt X.s_0.heap p.2.dict) (hx : X.ex = [])
    (h0 : (0 : Nat) ∈ G.pk) (hv0 : G.pv 0 = some (.ref p.1)) (hm : X.mg "isinstance" = none) (hg : X.mg cn = some (.ref (G.ca t))) (gi : Gl X "isinstance" := by rfl) (gl : Gl X cn := by rfl) (dcn : (cn == ("__debug__" : PySem.Str)) = false := by decide)
    (hN : X.N[0]? = some y := by rfl) (hv : Vis X.env.scope y := by first | exact Or.inl rfl | exact Or.inr (Or.inl rfl) | exact Or.inr (Or.inr rfl)) (dy : (y == ("__debug__" : PySem.Str)) = false := by decide) (dcy : (y == ("__classdict__" : PySem.Str)) = false := by decide)
    (he : starEach [.Name y p1, .Name cn p2] X.env = (false, eval (.Name y p1) X.env) :: starEach [.Name cn p2] X.env := by rfl) (he2 : starEach [.Name cn p2] X.env = (false, eval (.Name cn p2) X.env) :: starEach [] X.env := by rfl) (hpl : (backTo pos (starEach [.Name cn p2] X.env)).any (·.1) = false := by rfl) :
    TrE X G W (.Call (.Name "isinstance" p0) [.Name y p1, .Name cn p2] [] pos) (eCon (.bl (xSub c t))) :=
  ⟨_, pe_callB (call_isP (V.ec c hcx) hp hc hf hd hx) gi hm (by decide +kernel) (pa_cons (pe_var hN hv dy dcy) (pa_cons (pe_glob (v := .ref (G.ca t)) gl hg rfl dcn) pa_nil he2) he) (by decide) (by decide) he hpl,
    fun F H σ S T Q st z => ⟨.ref p.1, by rw [st.pi 0 h0, hv0], .ref (G.ca t), .ref (G.ca t), xSub c t, rfl, fun u r => r, V.is_ c t hcx ht, KE.val z st (.bl _)⟩⟩
/-- isinstance(e, ValueError) -/
theorem tr_isVE {p : Addr × Obj} {c : Nat} {y : PySem.Str} {xs : List Nat} {p0 p1 p2 pos : Pos} (V : XFacts X.K G.ca xs) (hcx : xs.contains c = true) (hp : p ∈ X.pn) (hc : p.2.cls = .ref (G.ca c)) (hf : ∃ fv, p.2.data = .fields fv) (hd : DictAt X.s_0.heap p.2.dict) (hx : X.ex = [])
    (h0 : (0 : Nat) ∈ G.pk) (hv0 : G.pv 0 = some (.ref p.1)) (hm : X.mg "isinstance" = none) (hg : X.mg "ValueError" = none) (gi : Gl X "isinstance" := by rfl) (gl : Gl X "ValueError" := by rfl)
    (hN : X.N[0]? = some y := by rfl) (hv : Vis X.env.scope y := by first | exact Or.inl rfl | exact Or.inr (Or.inl rfl) | exact Or.inr (Or.inr rfl)) (dy : (y == ("__debug__" : PySem.Str)) = false := by decide) (dcy : (y == ("__classdict__" : PySem.Str)) = false := by decide)
    (he : starEach [.Name y p1, .Name "ValueError" p2] X.env = (false, eval (.Name y p1) X.env) :: starEach [.Name "ValueError" p2] X.env := by rfl) (he2 : starEach [.Name "ValueError" p2] X.env = (false, eval (.Name "ValueError" p2) X.env) :: starEach [] X.env := by rfl) (hpl : (backTo pos (starEach [.Name "ValueError" p2] X.env)).any (·.1) = false := by rfl) :
    TrE X G W (.Call (.Name "isinstance" p0) [.Name y p1, .Name "ValueError" p2] [] pos) (eCon (.bl true)) :=
  ⟨_, pe_callB (call_isP (V.ec c hcx) hp hc hf hd hx) gi hm (by decide +kernel) (pa_cons (pe_var hN hv dy dcy) (pa_cons (pe_bltn (v := .ty "ValueError") gl hg PyProof.Rows.Boot.«ValueError» rfl (by decide) (by decide)) pa_nil he2) he) (by decide) (by decide) he hpl,
    fun F H σ S T Q st z => ⟨.ref p.1, by rw [st.pi 0 h0, hv0], .ty "ValueError", .type "ValueError", true, rfl, fun u r => r, V.ve c hcx, KE.val z st (.bl _)⟩⟩
/-- [e for i in range(n) if c] there -/
theorem tr_lcH {p : Addr × Obj} {n : Int} {a : Nat} {elt tg : Expr} {ifs : List Expr} {scope : Scope} {own : List (PySem.Str × Nat)} {q1 q2 q3 pos : Pos} {t : Tg} {c : T} {e : E} (hot : Hot1 X.A p) (hp : p ∈ X.pn) (nd : X.N.Nodup) (hm : X.mg "range" = none) (ok : BlkOk X.N X.env.scope scope own)
    (hg : ∀ (s : Shared) (H : Hp) (C : Addr) (cl : List (PySem.Str × Addr)) (fp : List Addr), TrG (blkH X p s H scope (compEnvC scope cl C X.env) fp) G tg t)
    (ht : ∀ (s : Shared) (H : Hp) (C : Addr) (cl : List (PySem.Str × Addr)) (fp : List Addr), TrTs (blkH X p s H scope (compEnvC scope cl C X.env) fp) G W0 ifs c)
    (he : ∀ (s : Shared) (H : Hp) (C : Addr) (cl : List (PySem.Str × Addr)) (fp : List Addr), TrE (blkH X p s H scope (compEnvC scope cl C X.env) fp) G W0 elt e) (hn : n.natAbs < limN := by decide) (gr : Gl X "range" := by rfl) (hst : starEach [.Constant (.int n) a q1] X.env = [(false, eval (.Constant (.int n) a q1) X.env)] := by rfl)
    (hs : ∀ x, foldedSetIterable (.Call (.Name "range" q2) [.Constant (.int n) a q1] [] q3) X.env x = pure x := by intro _; rfl) (hpn : (own.map (·.2)).all (fun v => !G.pk.contains v) = true := by rfl) :
    TrE X G W (.ListComp elt [⟨tg, .Call (.Name "range" q2) [.Constant (.int n) a q1] [] q3, ifs, 0⟩] scope pos) (eLc (itRange1 (eCon (.int n))) t (own.map (·.2)) c e) := by
  refine ⟨_, pe_lcH hot hp nd (pi_range1H gr hm (pa_cons pe_int pa_nil hst) hst) ok (fun s H A cl fp => (hg s H A cl fp).can) (fun s H A cl fp => ht s H A cl fp) (fun s H A cl fp => (he s H A cl fp).can) hs, den_lc (pins_ok hpn) fun F H σ S T R st z => ?_⟩
  have z : PR G W F H σ T (KI G F H σ T R) ((if n.natAbs < limN then M.pure (rangeL 0 n.toNat) else fun _ => .bad) S) := z
  rw [if_pos hn] at z
  have z : KI G F H σ T R (rangeL 0 n.toNat) S := z
  have l : limN = 4611686018427387904 := rfl
  exact ⟨n, rfl, by omega, by omega, z _ F H T (Step.refl F H T) st walkD_rng⟩
end
/-- a text by its signs -/
def strOf (s : List Nat) : PySem.Str := ⟨s.toArray⟩
theorem strOf_codes (s : List Nat) : (strOf s).cps.toList = s := by simp [strOf]
theorem strOf_eq {z : PySem.Str} {s : List Nat} (h : z.cps.toList = s) : z = strOf s := by
  cases z with
  | mk a => subst h; simp [strOf]
/-- what _law_kind_of promises where an exception of the class c is handled -/
structure KindFn (P : Program) (w : World) (K : PySem.W.Frag) (mg : PySem.Str → Option Value) (base : Heap) (ca : Nat → Addr) (xs : List Nat) (j : Nat) (f : Addr) (fd : FuncData) : Prop where
  run : ∀ (A : Around) (outer : List Env) (s : Shared) (H : Hp) (args : PySem.Args) (us : List Value) (Q : VK) (E : XK) (p : Addr × Obj) (c : Nat), RoomH j A → Hot1 A p → PinOk outer H s p → xs.contains c = true → p.2.cls = .ref (ca c) → DictAt s.heap p.2.dict →
    Env0 P w K mg base A outer s H → BindsTo s fd args ((["_law_e"] : List PySem.Str).zip us) → us = [.ref p.1] → (∀ H', Same H H' → Q (.str (strOf (kindT c))) H') → codeAny (model P w) A (.call (.ref f) args) (CR (L2N.CX P w) outer P w H s Q E) s
theorem kind_fn {P : Program} {w : World} {G : Cfg} {mg : PySem.Str → Option Value} {base : Heap} {x qual : PySem.Str} {params : Arguments} {body : List Stmt} {scope : Scope} {dvs : List V} {kws : List (PySem.Str × V)} {f : Addr} {fd : FuncData} {N : List PySem.Str} {xs : List Nat}
    (FD : FunD G.K x qual params body scope dvs kws f fd) (S : FnScope N ["_law_e"] scope) (hN : N.length = 4) (hxs : xs.all xAll.contains = true)
    (hb : ∀ (cdv : Value) (A : Around) (outer : List Env) (s : Shared) (H : Hp) (E : XK) (p : Addr × Obj) (c : Nat), Hot1 A p → xs.contains c = true → p.2.cls = .ref (G.ca c) → DictAt s.heap p.2.dict →
      TrSs (cxH (L2N.CX P w) P w G.K mg base N qual scope f cdv A outer s H E p) { G with pk := [0], pv := fun _ => some (.ref p.1) } W0 body (mKind c)) :
    KindFn P w G.K mg base G.ca xs 1 f fd := by
  refine ⟨fun A outer s H args us Q E p c room hot pin hcx hcl hdd e0 bd hus q => ?_⟩
  subst hus
  refine hot_fn (vs := [.ref p.1]) (k := 0) FD S room pin e0 bd (.cons rfl .nil) rfl fun cdv => ?_
  obtain ⟨t, pt, den⟩ := hb cdv A outer s H E p c hot hcx hcl hdd
  refine ⟨t, pt, ?_⟩
  have st : St' { G with pk := [0], pv := fun _ => some (.ref p.1) } H H (L2.start N [.ref p.1]) [none, none, none, none] nil0 := by
    refine ⟨fun i hi => ?_, Same.refl H, ?_, fun _ => Nat.zero_le _, fun _ _ => rfl⟩
    · have e : i = 0 := by simpa using hi
      subst e
      rfl
    · have e : L2.start N [V.ref p.1] = [some (.ref p.1), none, none, none] := by
        unfold L2.start
        rw [hN]
        rfl
      rw [e]
      exact .cons (f := nil0) (g := nil0) (.no _) (.cons (f := nil0) (g := nil0) (.no _) (.cons (f := nil0) (g := nil0) (.no _) (.cons (f := nil0) (g := nil0) (.no _) .nil)))
  obtain ⟨S1, hk⟩ := kind_run (c := c) (List.all_eq_true.mp hxs c (by simpa using hcx))
  refine den H H _ _ nil0 _ st ?_
  rw [hk]
  intro v σ' F' H' T' g s' st' o le di
  have o : Own _ F' H' .fz v (.str (kindT c)) g := o
  cases o with
  | fz r =>
    generalize es : kindT c = sx at r
    cases r with
    | str z => rw [strOf_eq es.symm]; exact q H' fun a o e => s'.fr a o rfl e
end TB

namespace TB
open PySem PySem.Spec PyProof.Rows L2 L2H
/-! ### expressions of an except suite: they give a value, what stood stays -/
def QuE (X : Cx) (P : L2.St → Hp → Prop) (e : Expr) (v : V) : Prop := ∃ t, PE X e t ∧ ∀ σ H Q, P σ H → (∀ H', Same H H' → Q v H') → t σ H Q
/-- the exception x, of the class cls, at a, in the slot i -/
def SeesX (G : Cfg) (i : Nat) (a : Addr) (x : Xc) (cls : Value) (d : Option Addr) (σ : L2.St) (H : Hp) : Prop := σ[i]? = some (some (.ref a)) ∧ ExcR G x cls d H
theorem SeesX.same {G : Cfg} {i : Nat} {a : Addr} {x : Xc} {cls : Value} {d : Option Addr} {σ : L2.St} {H H' : Hp} (h : SeesX G i a x cls d σ H) (e : Same H H') : SeesX G i a x cls d σ H' := by
  refine ⟨h.1, h.2.1, h.2.2.imp id fun ⟨dd, j, h1, h2, h3⟩ => ⟨dd, j, h1, h2, e _ _ h3⟩⟩
section
variable {X : Cx} {G : Cfg} {i : Nat} {a : Addr} {x : Xc} {cls : Value} {d : Option Addr}
theorem qx_str {P : L2.St → Hp → Prop} {z : PySem.Str} {j} {pos : Pos} : QuE X P (.Constant (.str z) j pos) (.str z) := ⟨_, pe_str, fun σ H Q _ q => q H (Same.refl H)⟩
theorem qx_int {P : L2.St → Hp → Prop} {n : Int} {j} {pos : Pos} : QuE X P (.Constant (.int n) j pos) (.int n) := ⟨_, pe_int, fun σ H Q _ q => q H (Same.refl H)⟩
theorem qx_add {e f : Expr} {z w : PySem.Str} {pos : Pos} (h : QuE X (SeesX G i a x cls d) e (.str z)) (g : QuE X (SeesX G i a x cls d) f (.str w)) (hl : z.length + w.length ≤ sizeLine) : QuE X (SeesX G i a x cls d) (.BinOp e .Add f pos) (.str (z ++ w)) := by
  obtain ⟨t, p, dt⟩ := h
  obtain ⟨u, q, du⟩ := g
  refine ⟨_, pe_op op_add_str p q, fun σ H Q s k => dt σ H _ s fun H1 e1 => du σ H1 _ (s.same e1) fun H2 e2 => ⟨z, w, rfl, rfl, hl, k H2 (e1.trans e2)⟩⟩
/-- e.f -/
theorem qx_fld {oe : Obj} {pn : List (Addr × Obj)} {n f : PySem.Str} {j : Int} {np pos : Pos} (T : XfC X.K (G.ca x.c)) (hno : PySem.W.findIn X.K (.ref (G.ca x.c)) f = some none) (hz : L2N.Zn cls d oe) (hf : ∃ fv, oe.data = .fields fv) (hx : x.arg = .int j) (hn : G.cn x.c = [f])
    (hN : X.N[i]? = some n) (hv : Vis X.env.scope n := by first | exact Or.inl rfl | exact Or.inr (Or.inl rfl) | exact Or.inr (Or.inr rfl)) (dn : (n == ("__debug__" : PySem.Str)) = false := by decide) (dcn : (n == ("__classdict__" : PySem.Str)) = false := by decide)
    (hb : attributeBase (.Name n np) f X.env (eval (.Name n np) X.env) = eval (.Name n np) X.env := by rfl) : QuE (X.suite a ((a, oe) :: pn)) (SeesX G i a x cls d) (.Attribute (.Name n np) f pos) (.int j) := by
  refine ⟨_, pe_xf T hno hz.zc hf (pe_var (X := X.suite a ((a, oe) :: pn)) hN hv dn dcn) hb, fun σ H Q s k => ⟨.ref a, s.1, rfl, s.2.1, ?_⟩⟩
  rcases s.2.2 with ⟨e, _⟩ | ⟨dd, j2, e1, e2, e3⟩
  · rw [hx] at e
    cases e
  · rw [hx] at e1
    cases e1
    refine ⟨dd, _, .int j, e2, e3, ?_, k H (Same.refl H)⟩
    rw [hn]
    simp [List.lookup]
/-- _law_kind_of(e) -/
theorem q_kind {oe : Obj} {pn : List (Addr × Obj)} {xs : List Nat} {n : PySem.Str} {f : Addr} {fd : FuncData} {k : Nat} {np p pos : Pos} (V : KindFn X.prog X.w X.K X.mg X.base G.ca xs 1 f fd) (room : Room k X.A) (hk1 : 1 ≤ k) (hz : L2N.Zn cls d oe) (hf : ∃ fv, oe.data = .fields fv) (hcx : xs.contains x.c = true)
    (hm : X.mg "_law_kind_of" = some (.ref f)) (hk : PySem.W.keepIn X.K (.ref f) = true) (hb : Binds X.K fd ["_law_e"] []) (hN : X.N[i]? = some n) (hg : Gl X "_law_kind_of" := by rfl)
    (hv : Vis X.env.scope n := by first | exact Or.inl rfl | exact Or.inr (Or.inl rfl) | exact Or.inr (Or.inr rfl)) (dn : (n == ("__debug__" : PySem.Str)) = false := by decide) (dcn : (n == ("__classdict__" : PySem.Str)) = false := by decide)
    (he : starEach [.Name n np] X.env = (false, eval (.Name n np) X.env) :: starEach [] X.env := by rfl) (hpl : (backTo pos (starEach [] X.env)).any (·.1) = false := by rfl) :
    QuE (X.suite a ((a, oe) :: pn)) (SeesX G i a x cls d) (.Call (.Name "_law_kind_of" p) [.Name n np] [] pos) (.str (strOf (kindT x.c))) := by
  refine ⟨fun σ H Q => SeesX G i a x cls d σ H ∧ ∀ H', Same H H' → Q (.str (strOf (kindT x.c))) H', ⟨fun pins s σ H Q I hq => ?_⟩, fun σ H Q s q => ⟨s, q⟩⟩
  obtain ⟨sx, q⟩ := hq
  refine wpAny_Call_Name_kw (ld_glob I hg hm ?_ (by decide))
  have pa : PA (X.suite a ((a, oe) :: pn)) [.Name n np] (tCons (tVar i) tNil) := pa_cons (pe_var (X := X.suite a ((a, oe) :: pn)) hN hv dn dcn) pa_nil he
  refine PySem.W.callWith_K (h₀ := X.base) I.ok.mod.kin hk (thn (pa.run pos pins s σ H (fun vs H1 => vs = [.ref a] ∧ H1 = H) I ⟨.ref a, sx.1, rfl, rfl⟩) fun us s1 ⟨vs, H1, I1, r, ev, eH⟩ => ⟨I1.kIn, ?_⟩) he hpl
  subst ev
  subst eH
  cases r with
  | cons r0 rr =>
    cases rr
    cases r0
    have P1 := I1.pin (a, oe) (List.mem_append_left _ List.mem_cons_self)
    have hot : Hot1 (X.suite a ((a, oe) :: pn)).A (a, oe) := ⟨rfl, by obtain ⟨fv, e⟩ := hf; exact ⟨fv, e, hz.2.2 fv e⟩⟩
    have pin : PinOk (X.suite a ((a, oe) :: pn)).stack H1 s1 (a, oe) := ⟨P1.1, P1.2.1, fun hm => (List.mem_cons.mp (I1.stkSub a hm)).elim P1.2.2.1 P1.2.2.2.1, P1.2.2.2.2⟩
    have dict : DictAt s1.heap oe.dict := by
      rw [hz.2.1]
      rcases sx.2.2 with ⟨_, e⟩ | ⟨dd, j, _, e, hd⟩
      · rw [e]; trivial
      · rw [e]
        obtain ⟨mA, ⟨o, es, ep, ho, _⟩, _⟩ := I1.hok dd _ hd
        exact ⟨o, ho⟩
    have b := hb s1 [.ref a] I1.kIn rfl
    refine wpAny_call (codeAny_mono (V.run (X.suite a ((a, oe) :: pn)).A (X.suite a ((a, oe) :: pn)).stack s1 H1 ⟨[.ref a], []⟩ [.ref a] Q (fun _ _ _ => False) (a, oe) x.c (roomH_mark (room.mono hk1) _) hot pin hcx (hz.1.trans sx.2.1) dict I1.env0 b rfl q) fun r z hq => ?_)
    cases r with
    | error e =>
      obtain ⟨_, _, _, _, _, _, _, _, _, _, _, _, y⟩ := hq
      exact y.elim
    | ok fl =>
      cases fl with
      | ret u => exact I1.after hq
      | next => exact False.elim hq
      | brk => exact False.elim hq
      | cont => exact False.elim hq
end

/-! ### a suite that writes one name -/
def tRs (G : Cfg) (i j : Nat) (a : Addr) (x : Xc) (cls : Value) (d : Option Addr) (r : Rs) : TS := fun D σ H => SeesX G i a x cls d σ H ∧ ∀ H', Same H H' → match r with
  | .one e => ∀ v, (∀ F, Rep G F v e) → D.nx (σ.set j (some v)) H'
  | .tup es => ∀ vs, (∀ F, Reps G F vs es) → ∀ p, H' p = none → D.nx (σ.set j (some (.ref p))) (upd H' p (.tup vs))
section
variable {X : Cx} {G : Cfg} {i j : Nat} {a : Addr} {x : Xc} {cls : Value} {d : Option Addr}
theorem rs_one {y : PySem.Str} {e : Expr} {v : V} {de : D} {p pos : Pos} (nd : X.N.Nodup) (h : QuE X (SeesX G i a x cls d) e v) (hr : ∀ F, Rep G F v de) (hj : X.N[j]? = some y) (hx : Loc X.env.scope y := by first | exact Or.inl rfl | exact Or.inr rfl) (hs : swapsWith e (some (.Name y p)) pos.line X.env = pure false := by rfl)
    (hf : X.fn y = true ∨ X.env.scope.names.lookup y = some .local := by first | exact .inl rfl | exact .inr rfl) : PSs X [.Assign [.Name y p] e pos] (tRs G i j a x cls d (.one de)) := by
  obtain ⟨t, q, dt⟩ := h
  have b := pss_one (ps_set nd hj hx q hs hf)
  exact ⟨fun pins s σ H D I ⟨sx, k⟩ => b.run pins s σ H D I (dt σ H _ sx fun H' e => k H' e v hr)⟩
theorem rs_two {y : PySem.Str} {e f : Expr} {v u : V} {de df : D} {c} {p tp pos : Pos} (nd : X.N.Nodup) (h : QuE X (SeesX G i a x cls d) e v) (g : QuE X (SeesX G i a x cls d) f u) (hr : ∀ F, Rep G F v de) (gr : ∀ F, Rep G F u df) (hj : X.N[j]? = some y) (hx : Loc X.env.scope y := by first | exact Or.inl rfl | exact Or.inr rfl)
    (hs : swapsWith (.Tuple [e, f] c tp) (some (.Name y p)) pos.line X.env = pure false := by rfl) (hf : X.fn y = true ∨ X.env.scope.names.lookup y = some .local := by first | exact .inl rfl | exact .inr rfl)
    (s1 : starEach [e, f] X.env = (false, eval e X.env) :: starEach [f] X.env := by rfl) (s2 : starEach [f] X.env = (false, eval f X.env) :: starEach [] X.env := by rfl) : PSs X [.Assign [.Name y p] (.Tuple [e, f] c tp) pos] (tRs G i j a x cls d (.tup [de, df])) := by
  obtain ⟨t, q, dt⟩ := h
  obtain ⟨t2, q2, dt2⟩ := g
  have b := pss_one (ps_set nd hj hx (pe_tup (pa_cons q (pa_cons q2 pa_nil s2) s1)) hs hf)
  exact ⟨fun pins s σ H D I ⟨sx, k⟩ => b.run pins s σ H D I (dt σ H _ sx fun H1 e1 => dt2 σ H1 _ (sx.same e1) fun H2 e2 => ⟨by show 2 ≤ sizeLine; decide, fun w hw => k H2 (e1.trans e2) [v, u] (fun F => .cons (hr F) (.cons (gr F) .nil)) w hw⟩)⟩
end

/-! ### the try statement -/
inductive ClsT (X : Cx) (G : Cfgx) (xs : List Nat) : List ExceptHandler → List Cl → Prop
  | nil : ClsT X G xs [] []
  | cons {q : Cl} {cn n : PySem.Str} {b₁ : Stmt} {ss : List Stmt} {np ep : Pos} {hds : List ExceptHandler} {qs : List Cl} (hi : X.N[q.i]? = some n) (hl : X.env.kindOf n = some .local) (hc : Names X cn (.ref (G.ca q.t))) (ht : q.t ∈ ([10, 22, 23] : List Nat)) (pi_ : G.pk.contains q.i = false) (pj : G.pk.contains q.j = false)
      (hu : ∀ (a : Addr) (oe : Obj) (cls : Value) (d : Option Addr) (pn : List (Addr × Obj)) (x : Xc), L2N.Zn cls d oe → (∃ fv, oe.data = .fields fv) → xs.contains x.c = true → xSub x.c q.t = true → (q.r x).ok = true → PSs (X.suite a ((a, oe) :: pn)) (b₁ :: ss) (tRs G q.i q.j a x cls d (q.r x))) (rest : ClsT X G xs hds qs) :
      ClsT X G xs (.ExceptHandler (some (.Name cn np)) (some n) (b₁ :: ss) ep :: hds) (q :: qs)
/-- the reading of a clause, whatever the exception is -/
def tCl (G : Cfg) (xs : List Nat) (q : Cl) : Addr → Value → Option Addr → TS := fun a cls d D σ H => ∃ x : Xc, xs.contains x.c = true ∧ xSub x.c q.t = true ∧ (q.r x).ok = true ∧ tRs G q.i q.j a x cls d (q.r x) D σ H
def clK (G : Cfg) (xs : List Nat) (q : Cl) : ClK := ⟨.ref (G.ca q.t), q.i, tCl G xs q⟩
theorem ClsT.ok {X : Cx} {G : Cfgx} {xs : List Nat} {hds : List ExceptHandler} {qs : List Cl} (h : ClsT X G xs hds qs) : ClOk X hds (qs.map (clK G xs)) := by
  induction h with
  | nil => exact .nil
  | cons hi hl hc ht pi_ pj hu rest ih => exact .cons hi hl hc (fun a oe cls d pn hz hf => ⟨fun pins s σ H D I ⟨x, h1, h2, h3, h4⟩ => (hu a oe cls d pn x hz hf h1 h2 h3).run pins s σ H D I h4⟩) ih
theorem flat_any {G : Cfg} {F : Hp} {v : V} {d : D} (h : d.flat = true) (r : Rep G F v d) : True := trivial
theorem St'.same {G : Cfgx} {F H H' : Hp} {σ : L2.St} {S : List Slot} {T : Cnt} (st : St' G F H σ S T) (e : Same H H') : St' G F H' σ S T ∧ Step F H T F H' T :=
  ⟨⟨st.pi, st.sub.trans e, st.sl.mono (Same.refl F) fun a u _ h => e _ _ h, st.le, st.di⟩, ⟨Same.refl F, fun a u _ h => e _ _ h, fun _ n => .inl n, fun a h n => absurd h n, fun a h n => by
    cases q : H a with
    | none => exact h q
    | some o => rw [e _ _ q] at n; cases n⟩⟩
theorem tr_try {X : Cx} {G : Cfgx} {W : WX} {k : Nat} {xs : List Nat} {body : List Stmt} {h₁ : ExceptHandler} {hds : List ExceptHandler} {qs : List Cl} {mb : St} {pos : Pos} (C : Cok X G W k) (XF : XFacts X.K G.ca xs) (hb : ∀ (W' : WX) (pn : List (Addr × Obj)) (xe : Value → Shared → Prop), Cok (X.tr pn xe) G W' k → TrSs (X.tr pn xe) G W' body mb)
    (hq : ClsT X G xs (h₁ :: hds) qs) (st : X.stack = X.env :: X.outer := by rfl) (fr : X.env.frame = some X.env.locals := by rfl) : TrS X G W (.Try body (h₁ :: hds) [] [] pos) (sTry xs mb qs) := by
  refine ⟨_, ps_try_cl (tb := fun W' => tM G W' mb) st fr C.nd C.tk (fun W' pn xe tk po => (hb W' pn xe ⟨C.hK, tk, po, C.calm, C.room, C.nd⟩).can) hq.ok, fun F H σ S T D s0 z => ⟨F, S, T, s0, ?_⟩⟩
  unfold sTry at z
  cases e : mb S with
  | bad => rw [e] at z; exact z
  | ok f S1 => rw [e] at z; exact z
  | exc x S1 =>
    rw [e] at z
    intro σ1 cls dx F1 H1 T1 s1 st1 ex
    change PRs G W F H T (KS G F H T D) (if xs.contains x.c = true then hdl x qs S1 else .bad) at z
    by_cases hx : xs.contains x.c = true
    case neg => rw [if_neg hx] at z; exact z.elim
    rw [if_pos hx] at z
    clear e
    generalize h₁ :: hds = hs at hq
    induction hq with
    | nil => exact z σ1 cls dx F1 H1 T1 s1 st1 ex
    | @cons q cn n b₁ ss np ep hds qs hi hl hc ht pi_ pj hu rest ih =>
      refine ⟨xSub x.c q.t, by rw [ex.1]; exact XF.ct x.c q.t hx ht, fun hs a na => ?_, fun hs => ih ?_⟩
      · unfold hdl at z
        rw [if_pos hs] at z
        by_cases ok : (q.r x).ok = true ∧ q.i < S1.length ∧ q.j < S1.length
        case neg => rw [if_neg ok] at z; exact z.elim
        rw [if_pos ok] at z
        obtain ⟨ok, li, lj⟩ := ok
        have z : KS G F H T D .nx (((S1.set q.i none).set q.j (some (.fz, (q.r x).d))).set q.i none) := z
        obtain ⟨T2, st2, l2⟩ := st1.drop (i := q.i) (pin_ok pi_) (some (.ref a))
        refine ⟨x, hx, hs, ok, ⟨by have := st1.sl.len; show (σ1.set q.i (some (V.ref a)))[q.i]? = _; rw [List.getElem?_set_self (by omega)], ex⟩, fun H3 e3 => ?_⟩
        have fin : ∀ {F4 H4 : Hp} {v : V} {T4 : Cnt}, Step F H T F4 H4 T4 → St' G F4 H4 (σ1.set q.i (some (.ref a))) (S1.set q.i none) T4 → Rep G F4 v (q.r x).d → D.nx (((σ1.set q.i (some (.ref a))).set q.j (some v)).set q.i none) H4 := fun {F4 H4 v T4} s4 st4 r4 => by
          obtain ⟨T5, st5, l5⟩ := st4.set (i := q.j) (f := nil0) (by rw [List.length_set]; exact lj) (pin_ok pj) (.fz r4) (fun b => st4.le b) fun _ _ => rfl
          obtain ⟨T6, st6, l6⟩ := st5.drop (i := q.i) (pin_ok pi_) none
          exact z _ F4 H4 T6 (s4.less fun b => by have := l5 b; have := l6 b; simp only [nil0] at *; omega) st6
        obtain ⟨st3, s3⟩ := st2.same e3
        have s03 : Step F H T F1 H3 T2 := (s1.less l2).trans s3
        generalize hr : q.r x = r at ok fin
        cases r with
        | one de => exact fun v rv => fin s03 st3 (rv F1)
        | tup es =>
          intro vs rvs w hw
          obtain ⟨st4, s4⟩ := st3.newF (o := .tup vs) hw
          exact fin (s03.trans s4) st4 (.tup (.inl (.inl upd_same)) (rvs _))
      · unfold hdl at z
        rw [if_neg (by rw [hs]; decide)] at z
        exact z
end TB

namespace TB
open PySem PySem.Spec PyProof.Rows L2
/-! ### a function as a value, called -/
/-- a function, ready to be called with n arguments -/
def Ready (X : Cx) (G : Cfg) (lv n : Nat) (f : Addr) (fn : Fn) : Prop := ∃ (fd : FuncData) (ps : List PySem.Str), FnOk X.prog X.w X.K X.mg X.base (L2N.CX X.prog X.w) lv f fd ps (spF G ps.length fn) ∧ PySem.W.keepIn X.K (.ref f) = true ∧ Binds X.K fd ps [] ∧ ps.length = n
def tSel (ks : List Nat) (fa : Nat → Addr) (sp : Nat → Sp) (W : WX) (tf : TE) (t : TA) : TE := fun σ H Q => tf σ H fun x H1 => ∃ k, ks.contains k = true ∧ x = .ref (fa k) ∧ t σ H1 fun vs H2 => sp k vs H2 Q (WE W σ)
section
variable {X : Cx} {G : Cfgx} {W : WX} {k : Nat}
theorem pe_sel {ks : List Nat} {n : Nat} {Γ : Nat → Fn} {f e : Expr} {es : List Expr} {tf : TE} {t : TA} {pos : Pos} (C : Cok X G W k) (R : ∀ j, ks.contains j = true → Ready X G k n (G.fa j) (Γ j)) (hf : PE X f tf) (ha : PA X (e :: es) t)
    (ht : eval (.Call f (e :: es) [] pos) X.env = (do callWith pos (← eval f X.env) [] (backTo pos (starEach (e :: es) X.env)) (backToKw pos (keywordEach [] X.env))) := by rfl)
    (he : starEach (e :: es) X.env = (false, eval e X.env) :: starEach es X.env := by rfl) (hpl : (backTo pos (starEach es X.env)).any (·.1) = false := by rfl) :
    PE X (.Call f (e :: es) [] pos) (tSel ks G.fa (fun j => spF G n (Γ j)) W tf t) := by
  refine ⟨fun pins s σ H Q I h => ?_⟩
  refine Call_ (thn (hf.run pins s σ H _ I h) fun u s1 ⟨x, H1, I1, rx, j, hj, ex, q⟩ => ?_) ht
  subst ex
  obtain rfl : u = Value.ref (G.fa j) := rx
  obtain ⟨fd, ps, F, kp, b, rfl⟩ := R j hj
  refine PySem.W.callWith_K (h₀ := X.base) I1.ok.mod.kin kp (thn (ha.run pos pins s1 σ H1 _ I1 q) fun us s2 ⟨vs, H2, I2, r, q2⟩ => ⟨I2.kIn, ?_⟩) he hpl
  exact run_fnS F C.room b (L2N.passAt C.tk σ) I2 r q2
theorem tr_callFn {ks : List Nat} {n : Nat} {Γ : Nat → Fn} {f e : Expr} {es : List Expr} {mf : E} {ms : List Ar} {pos : Pos} (C : Cok X G W k) (R : ∀ j, ks.contains j = true → Ready X G k n (G.fa j) (Γ j)) (hf : TrE X G W f mf) (ha : TrAr X G W (e :: es) ms) (hn : ms.length = n := by rfl)
    (ht : eval (.Call f (e :: es) [] pos) X.env = (do callWith pos (← eval f X.env) [] (backTo pos (starEach (e :: es) X.env)) (backToKw pos (keywordEach [] X.env))) := by rfl)
    (he : starEach (e :: es) X.env = (false, eval e X.env) :: starEach es X.env := by rfl) (hpl : (backTo pos (starEach es X.env)).any (·.1) = false := by rfl) : TrE X G W (.Call f (e :: es) [] pos) (eCallFn ks Γ mf ms) := by
  obtain ⟨tf, pf, df⟩ := hf
  obtain ⟨t, pa, da⟩ := ha
  refine ⟨_, pe_sel C R pf pa ht he hpl, fun F H σ S T Q st z => df.dat F H σ S T _ st (PR.bind z fun d S1 y => ?_)⟩
  intro v F1 H1 T1 s1 st1 r1
  cases r1 with
  | fn j =>
    have y : PR G W F H σ T (KE G F H σ T Q) ((if ks.contains j = true then eCall (Γ j) ms else eBad) S1) := y
    by_cases hj : ks.contains j = true
    · rw [if_pos hj] at y
      exact ⟨j, hj, rfl, den_call hn da F1 H1 σ S1 T1 Q st1 (PR.reE s1 y)⟩
    · rw [if_neg hj] at y; exact y.elim
  | _ => exact y.elim
/-- its name -/
theorem tr_fnv (j : Nat) {x : PySem.Str} {a : Addr} {pos : Pos} (hm : X.mg x = some (.ref a)) (ha : G.fa j = a := by rfl) (hg : Gl X x := by rfl) (hd : (x == ("__debug__" : PySem.Str)) = false := by decide) : TrE X G W (.Name x pos) (eCon (.fn j)) :=
  tr_glob (v := .ref a) hm rfl (fun F => ha ▸ .fn j) hg hd
end
theorem ready_nil {P : Nat → Prop} : ∀ j, ([] : List Nat).contains j = true → P j := fun j h => by simp at h
theorem ready_cons {P : Nat → Prop} {k : Nat} {ks : List Nat} (h : P k) (r : ∀ j, ks.contains j = true → P j) : ∀ j, (k :: ks).contains j = true → P j := fun j hj => by
  by_cases e : j = k
  · subst e; exact h
  · refine r j ?_
    have q : j = k ∨ j ∈ ks := by simpa using hj
    simpa using q.resolve_left e
theorem rep_strOf {G : Cfg} {F : Hp} (s : List Nat) : Rep G F (.str (strOf s)) (.str s) := by
  have h := Rep.str (G := G) (F := F) (strOf s)
  rwa [strOf_codes] at h
theorem tr_addK {X : Cx} {G : Cfgx} {W : WX} {a b : Expr} {ma mb : E} {pos : Pos} (hK : X.K = G.K) (ha : TrE X G W a ma) (hb : TrE X G W b mb) : TrE X G W (.BinOp a .Add b pos) (eOp fAdd ma mb) := by
  obtain ⟨r, ho, hs⟩ := cls_add (X := X) (G := G) hK
  exact tr_op ho hs ha hb
theorem tr_ixK {X : Cx} {G : Cfgx} {W : WX} {a b : Expr} {ma mb : E} {pos : Pos} (hK : X.K = G.K) (ha : TrE X G W a ma) (hb : TrE X G W b mb) (hp : PlainIx b := by exact fun _ _ => rfl) : TrE X G W (.Subscript a b pos) (eOp fIx ma mb) := by
  obtain ⟨r, ho, hs⟩ := cls_ix (X := X) (G := G) hK
  exact tr_ix ho hs ha hb hp
theorem tr_badSs {X : Cx} {G : Cfgx} {W : WX} {ss : List Stmt} : TrSs X G W ss sBad := ⟨fun _ _ _ => False, ⟨fun _ _ _ _ _ _ h => h.elim⟩, fun _ _ _ _ _ _ _ z => z.elim⟩
end TB

namespace TB
open PySem PySem.Spec PyProof.Rows L2
/-! ### a comprehension over the keys of an own dict: it is locked meanwhile -/
section
variable {G : Cfg} {F : Hp} {a : Addr} {o : Obj} {kvs : List (Key × V)}
theorem lock_ne {b : Addr} {u : HO} (hF : F a = some (.dK kvs)) (h : F b = some u) (n : ∀ ks, u ≠ .dK ks) : upd F a (.frz o (.dK kvs)) b = some u := by
  rw [upd_ne (fun e => by rw [e, hF] at h; cases h; exact n _ rfl)]
  exact h
theorem lock_rd {b : Addr} {u : HO} (hF : F a = some (.dK kvs)) (h : Rd F b u) : Rd (upd F a (.frz o (.dK kvs))) b u := by
  by_cases e : b = a
  · subst e
    rcases h with h | ⟨o2, h⟩
    · rw [hF] at h
      cases h
      exact .inr ⟨o, upd_same⟩
    · rw [hF] at h
      cases h
  · rcases h with h | ⟨o2, h⟩
    · exact .inl (by rw [upd_ne e]; exact h)
    · exact .inr ⟨o2, by rw [upd_ne e]; exact h⟩
theorem lock_t {K : PySem.W.Frag} {b : Addr} {xs : List V} (hF : F a = some (.dK kvs)) (h : SqT K F b xs) : SqT K (upd F a (.frz o (.dK kvs))) b xs := h.elim (fun h => .inl (lock_rd hF h)) .inr
theorem lock_l {K : PySem.W.Frag} {b : Addr} {xs : List V} (hF : F a = some (.dK kvs)) (h : SqL K F b xs) : SqL K (upd F a (.frz o (.dK kvs))) b xs := h.elim (fun h => .inl (lock_rd hF h)) .inr
mutual
theorem Rep.lock (hF : F a = some (.dK kvs)) : ∀ {v : V} {d : D}, Rep G F v d → Rep G (upd F a (.frz o (.dK kvs))) v d
  | _, _, .non => .non
  | _, _, .bl b => .bl b
  | _, _, .int i => .int i
  | _, _, .str z => .str z
  | _, _, .tup h r => .tup (lock_t hF h) (Reps.lock hF r)
  | _, _, .scr h => .scr (lock_l hF h)
  | _, _, .lst h r => .lst (lock_ne hF h (fun _ e => nomatch e)) (Reps.lock hF r)
  | _, _, .dK h k r => .dK (lock_rd hF h) k (Reps.lock hF r)
  | _, _, .dN h k q r => .dN (lock_rd hF h) k (Reps.lock hF q) (Reps.lock hF r)
  | _, _, .ldc h k r => .ldc (lock_ne hF h (fun _ e => nomatch e)) k (Reps.lock hF r)
  | _, _, .ob h k r => .ob (lock_ne hF h (fun _ e => nomatch e)) k (Reps.lock hF r)
  | _, _, .fn k => .fn k
theorem Reps.lock (hF : F a = some (.dK kvs)) : ∀ {vs : List V} {ds : List D}, Reps G F vs ds → Reps G (upd F a (.frz o (.dK kvs))) vs ds
  | _, _, .nil => .nil
  | _, _, .cons h r => .cons (Rep.lock hF h) (Reps.lock hF r)
end
end
section
variable {X : Cx} {G : Cfgx} {W : WX} {k : Nat} {F H : Hp} {σ : L2.St} {S : List Slot} {T : Cnt}
theorem slots_lock {H : Hp} {a : Addr} {o : Obj} {kvs : List (Key × V)} (hF : H a = some (.dK kvs)) {σ : L2.St} {S : List Slot} (h : Slots G H H σ S nil0) (hz : ∀ s ∈ S, ∀ kd, s = some kd → kd.1 = .fz) : Slots G (upd H a (.frz o (.dK kvs))) (upd H a (.frz o (.dK kvs))) σ S nil0 := by
  have main : ∀ {σ : L2.St} {S : List Slot} {T : Cnt}, Slots G H H σ S T → (∀ s ∈ S, ∀ kd, s = some kd → kd.1 = .fz) → Slots G (upd H a (.frz o (.dK kvs))) (upd H a (.frz o (.dK kvs))) σ S nil0 := by
    intro σ S T h hz
    induction h with
    | nil => exact .nil
    | @cons v s f g σ S h r ih =>
      have : Slots G (upd H a (.frz o (.dK kvs))) (upd H a (.frz o (.dK kvs))) (v :: σ) (s :: S) (add nil0 nil0) := by
        refine .cons ?_ (ih fun s hs => hz s (List.mem_cons_of_mem _ hs))
        cases h with
        | no v => exact .no v
        | @yes kk v d f ow =>
          have e := hz (some (kk, d)) List.mem_cons_self _ rfl
          have e : kk = .fz := e
          subst e
          cases ow with
          | fz rr => exact .yes (.fz (rr.lock hF))
      exact this
  exact main h hz
/-- the walk over the keys of a locked dict -/
theorem ti_ldc (i : Nat) {x : PySem.Str} {tg : Expr} {pos : Pos} (hN : X.N[i]? = some x := by rfl) (hv : Vis X.env.scope x := by first | exact Or.inl rfl | exact Or.inr (Or.inl rfl) | exact Or.inr (Or.inr rfl)) (hd : (x == ("__debug__" : PySem.Str)) = false := by decide) (hcd : (x == ("__classdict__" : PySem.Str)) = false := by decide) : TrI X G W tg (.Name x pos) (itLdc i) := by
  refine ⟨_, pi_keys (pe_var hN hv hd hcd), fun F H σ S T R st z => ?_⟩
  unfold itLdc at z
  cases e : S[i]? with
  | none => rw [e] at z; exact z.elim
  | some s =>
    rw [e] at z
    cases s with
    | none => exact z.elim
    | some kd =>
      obtain ⟨kk, d⟩ := kd
      cases kk with
      | fz =>
        cases d with
        | ldc kds =>
          have z : KI G F H σ T R (kds.map (·.1)) S := z
          obtain ⟨v, f, hs, ow, _⟩ := st.sl.var e
          cases ow with
          | fz r =>
            cases r with
            | @ldc a o kvs _ h hk hr =>
              refine ⟨.ref a, hs, a, o, rfl, .inl ⟨kvs, st.sub _ _ h, z _ F H T (Step.refl F H T) st ?_⟩⟩
              have hl : (kds.map (·.1)).length = kvs.length := by rw [hk, List.length_map]
              refine ⟨fun i H x H' => H' = H ∧ ∃ k v, kvs[i]? = some (k, v) ∧ x = kV k, ?_, ?_⟩
              · rw [hl]
                exact walk_keys.mono (fun H e => e _ _ h) fun i H x H' _ _ y => y
              · rintro i H1 x H1' d hd ⟨e1, kk, vv, e2, e3⟩
                subst e1 e3
                rw [hk, List.getElem?_map, e2] at hd
                cases hd
                exact .inl ⟨rfl, by cases kk with
                  | inl n => exact .int n
                  | inr z => exact .str z⟩
        | _ => exact z.elim
      | _ => exact z.elim
/-- d[k], d locked -/
theorem tr_getL (C : Cok X G W k) {a b : Expr} {ma mb : E} {pos : Pos} (ha : TrE X G W a ma) (hb : TrE X G W b mb) (hs : NoSl b := by exact fun _ _ => rfl) : TrE X G W (.Subscript a b pos) (eOp fGetL ma mb) := by
  obtain ⟨t, p, da⟩ := ha
  obtain ⟨u, q, db⟩ := hb
  refine ⟨_, pe_dget (by have := C.room.units; omega) p q hs, fun F H σ S T Q st z => ?_⟩
  refine da.dat F H σ S T _ st (PR.bind z fun dx S1 z1 => ?_)
  intro v F1 H1 T1 s1 st1 r1
  refine db.dat F1 H1 σ S1 T1 _ st1 (PR.bind (PR.re s1 (fun _ _ h => h) z1) fun dy S2 z2 => ?_)
  intro u F2 H2 T2 s2 st2 r2
  cases e : fGetL dx dy with
  | none => rw [e] at z2; exact z2.elim
  | some d =>
    rw [e] at z2
    have z2 : KE G F H σ T Q d S2 := z2
    have r1 := r1.mono s2.sF
    cases r1 <;> simp only [fGetL, reduceCtorEq] at e
    rename_i aa oo kvs kds h1 hk rr
    split at e
    · rename_i hx
      obtain ⟨kk, rfl, rfl⟩ := key_of hx r2
      have va := val_at hk rr kk
      cases q1 : valD kds (keyD kk) with
      | none => rw [q1] at e; cases e
      | some dd =>
        rw [q1] at e va
        cases e
        cases q3 : valV kvs kk with
        | none => rw [q3] at va; exact va.elim
        | some w =>
          rw [q3] at va
          exact ⟨aa, w, rfl, .inl ⟨kvs, kk, .inr ⟨oo, st2.sub _ _ h1⟩, rfl, q3.symm⟩, KE.val (z2.re (s1.trans s2)) st2 va⟩
    · cases e
theorem unlock_rd {a b : Addr} {o : Obj} {kvs : List (Key × V)} {xs : List V} (hF : H a = some (.frz o (.dK kvs))) (h : Rd H b (.tup xs)) : Rd (upd H a (.dK kvs)) b (.tup xs) := by
  have ne : b ≠ a := fun e => by
    rw [e] at h
    rcases h with h | ⟨o2, h⟩ <;> (rw [hF] at h; cases h)
  rcases h with h | ⟨o2, h⟩
  · exact .inl (by rw [upd_ne ne]; exact h)
  · exact .inr ⟨o2, by rw [upd_ne ne]; exact h⟩
mutual
theorem rep_unlock {a : Addr} {o : Obj} {kvs : List (Key × V)} (hF : H a = some (.frz o (.dK kvs))) : ∀ {v : V} {d : D}, d.imm = true → Rep G H v d → Rep G (upd H a (.dK kvs)) v d
  | _, _, _, .non => .non
  | _, _, _, .bl b => .bl b
  | _, _, _, .int i => .int i
  | _, _, _, .str z => .str z
  | _, _, h, .tup q r => .tup (q.elim (fun q => .inl (unlock_rd hF q)) .inr) (reps_unlock hF (by simpa [D.imm] using h) r)
  | _, _, h, .scr _ => by simp [D.imm] at h
  | _, _, h, .lst _ _ => by simp [D.imm] at h
  | _, _, h, .dK _ _ _ => by simp [D.imm] at h
  | _, _, h, .dN _ _ _ _ => by simp [D.imm] at h
  | _, _, h, .ldc _ _ _ => by simp [D.imm] at h
  | _, _, h, .ob _ _ _ => by simp [D.imm] at h
  | _, _, h, .fn _ => by simp [D.imm] at h
theorem reps_unlock {a : Addr} {o : Obj} {kvs : List (Key × V)} (hF : H a = some (.frz o (.dK kvs))) : ∀ {vs : List V} {ds : List D}, D.imms ds = true → Reps G H vs ds → Reps G (upd H a (.dK kvs)) vs ds
  | _, _, _, .nil => .nil
  | _, _, h, .cons a r => by
    simp only [D.imms, Bool.and_eq_true] at h
    exact .cons (rep_unlock hF h.1 a) (reps_unlock hF h.2 r)
end
theorem tr_lockLI (i : Nat) {e : Expr} {m : E} {W' : WX} (h : TrE X G W' e m) : TrE X G W e (eLockLI i m) := by
  obtain ⟨t, hp, hd⟩ := h
  refine ⟨_, pe_lock hp, fun F H σ S T Q st p => ?_⟩
  unfold eLockLI at p
  split at p
  case h_2 => exact p.elim
  rename_i kds ei
  have ek : ownK S i = some kds := by unfold ownK; rw [ei]
  obtain ⟨a, kvs, hσ, hH, hk, hr, _⟩ := own_dict st ek
  split at p
  case h_2 => exact p.elim
  rename_i ds S1 em
  split at p
  case isFalse => exact p.elim
  rename_i hi
  have p : KE G F H σ T Q (.li .fz, .lst ds) S := p
  refine ⟨a, .dK kvs, hH, True.intro, fun od => ?_⟩
  have wl := slots_lock (o := od) hH (slots_frz st.sub st.sl) (fun s hs kd e => by
    obtain ⟨s0, _, e0⟩ := List.mem_map.mp hs
    rw [e] at e0
    cases s0 with
    | none => cases e0
    | some k0 => cases e0; rfl)
  have ei2 : (S.map frz)[i]? = some (some (.fz, .dic kds)) := by rw [List.getElem?_map, ei]; rfl
  obtain ⟨v0, f0, T0, ht, hv, ho, back⟩ := wl.at ei2
  have hH1 : upd H a (.frz od (.dK kvs)) a = some (.frz od (.dK kvs)) := upd_same
  have hr1 : Reps G (upd H a (.frz od (.dK kvs))) (kvs.map (·.2)) (kds.map (·.2)) := (hr.mono st.sub).lock hH
  have st1 : St' G (upd H a (.frz od (.dK kvs))) (upd H a (.frz od (.dK kvs))) σ ((S.map frz).set i (some (.fz, .ldc kds))) nil0 := by
    refine ⟨st.pi, Same.refl _, ?_, fun _ => Nat.zero_le _, fun _ _ => rfl⟩
    have b := back _ _ (some (.ref a)) (some (.fz, .ldc kds)) nil0 (Same.refl _) (fun _ _ _ h => h) (.yes (.fz (.ldc hH1 hk hr1)))
    have e2 : σ.set i (some (.ref a)) = σ := by
      obtain ⟨hi2, q1⟩ := List.getElem?_eq_some_iff.mp hσ
      rw [← q1, List.set_getElem_self]
    rw [e2] at b
    exact b.cast fun x => by have h0 : (nil0 : Cnt) x = f0 x + T0 x := ht x; simp only [nil0, add] at *; omega
  refine hd _ _ σ _ nil0 _ st1 ?_
  rw [em]
  intro v F' H' T' f s' st' o le di
  have sLL : Same (upd H a (.frz od (.dK kvs))) H' := fun b u e => s'.fr b u rfl e
  have hA : H' a = some (.frz od (.dK kvs)) := sLL _ _ hH1
  refine ⟨hA, ?_⟩
  have sHH : Same H (upd H' a (.dK kvs)) := fun b u e => by
    by_cases q : b = a
    · subst q
      rw [hH] at e
      cases e
      exact upd_same
    · rw [upd_ne q]
      exact sLL b u (by rw [upd_ne q]; exact e)
  cases o with
  | @li k b vs ds g h r =>
    obtain ⟨rr, rfl⟩ := reps_fz r
    obtain ⟨sF, st2, s2⟩ := st.exT sHH
    have nb : b ≠ a := fun q => by rw [q, hA] at h; cases h
    have hn : H b = none := by
      rcases s'.nT b (by simp [add, one]) with z | z
      · exact absurd rfl z
      · rw [upd_ne nb] at z; exact z
    have h2 : upd H' a (.dK kvs) b = some (.lst vs) := by rw [upd_ne nb]; exact h
    have tz : T b = 0 := Decidable.byContradiction fun n => st.there b n hn
    have r2 : Reps G (exT F (upd H' a (.dK kvs))) vs ds := reps_exT sF hi (reps_unlock hA hi (rr.mono st'.sub))
    refine p (.ref b) _ _ T (add (one b) nil0) ⟨s2.sF, s2.fr, fun c n => ?_, s2.nF, s2.tl⟩ st2 (.li h2 (owns_fz r2)) (fun c => ?_) fun c n => ?_
    · by_cases q : c = b
      · rw [q]; exact .inr hn
      · exact .inl (by simp only [add, one, if_neg q, nil0] at n; omega)
    · by_cases q : c = b
      · rw [q]; simp [add, one, nil0, tz]
      · have := st2.le c; simp only [add, one, if_neg q, nil0]; omega
    · by_cases q : c = b
      · exfalso
        rw [q] at n
        cases z : exT F (upd H' a (.dK kvs)) b with
        | none => exact n z
        | some u =>
          rcases exT_some z with z | ⟨_, _, t⟩
          · have := st.sub _ _ z; rw [hn] at this; cases this
          · rw [h2] at t; rcases t with ⟨_, t⟩ | ⟨_, _, t⟩ <;> cases t
      · simp [add, one, if_neg q, nil0]
end
end TB

/-! TbM6: words of own objects: ==, !=, len, str; isinstance of an own class; str of a number; len of a range -/
namespace TB
/-- what is answered, where `ok` lets it -/
def okR (ok : KD → Bool) : R KD → R KD
  | .ok kd S => if ok kd = true then .ok kd S else .bad
  | _ => .bad
def isBlK : KD → Bool
  | (.fz, .bl _) => true
  | _ => false
def isLnK : KD → Bool
  | (.fz, .int n) => decide (0 ≤ n) && decide (n < 9223372036854775808)
  | _ => false
def isStK : KD → Bool
  | (.fz, .str _) => true
  | _ => false
/-- a word of o's class, o the first one; no refusal -/
def eOwnC (ok : KD → Bool) (c : Nat) (F : Fn) (rs : List Ar) : E := M.bind (arEv rs) fun vs S => match vs with
  | x :: _ => if isObj c x S = true then okR ok (callAV F vs S) else .bad
  | [] => .bad
def tyB : D → Bool
  | .non => true
  | .bl _ => true
  | .int _ => true
  | .str _ => true
  | .lst _ => true
  | .tup _ => true
  | _ => false
/-- what may stand behind o == -/
def tyOkA (c : Nat) (x : AV) (S : List Slot) : Bool := isObj c x S || match x with
  | .v d => tyB d
  | _ => false
def eEqO1 (c : Nat) (F : Fn) (r2 : Ar) (x : AV) : E := M.bind (arEv [r2]) fun v2 S => match v2 with
  | [y] => if isObj c x S = true ∧ tyOkA c y S = true then okR isBlK (callAV F [x, y] S) else .bad
  | _ => .bad
def eEqO (c : Nat) (F : Fn) (r1 r2 : Ar) : E := M.bind (arEv [r1]) fun v1 => match v1 with
  | [x] => eEqO1 c F r2 x
  | _ => eBad
def notK : KD → Option KD
  | (.fz, .bl b) => some (.fz, .bl (!b))
  | _ => none
def eNeO (c : Nat) (F : Fn) (r1 r2 : Ar) : E := M.bind (eEqO c F r1 r2) fun kd => ofO (notK kd)
def eLenO (c : Nat) (F : Fn) (r : Ar) : E := eOwnC isLnK c F [r]
def eStrO (c : Nat) (F : Fn) (r : Ar) : E := eOwnC isStK c F [r]
def fIsO (c : Nat) : D → Option KD
  | .ob c' _ => if c' = c then kz (.bl true) else none
  | .non => kz (.bl false)
  | .bl _ => kz (.bl false)
  | .int _ => kz (.bl false)
  | .str _ => kz (.bl false)
  | .lst _ => kz (.bl false)
  | .tup _ => kz (.bl false)
  | _ => none
def eIsO (c : Nat) (e : E) : E := eUn (fIsO c) e
/-- the digits of a number -/
def strI (i : Int) : List Nat := (toString i).toList.map Char.toNat
def fStrI : List D → Option KD
  | [.int i] => if i.natAbs < 10 ^ 30 then kz (.str (strI i)) else none
  | _ => none
/-- len(range(a, b)) -/
def fLenRg : D → D → Option KD
  | .int a, .int b => if a.natAbs < 10 ^ 15 ∧ b.natAbs < 10 ^ 15 then kz (.int (if a < b then b - a else 0)) else none
  | _, _ => none
end TB

/-! TbB1: words of own objects: ==, !=, len, str; isinstance of an own class; str of a number; len of a range. -/
namespace TB
open PySem PySem.Spec PyProof.Rows L2
/-- what is asked of an own class -/
structure OwnCl (K : PySem.W.Frag) (C : Addr) : Prop where
  cl : L2.Cls K C
  ha : PySem.W.findIn K (.ref C) "__class__" = some (some (.builtin "object.__class__"))
  hn : PySem.W.specialIn K (.builtin "object.__class__") "__get__" = some (some (.builtin "getset_descriptor.__get__"))
  htk : PySem.W.takesIn K (.builtin "object.__class__") = some true
  hm : PySem.W.mroIn K C (.type "object") = some true
  hs : (PySem.W.clsIn K C).isSome = true
  ht : PySem.W.typeIn K (.ref C) = some (.type "type")
section
variable {P : Program} {w : World} {A : Around} {E : Value → Shared → Prop} {s : Shared} {K : PySem.W.Frag} {x C f L : Addr} {h₀ : Heap} {m : PySem.Str → Option Value} {ox : Obj} {od : Option Obj} {b tb : Value}
/-- o != b, by o's own == -/
theorem ne_K {Q : Value → Shared → Prop} (hu : A.units + 1 < cLine) (F : Fr h₀ L s.heap m) (X₀ : K.In h₀) (I : PySem.W.InstAt s.heap x ox C od) (hb : PySem.W.Looks (model P w) s.heap (typeOf b) tb) (hn : PySem.W.notFirst K C tb = true)
    (hs : PySem.W.findIn K (.ref C) "__eq__" = some (some (.ref f))) (hne : PySem.W.findIn K (.ref C) "__ne__" = some (some (.builtin "object.__ne__"))) (hf : PySem.W.isFn K (.ref f) = true) (hm : PySem.W.mroIn K C (.type "object") = some true)
    (h : wpAny (model P w) A.in1 (call (.ref f) [.ref x, b]) (fun v s' => ∃ r, v = .bool r ∧ Q (.bool (!r)) s') E s) : wpAny (model P w) A (richCompare .NotEq (.ref x) b) Q E s := by
  have X := X₀.keeps F.keep
  have entry : wpAny (model P w) A.in1 (Builtin.«object.__ne__» ⟨[.ref x, b], []⟩) (fun fin s' => match fin with
      | .done f => ∃ r, f = .ret (.bool r) ∧ Q (.bool r) s'
      | .again _ => False) E s := by
    unfold Builtin.«object.__ne__»
    repeat (first
      | with_reducible refine wpAny_cRoomFor (show A.in1.units < cLine from hu) ?_
      | (refine wpAny_bind (m := callSpecialIfBound? (.ref x) (Str.ofString "__eq__") [b])
          (PySem.W.ifBound_K X I hs hf (wpAny_mono h (fun r s' hr => by
            obtain ⟨c, rfl, hq⟩ := hr
            repeat (first | exact ⟨_, rfl, hq⟩ | exact wpAny_pure ⟨_, rfl, hq⟩ | exact wpAny_truthy_bool ⟨_, rfl, hq⟩ | (refine wpAny_bind (m := truthy (.bool _)) (wpAny_truthy_bool ?_)) | wp_step)) fun _ _ e => e)))
      | wp_step)
  have one : wpAny (model P w) A (tryCompare (.ref x) "__ne__" b) (fun r s' => ∃ v, r = some v ∧ Q v s') E s := by
    unfold tryCompare
    refine wpAny_bind (NtL.csib (I.type.andThen (PySem.W.looks_findIn X hne)) (PySem.F.cmp_object.ne.bind _) (wpAny_call (codeAny_call_builtin PySem.F.cmp_object.ne.plain PySem.F.cmpEntry_ne (PySem.W.check_slot PySem.F.cmpKind_ne PySem.F.cmpSplit_ne (I.type.andThen (PySem.W.looks_mroIn X hm)) (PySem.F.cmpArgs_ne _ _) (wpAny_mono entry (fun fin s' z => ?_) fun _ _ e => e)))))
    cases fin with
    | done fl =>
      obtain ⟨r, rfl, q⟩ := z
      exact wpAny_pure ⟨_, rfl, q⟩
    | again c => exact z.elim
  unfold richCompare
  simp only [oneThing_ref]
  refine wpAny_holding (wpAny_bind (wpAny_cRoomFor (by omega) ?_))
  refine wpAny_bind (I.type.here (wpAny_bind (hb.here ?_)))
  split
  · rename_i q
    have e : PySem.W.subIn K tb (.ref C) = some false := by
      rcases Bool.or_eq_true_iff.mp hn with e | e
      · rw [beq_iff_eq.mp e] at q; simp at q
      · exact beq_iff_eq.mp e
    refine wpAny_bind ((PySem.W.looks_subIn X e).here ?_)
    simp only [Bool.false_eq_true, if_false]
    refine wpAny_bind (wpAny_mono one (fun r s' z => ?_) fun _ _ e => e)
    obtain ⟨v, rfl, hq⟩ := z
    exact wpAny_pure hq
  · refine wpAny_bind (wpAny_pure ?_)
    simp only [Bool.false_eq_true, if_false]
    refine wpAny_bind (wpAny_mono one (fun r s' z => ?_) fun _ _ e => e)
    obtain ⟨v, rfl, hq⟩ := z
    exact wpAny_pure hq
end
section
variable {X : Cx} {k : Nat} {f C : Addr} {fd : FuncData} {ps : List PySem.Str} {sp : Sp} {pins : List (Addr × Obj)} {σ : L2.St} {H : Hp} {s : Shared}
/-- a def called deeper, that raises nothing -/
theorem wrd_at {A : Around} {Q : VK} {us : List Value} {vs : List V} (F : FnOk X.prog X.w X.K X.mg X.base (L2N.CX X.prog X.w) k f fd ps sp) (hb : Binds X.K fd ps []) (hr : Room k A) (he : Env0 X.prog X.w X.K X.mg X.base A X.stack s H) (I : Inv X pins σ H s) (r : Vals vs us)
    (h : sp vs H Q (fun _ _ _ => False)) : wpAny (model X.prog X.w) A (call (.ref f) us) (EP X pins σ Q) X.xe s := by
  have hl := F.len _ _ _ _ h
  refine wpAny_call (codeAny_mono (F.run A X.stack s H ⟨us, []⟩ us vs Q _ hr he (by
    have := hb s us I.kIn (by simpa [← r.length] using hl)
    simpa using this) r h) ?_)
  rintro (ex | fl) s' hq
  · exact pass_none X pins σ H s ex s' I hq
  · cases fl <;> first | exact I.after hq | exact False.elim hq
/-- a word of the class, called by the interpreter -/
structure Word (X : Cx) (C f : Addr) (name : PySem.Str) : Prop where
  hs : PySem.W.findIn X.K (.ref C) name = some (some (.ref f))
  hf : PySem.W.isFn X.K (.ref f) = true
def rOwn1 (C : Addr) (sp : Sp) (ok : V → Prop) : List V → Hp → VK → Prop := fun xs H Q => ∃ a dx fs, xs = [.ref a] ∧ H a = some (.ins C dx fs) ∧ sp xs H (fun v H' => ok v ∧ Q v H') (fun _ _ _ => False)
def okLn : V → Prop := fun v => ∃ n : Int, v = .int n ∧ 0 ≤ n ∧ n < 2 ^ 63
def okSt : V → Prop := fun v => ∃ z, v = .str z
def okBl : V → Prop := fun v => ∃ b, v = .bl b
theorem call_lenO (F : FnOk X.prog X.w X.K X.mg X.base (L2N.CX X.prog X.w) k f fd ps sp) (hb : Binds X.K fd ps []) (hr : Room (k + 1) X.A) (W : Word X C f "__len__") : CallR X (.builtin "len") (rOwn1 C sp okLn) := by
  intro pins s σ H xs us Q I r h
  obtain ⟨a, dx, fs, rfl, ha, hsp⟩ := h
  obtain ⟨u, rfl, ru⟩ := vals1 r
  cases (show u = Value.ref a from ru)
  obtain ⟨mA, J, _⟩ := ins_get I.hok ha
  obtain ⟨od, J, _⟩ := J.look
  obtain ⟨m, hF⟩ := I.fr
  refine PySem.W.len_K hF I.ok.mod.kin J W.hs W.hf (thn (wrd_at F hb hr.in1 I.env0.in1 I r hsp) ?_)
  rintro v s' ⟨y, H', I', ry, ⟨n, rfl, n0, n1⟩, q⟩
  obtain ⟨t, rfl⟩ := ry
  exact ⟨⟨n0, n1⟩, .int n, H', I'.tok _, ⟨_, rfl⟩, q⟩
theorem call_strO (F : FnOk X.prog X.w X.K X.mg X.base (L2N.CX X.prog X.w) k f fd ps sp) (hb : Binds X.K fd ps []) (hr : Room (k + 1) X.A) (W : Word X C f "__str__") : CallR X (.type "str") (rOwn1 C sp okSt) := by
  intro pins s σ H xs us Q I r h
  obtain ⟨a, dx, fs, rfl, ha, hsp⟩ := h
  obtain ⟨u, rfl, ru⟩ := vals1 r
  cases (show u = Value.ref a from ru)
  obtain ⟨mA, J, _⟩ := ins_get I.hok ha
  obtain ⟨od, J, _⟩ := J.look
  have hu : X.A.in1.in1.units < cLine := by have := hr.un; show X.A.units + 1 + 1 < _; omega
  have hr2 : Room k X.A.in1.in1 := ⟨hr.hd, by have := hr.dp; show X.A.depth + 3 * k + 5 < _; omega, by have := hr.un; show X.A.units + 1 + 1 + 16 * k + 200 < _; omega⟩
  refine PySem.W.kso_call hu I.kIn J W.hs W.hf (thn (wrd_at F hb hr2 I.env0.in1.in1 I r hsp) ?_)
  rintro v s' ⟨y, H', I', ry, ⟨z, rfl⟩, q⟩
  obtain ⟨t, rfl⟩ := ry
  exact ⟨.str z, H', I', ⟨_, rfl⟩, q⟩
/-- o == b -/
def rEqO (K : PySem.W.Frag) (C : Addr) (sp : Sp) : R2 := fun x y H Q => ∃ a dx fs t, x = .ref a ∧ H a = some (.ins C dx fs) ∧ TyX K H y t ∧ PySem.W.notFirst K C t = true ∧ sp [x, y] H (fun v H' => okBl v ∧ Q v H') (fun _ _ _ => False)
def rNeO (K : PySem.W.Frag) (C : Addr) (sp : Sp) : R2 := fun x y H Q => rEqO K C sp x y H (fun v H' => ∃ b, v = .bl b ∧ Q (.bl (!b)) H')
theorem op_eqO (F : FnOk X.prog X.w X.K X.mg X.base (L2N.CX X.prog X.w) k f fd ps sp) (hb : Binds X.K fd ps []) (hr : Room (k + 1) X.A) (W : Word X C f "__eq__") : OpR X (compareOp .Eq) (rEqO X.K C sp) := by
  intro pins s σ H x y v u Q I rx ry h
  obtain ⟨a, dx, fs, t, rfl, ha, ty, nf, hsp⟩ := h
  cases (show v = Value.ref a from rx)
  obtain ⟨mA, J, _⟩ := ins_get I.hok ha
  obtain ⟨od, J, _⟩ := J.look
  obtain ⟨m, hF⟩ := I.fr
  obtain ⟨P, Z, p, _⟩ := kit_of I ry ty
  refine PySem.W.cmp_K (op := .Eq) (tb := t) (by have := hr.un; omega) hF I.ok.mod.kin J (Z.ty _ _ I.kIn p) nf W.hs W.hf (thn (wrd_at F hb (hr.mono (Nat.le_succ k)) I.env0 I (.cons rx (.cons ry .nil)) hsp) ?_)
  rintro v s' ⟨z, H', I', rz, ⟨b, rfl⟩, q⟩
  cases rz
  exact ⟨.bl b, H', I', rfl, q⟩
theorem op_neO (F : FnOk X.prog X.w X.K X.mg X.base (L2N.CX X.prog X.w) k f fd ps sp) (hb : Binds X.K fd ps []) (hr : Room (k + 1) X.A) (W : Word X C f "__eq__") (O : OwnCl X.K C) (hne : PySem.W.findIn X.K (.ref C) "__ne__" = some (some (.builtin "object.__ne__"))) : OpR X (compareOp .NotEq) (rNeO X.K C sp) := by
  intro pins s σ H x y v u Q I rx ry h
  obtain ⟨a, dx, fs, t, rfl, ha, ty, nf, hsp⟩ := h
  cases (show v = Value.ref a from rx)
  obtain ⟨mA, J, _⟩ := ins_get I.hok ha
  obtain ⟨od, J, _⟩ := J.look
  obtain ⟨m, hF⟩ := I.fr
  obtain ⟨P, Z, p, _⟩ := kit_of I ry ty
  refine ne_K (tb := t) (by have := hr.un; omega) hF I.ok.mod.kin J (Z.ty _ _ I.kIn p) nf W.hs hne W.hf O.hm (thn (wrd_at F hb hr.in1 I.env0.in1 I (.cons rx (.cons ry .nil)) hsp) ?_)
  rintro v s' ⟨z, H', I', rz, ⟨b, rfl⟩, b', e, q⟩
  cases e
  cases rz
  exact ⟨b, rfl, .bl (!b), H', I', rfl, q⟩
end
/-! ### the mirror's side -/
theorem sub_nt {K : PySem.W.Frag} {C : Addr} {n : String} (h : n ∈ ["NoneType", "bool", "int", "str", "list", "tuple"]) : PySem.W.subIn K (.type n) (.ref C) = some false := by
  have e : ∀ n ∈ ["NoneType", "bool", "int", "str", "list", "tuple"], ((fastBuiltinMro n).map fun l => l.all fun v => match v with | .type _ => true | _ => false) = some true := by decide +kernel
  have e := e n h
  show (fastBuiltinMro n).map (·.contains (.ref C)) = some false
  cases q : fastBuiltinMro n with
  | none => rw [q] at e; cases e
  | some l =>
    rw [q] at e
    have e : (l.all fun v => match v with | .type _ => true | _ => false) = true := by simpa using e
    show some (l.contains (.ref C)) = some false
    congr 1
    rw [Bool.eq_false_iff]
    intro z
    have z := List.contains_iff_mem.mp z
    have := List.all_eq_true.mp e _ z
    cases this
theorem nm_in {d : D} {n : String} (h : d.nm = some n) : n ∈ ["NoneType", "bool", "int", "str", "list", "tuple"] := by
  cases d <;> simp only [D.nm, reduceCtorEq] at h <;> cases h <;> decide
section
variable {X : Cx} {G : Cfgx} {W : WX} {k : Nat}
theorem tyB_nm {d : D} (h : tyB d = true) : ∃ n, d.nm = some n := by
  cases d <;> simp only [tyB, Bool.false_eq_true] at h <;> exact ⟨_, rfl⟩
theorem ty_obj {K : PySem.W.Frag} {H : Hp} {a C dx : Addr} {fs : List (PySem.Str × V)} (O : OwnCl K C) (h : H a = some (.ins C dx fs)) : TyX K H (.ref a) (.ref C) := .base (.ins h O.cl O.ha O.hn O.htk O.hm)
theorem notFirst_self {K : PySem.W.Frag} {C : Addr} : PySem.W.notFirst K C (.ref C) = true := by
  unfold PySem.W.notFirst
  rw [beq_self_eq_true]; rfl
theorem ty_at {F H : Hp} {σ : L2.St} {S : List Slot} {T f : Cnt} {c : Nat} {y : AV} {w : V} (O : OwnCl G.K (G.ca c)) (st : St' G F H σ S T) (av : AVs G F H σ [y] [w] f) (h : tyOkA c y S = true) : ∃ t, TyX G.K H w t ∧ PySem.W.notFirst G.K (G.ca c) t = true := by
  unfold tyOkA at h
  rcases Bool.or_eq_true_iff.mp h with h | h
  · obtain ⟨a, dx, fs, n, rfl, hH, _⟩ := isObj_at st av h
    exact ⟨_, ty_obj O hH, notFirst_self⟩
  · cases av with
    | v r _ =>
      obtain ⟨n, hn⟩ := tyB_nm h
      refine ⟨_, tyx_of (r.mono st.sub) hn, ?_⟩
      unfold PySem.W.notFirst
      rw [sub_nt (nm_in hn)]
      simp
    | o => cases h
    | b => cases h
abbrev nvr : WX := fun _ _ _ _ => False
/-- what is answered is as `ok` lets it -/
def OkV (G : Cfgx) (ok : KD → Bool) (P : V → Prop) : Prop := ∀ kd F H v f, Own G F H kd.1 v kd.2 f → ok kd = true → P v
theorem okV_bl : OkV G isBlK okBl := by
  rintro ⟨k, d⟩ F H v f o h
  cases o with
  | fz r => cases r <;> first | exact ⟨_, rfl⟩ | simp [isBlK] at h
  | _ => simp [isBlK] at h
theorem okV_ln : OkV G isLnK okLn := by
  rintro ⟨k, d⟩ F H v f o h
  cases o with
  | fz r =>
    cases r <;> first
      | (simp [isLnK] at h; done)
      | (rename_i n; refine ⟨n, rfl, ?_, ?_⟩ <;> simp [isLnK] at h <;> omega)
  | _ => simp [isLnK] at h
theorem okV_st : OkV G isStK okSt := by
  rintro ⟨k, d⟩ F H v f o h
  cases o with
  | fz r => cases r <;> first | exact ⟨_, rfl⟩ | simp [isStK] at h
  | _ => simp [isStK] at h
theorem okR_pr {ok : KD → Bool} {P : V → Prop} (hP : OkV G ok P) {F H : Hp} {σ : L2.St} {T : Cnt} {Q : VK} {r : R KD} (h : PR G W F H σ T (KE G F H σ T Q) (okR ok r)) : PR G nvr F H σ T (KE G F H σ T fun v H' => P v ∧ Q v H') r := by
  cases r with
  | bad => exact h.elim
  | exc x S => exact h.elim
  | ok kd S =>
    have h : PR G W F H σ T (KE G F H σ T Q) (if ok kd = true then .ok kd S else .bad) := h
    by_cases z : ok kd = true
    · rw [if_pos z] at h
      intro v F' H' T' f s st o le di
      exact ⟨hP kd F' H' v f o z, h v F' H' T' f s st o le di⟩
    · rw [if_neg z] at h
      exact h.elim
theorem avs_one {F H : Hp} {σ : L2.St} {x : AV} {vs : List V} {f : Cnt} (h : AVs G F H σ [x] vs f) : ∃ v, vs = [v] := by
  have := avs_len h
  match vs, this with
  | [v], _ => exact ⟨v, rfl⟩
theorem den_own1 {ok : KD → Bool} {P : V → Prop} {c : Nat} {fn : Fn} {r : Ar} {t : TA} (hP : OkV G ok P) (ha : DenAr G W t (arEv [r])) : DenE G W (tCB (rOwn1 (G.ca c) (spF G 1 fn) P) t) (eOwnC ok c fn [r]) := fun F H σ S T Q st p => by
  have p : PR G W F H σ T (KE G F H σ T Q) ((arEv [r] S).bind fun avs S => match avs with
    | x :: _ => if isObj c x S = true then okR ok (callAV fn avs S) else .bad
    | [] => .bad) := p
  refine ha F H σ S T _ st ?_
  cases e : arEv [r] S with
  | bad => rw [e] at p; exact p.elim
  | exc xc S1 => rw [e] at p; exact p
  | ok avs S1 =>
    rw [e] at p
    obtain ⟨x, rfl⟩ := arEv1 e
    intro vs F1 H1 T1 f1 s1 st1 av le1 di1
    have p : PR G W F H σ T (KE G F H σ T Q) (if isObj c x S1 = true then okR ok (callAV fn [x] S1) else .bad) := p
    by_cases ho : isObj c x S1 = true
    case neg => rw [if_neg ho] at p; exact p.elim
    rw [if_pos ho] at p
    obtain ⟨v, rfl⟩ := avs_one av
    obtain ⟨a, dx, fs, j, rfl, hH, hfs⟩ := isObj_at st1 av ho
    exact ⟨a, dx, fs, rfl, hH, call_core (W := nvr) (n := 1) (fun _ _ => rfl) s1 st1 av le1 di1 (okR_pr hP p)⟩
theorem den_eqO {c : Nat} {fn : Fn} {r1 r2 : Ar} {ta tb : TE} (O : OwnCl G.K (G.ca c)) (ha : DenR G W ta r1) (hb : DenR G W tb r2) : DenE G W (tOp (rEqO G.K (G.ca c) (spF G 2 fn)) ta tb) (eEqO c fn r1 r2) := fun F H σ S T Q st p => by
  refine ha F H σ S T _ st (PR.bind p fun as1 S1 y => ?_)
  rintro x v F1 H1 T1 f1 rfl s1 st1 a1 le1 di1
  have y : PR G W F H σ T (KE G F H σ T Q) ((arEv [r2] S1).bind fun v2 S => match v2 with
    | [y] => if isObj c x S = true ∧ tyOkA c y S = true then okR isBlK (callAV fn [x, y] S) else .bad
    | _ => .bad) := y
  have th : ∀ a, f1 a ≠ 0 → H1 a ≠ none := fun a z => a1.there a z
  cases e : arEv [r2] S1 with
  | bad => rw [e] at y; exact y.elim
  | exc xc S2 =>
    rw [e] at y
    refine hb F1 H1 σ S1 T1 _ st1 ?_
    rw [e]
    intro cls dxx F' H' T' s' st' ex
    obtain ⟨b1, _, _⟩ := s'.frame le1 th
    exact (show PX G W F H σ T xc S2 from y) cls dxx F' H' T' (s1.trans (b1.less fun a => by simp only [add]; omega)) st' ex
  | ok avs S2 =>
    rw [e] at y
    refine hb F1 H1 σ S1 T1 _ st1 ?_
    rw [e]
    rintro x2 w F2 H2 T2 f2 rfl s2 st2 a2 le2 di2
    have y : PR G W F H σ T (KE G F H σ T Q) (if isObj c x S2 = true ∧ tyOkA c x2 S2 = true then okR isBlK (callAV fn [x, x2] S2) else .bad) := y
    by_cases ho : isObj c x S2 = true ∧ tyOkA c x2 S2 = true
    case neg => rw [if_neg ho] at y; exact y.elim
    rw [if_pos ho] at y
    obtain ⟨b1, b2, b3⟩ := s2.frame le1 th
    obtain ⟨a, dx, fs, j, rfl, hH, hfs⟩ := isObj_at st2 (a1.mono s2.sF b3) ho.1
    obtain ⟨t, ty, nf⟩ := ty_at O st2 a2 ho.2
    exact ⟨a, dx, fs, t, rfl, hH, ty, nf, recv_core (W := nvr) (n := 2) (dds := []) rfl .nil s1 a1 le1 di1 s2 st2 a2 le2 di2 (okR_pr okV_bl y)⟩
theorem den_neO {c : Nat} {fn : Fn} {r1 r2 : Ar} {ta tb : TE} (O : OwnCl G.K (G.ca c)) (ha : DenR G W ta r1) (hb : DenR G W tb r2) : DenE G W (tOp (rNeO G.K (G.ca c) (spF G 2 fn)) ta tb) (eNeO c fn r1 r2) := fun F H σ S T Q st p => by
  refine den_eqO (fn := fn) O ha hb F H σ S T (fun v H' => ∃ b, v = .bl b ∧ Q (.bl (!b)) H') st (PR.bind p fun kd S1 y => ?_)
  have y : PR G W F H σ T (KE G F H σ T Q) (ofO (notK kd) S1) := y
  intro v F' H' T' f s' st' o le di
  obtain ⟨kk, dd⟩ := kd
  unfold notK at y
  split at y
  · rename_i b e
    cases e
    cases o with
    | fz r =>
      cases r
      have y : KE G F H σ T Q (.fz, .bl (!b)) S1 := y
      refine ⟨b, rfl, y _ F' H' T' nil0 (s'.castR fun a => ?_) st' (.fz (.bl _)) (fun a => st'.le a) fun _ _ => rfl⟩
      rfl
  · exact y.elim
theorem tr_lenO (c : Nat) {fn : Fn} {f : Addr} {fd : FuncData} {ps : List PySem.Str} {p pos : Pos} {e : Expr} {r : Ar} {j : Nat} (C : Cok X G W k) (hj : j + 1 ≤ k) (F : FnOk X.prog X.w X.K X.mg X.base (L2N.CX X.prog X.w) j f fd ps (spF G 1 fn)) (hb : Binds X.K fd ps []) (Wd : Word X (G.ca c) f "__len__") (ha : TrAr X G W [e] [r])
    (hm : X.mg "len" = none) (hg : Gl X "len" := by rfl) (he : starEach [e] X.env = (false, eval e X.env) :: starEach [] X.env := by rfl) : TrE X G W (.Call (.Name "len" p) [e] [] pos) (eLenO c fn r) := by
  obtain ⟨t, pa, da⟩ := ha
  exact ⟨_, pe_callB (call_lenO F hb (C.room.mono hj) Wd) hg hm (by decide +kernel) pa (by decide) (by decide) he rfl, den_own1 okV_ln da⟩
theorem tr_strO (c : Nat) {fn : Fn} {f : Addr} {fd : FuncData} {ps : List PySem.Str} {p pos : Pos} {e : Expr} {r : Ar} {j : Nat} (C : Cok X G W k) (hj : j + 1 ≤ k) (F : FnOk X.prog X.w X.K X.mg X.base (L2N.CX X.prog X.w) j f fd ps (spF G 1 fn)) (hb : Binds X.K fd ps []) (Wd : Word X (G.ca c) f "__str__") (ha : TrAr X G W [e] [r])
    (hm : X.mg "str" = none) (hg : Gl X "str" := by rfl) (he : starEach [e] X.env = (false, eval e X.env) :: starEach [] X.env := by rfl) : TrE X G W (.Call (.Name "str" p) [e] [] pos) (eStrO c fn r) := by
  obtain ⟨t, pa, da⟩ := ha
  exact ⟨_, pe_callTy (call_strO F hb (C.room.mono hj) Wd) hg hm (by decide +kernel) pa (by decide) (by decide) he rfl, den_own1 okV_st da⟩
theorem tr_eqO (c : Nat) {fn : Fn} {f : Addr} {fd : FuncData} {ps : List PySem.Str} {pos : Pos} {a b : Expr} {r1 r2 : Ar} {j : Nat} (C : Cok X G W k) (hj : j + 1 ≤ k) (F : FnOk X.prog X.w X.K X.mg X.base (L2N.CX X.prog X.w) j f fd ps (spF G 2 fn)) (hb : Binds X.K fd ps []) (O : OwnCl X.K (G.ca c)) (Wd : Word X (G.ca c) f "__eq__")
    (h1 : TrR X G W a r1) (h2 : TrR X G W b r2) (hm : behindInMarks .Eq b = false) : TrE X G W (.Compare a [.Eq] [b] pos) (eEqO c fn r1 r2) := by
  obtain ⟨t1, p1, d1⟩ := h1
  obtain ⟨t2, p2, d2⟩ := h2
  have hK := C.hK
  exact ⟨_, pe_cmpR (op_eqO F hb (C.room.mono hj) Wd) p1 p2 hm, hK ▸ den_eqO (hK ▸ O) d1 d2⟩
theorem tr_neO (c : Nat) {fn : Fn} {f : Addr} {fd : FuncData} {ps : List PySem.Str} {pos : Pos} {a b : Expr} {r1 r2 : Ar} {j : Nat} (C : Cok X G W k) (hj : j + 1 ≤ k) (F : FnOk X.prog X.w X.K X.mg X.base (L2N.CX X.prog X.w) j f fd ps (spF G 2 fn)) (hb : Binds X.K fd ps []) (O : OwnCl X.K (G.ca c)) (Wd : Word X (G.ca c) f "__eq__")
    (hne : PySem.W.findIn X.K (.ref (G.ca c)) "__ne__" = some (some (.builtin "object.__ne__"))) (h1 : TrR X G W a r1) (h2 : TrR X G W b r2) (hm : behindInMarks .NotEq b = false) : TrE X G W (.Compare a [.NotEq] [b] pos) (eNeO c fn r1 r2) := by
  obtain ⟨t1, p1, d1⟩ := h1
  obtain ⟨t2, p2, d2⟩ := h2
  have hK := C.hK
  exact ⟨_, pe_cmpR (op_neO F hb (C.room.mono hj) Wd O hne) p1 p2 hm, hK ▸ den_neO (hK ▸ O) d1 d2⟩
/-! ### isinstance of an own class -/
theorem kit_own {K : PySem.W.Frag} {C : Addr} {n : String} (O : OwnCl K C) (h : n ∈ ["NoneType", "bool", "int", "str", "list", "tuple"]) : PySem.W.kitOne K (.type n) (.ref C) = some false := by
  unfold PySem.W.kitOne
  rw [if_neg (by simp)]
  unfold PySem.W.kitCls
  simp only
  rw [O.hs, O.ht, if_pos (by simp)]
  exact sub_nt h
theorem kit_self {K : PySem.W.Frag} {C : Addr} : PySem.W.kitOne K (.ref C) (.ref C) = some true := by
  unfold PySem.W.kitOne
  rw [if_pos (by simp)]
theorem tr_isO (c : Nat) {cn : PySem.Str} {e : Expr} {m : E} {p p2 pos : Pos} (C : Cok X G W k) (O : OwnCl X.K (G.ca c)) (h : TrE X G W e m) (hm : X.mg "isinstance" = none) (hg : X.mg cn = some (.ref (G.ca c))) (gi : Gl X "isinstance" := by rfl) (gl : Gl X cn := by rfl) (dcn : (cn == ("__debug__" : PySem.Str)) = false := by decide)
    (he : starEach [e, .Name cn p2] X.env = (false, eval e X.env) :: starEach [.Name cn p2] X.env := by rfl) (he2 : starEach [.Name cn p2] X.env = (false, eval (.Name cn p2) X.env) :: starEach [] X.env := by rfl) (hpl : (backTo pos (starEach [.Name cn p2] X.env)).any (·.1) = false := by rfl) :
    TrE X G W (.Call (.Name "isinstance" p) [e, .Name cn p2] [] pos) (eIsO c m) := by
  obtain ⟨u, q, d⟩ := h
  have hK := C.hK
  refine ⟨_, pe_callB call_isi gi hm (by decide +kernel) (pa_cons q (pa_cons (pe_glob (v := .ref (G.ca c)) gl hg rfl dcn) pa_nil he2) he) (by decide) (by decide) he hpl, fun F H σ S T Q st z => ?_⟩
  refine d.dat F H σ S T _ st (PR.bind z fun dd S1 y => ?_)
  intro v F1 H1 T1 s1 st1 r1
  have y : PR G W F H σ T (KE G F H σ T Q) (ofO (fIsO c dd) S1) := y
  have nt : ∀ n, dd.nm = some n → fIsO c dd = kz (.bl false) → ∃ x cv t u b, [v, V.ref (G.ca c)] = [x, cv] ∧ ClsV cv u ∧ TyX X.K H1 x t ∧ PySem.W.kitOne X.K t u = some b ∧ Q (.bl b) H1 := fun n hn hf => by
    rw [hf] at y
    have y : KE G F H σ T Q (.fz, .bl false) S1 := y
    exact ⟨v, .ref (G.ca c), .type n, .ref (G.ca c), false, rfl, .own _, hK ▸ tyx_of (r1.mono st1.sub) hn, kit_own O (nm_in hn), KE.val (y.re s1) st1 (.bl false)⟩
  cases dd with
  | ob c' ds =>
    by_cases z : c' = c
    · subst z
      have y : PR G W F H σ T (KE G F H σ T Q) (ofO (if c' = c' then kz (.bl true) else none) S1) := y
      rw [if_pos rfl] at y
      have y : KE G F H σ T Q (.fz, .bl true) S1 := y
      cases r1 with
      | ob hh hn _ => exact ⟨_, .ref (G.ca c'), .ref (G.ca c'), .ref (G.ca c'), true, rfl, .own _, ty_obj O (st1.sub _ _ hh), kit_self, KE.val (y.re s1) st1 (.bl true)⟩
    · have y : PR G W F H σ T (KE G F H σ T Q) (ofO (if c' = c then kz (.bl true) else none) S1) := y
      rw [if_neg z] at y
      exact y.elim
  | non => exact nt _ rfl rfl
  | bl b => exact nt _ rfl rfl
  | int i => exact nt _ rfl rfl
  | str x => exact nt _ rfl rfl
  | lst ds => exact nt _ rfl rfl
  | tup ds => exact nt _ rfl rfl
  | _ => exact y.elim
/-! ### str of a number, len of a range -/
theorem strI_rel (i : Int) : (PySem.Str.ofString (toString i)).cps.toList = strI i := by
  rw [PySem.Str.ofString_eq_toList]
  rfl
theorem cls_strI : ∃ r, CallR X (.type "str") r ∧ SN G r fStrI := by
  refine ⟨_, call_str_int, fun F H σ S T xs ds kd Q st rs e k => ?_⟩
  cases rs with
  | nil => simp [fStrI] at e
  | cons r1 r2 =>
    cases r2 with
    | cons _ _ => cases r1 <;> simp [fStrI] at e
    | nil =>
      cases r1 <;> simp only [fStrI, kz, reduceCtorEq] at e
      rename_i i
      split at e
      · rename_i hz
        cases e
        refine ⟨i, rfl, ?_, KE.val k st (strI_rel i ▸ .str _)⟩
        by_cases z : i.natAbs = 0
        · rw [z]; decide
        · have h1 := Nat.lt_of_lt_of_le hz (show (10 : Nat) ^ 30 ≤ 2 ^ 1920 by decide +kernel)
          exact (Nat.log2_lt z).mpr h1
      · cases e
theorem tr_strI {e : Expr} {ms : List E} {p pos : Pos} (hm : X.mg "str" = none) (ha : TrA X G W [e] ms) (hg : Gl X "str" := by rfl) (he : starEach [e] X.env = (false, eval e X.env) :: starEach [] X.env := by rfl) : TrE X G W (.Call (.Name "str" p) [e] [] pos) (eApp fStrI ms) := by
  obtain ⟨r, h1, h2⟩ := cls_strI (X := X) (G := G)
  exact tr_callT h1 h2 hm (by decide +kernel) ha hg (by decide) (by decide) he rfl
def rLenRg : R2 := fun x y H Q => ∃ i j, x = .int i ∧ y = .int j ∧ (-(10 ^ 15) < i ∧ i < 10 ^ 15 ∧ -(10 ^ 15) < j ∧ j < 10 ^ 15) ∧ Q (.int (if i < j then j - i else 0)) H
theorem s2_lenRg : S2 G rLenRg fLenRg := by
  intro F H σ S T x y dx dy kd Q st rx ry e k
  cases rx <;> cases ry <;> simp only [fLenRg, reduceCtorEq] at e
  split at e
  · rename_i i j z
    cases e
    exact ⟨i, j, rfl, rfl, by omega, KE.val k st (.int _)⟩
  · cases e
theorem tr_lenRg {a b : Expr} {ma mb : E} {p q pos pos2 : Pos} (ha : TrE X G W a ma) (hb : TrE X G W b mb) (hm : X.mg "len" = none) (hm2 : X.mg "range" = none) (hg : Gl X "len" := by rfl) (hg2 : Gl X "range" := by rfl) (na2 : starEach [a, b] X.env = (false, eval a X.env) :: starEach [b] X.env := by rfl) (nb2 : starEach [b] X.env = (false, eval b X.env) :: starEach [] X.env := by rfl)
    (hp2 : (backTo pos2 (starEach [b] X.env)).any (·.1) = false := by rfl) (na : starEach [.Call (.Name "range" q) [a, b] [] pos2] X.env = (false, eval (.Call (.Name "range" q) [a, b] [] pos2) X.env) :: starEach [] X.env := by rfl) : TrE X G W (.Call (.Name "len" p) [.Call (.Name "range" q) [a, b] [] pos2] [] pos) (eOp fLenRg ma mb) := by
  obtain ⟨ta, pa, da⟩ := ha
  obtain ⟨tb, pb, db⟩ := hb
  refine ⟨_, ⟨fun pins s σ H Q I h => ?_⟩, den_op (r := rLenRg) s2_lenRg da db⟩
  refine Call_ (ld_blt I hg hm (show bootBuiltins "len" = some (.builtin "len") from by decide +kernel) (PyProof.Rows.callWith_builtin1 (args_cons (thn (prg_2 hg2 hm2 pa pb na2 nb2 hp2 pins s σ H (fun i j H' => (-(10 ^ 15) < i ∧ i < 10 ^ 15 ∧ -(10 ^ 15) < j ∧ j < 10 ^ 15) ∧ Q (.int (if i < j then j - i else 0)) H') I h) fun x s1 ⟨r, i, j, t, u, v, H1, ex, hr, I1, ok, q⟩ => args_nil ?_) na) na) (by decide) (by decide))
  subst ex
  have hn : Builtin.Range.rangeSize i j 1 = ((j - i).toNat : Int) := rangeSize_nat i j
  have he : (if i < j then j - i else 0) = ((j - i).toNat : Int) := by split <;> omega
  exact call_len_range hr hn (by omega) ⟨.int _, H1, I1.tok _, ⟨_, rfl⟩, he ▸ q⟩
theorem tt_eqO (c : Nat) {fn : Fn} {f : Addr} {fd : FuncData} {ps : List PySem.Str} {pos : Pos} {a b : Expr} {r1 r2 : Ar} {j : Nat} (C : Cok X G W k) (hj : j + 1 ≤ k) (F : FnOk X.prog X.w X.K X.mg X.base (L2N.CX X.prog X.w) j f fd ps (spF G 2 fn)) (hb : Binds X.K fd ps []) (O : OwnCl X.K (G.ca c)) (Wd : Word X (G.ca c) f "__eq__")
    (h1 : TrR X G W a r1) (h2 : TrR X G W b r2) (hm : behindInMarks .Eq b = false) : TrT X G W (.Compare a [.Eq] [b] pos) (eBool (eEqO c fn r1 r2)) := by
  obtain ⟨t1, p1, d1⟩ := h1
  obtain ⟨t2, p2, d2⟩ := h2
  have hK := C.hK
  exact ⟨_, pt_cmpR (op_eqO F hb (C.room.mono hj) Wd) p1 p2 hm, den_test (hK ▸ den_eqO (hK ▸ O) d1 d2)⟩
theorem tt_neO (c : Nat) {fn : Fn} {f : Addr} {fd : FuncData} {ps : List PySem.Str} {pos : Pos} {a b : Expr} {r1 r2 : Ar} {j : Nat} (C : Cok X G W k) (hj : j + 1 ≤ k) (F : FnOk X.prog X.w X.K X.mg X.base (L2N.CX X.prog X.w) j f fd ps (spF G 2 fn)) (hb : Binds X.K fd ps []) (O : OwnCl X.K (G.ca c)) (Wd : Word X (G.ca c) f "__eq__")
    (hne : PySem.W.findIn X.K (.ref (G.ca c)) "__ne__" = some (some (.builtin "object.__ne__"))) (h1 : TrR X G W a r1) (h2 : TrR X G W b r2) (hm : behindInMarks .NotEq b = false) : TrT X G W (.Compare a [.NotEq] [b] pos) (eBool (eNeO c fn r1 r2)) := by
  obtain ⟨t1, p1, d1⟩ := h1
  obtain ⟨t2, p2, d2⟩ := h2
  have hK := C.hK
  exact ⟨_, pt_cmpR (op_neO F hb (C.room.mono hj) Wd O hne) p1 p2 hm, den_test (hK ▸ den_neO (hK ▸ O) d1 d2)⟩
/-! ### looked at by the head -/
def ownClB (K : PySem.W.Frag) (C : Addr) : Bool := decide (PySem.W.findIn K (.ref C) "__class__" = some (some (.builtin "object.__class__"))) && (decide (PySem.W.specialIn K (.builtin "object.__class__") "__get__" = some (some (.builtin "getset_descriptor.__get__"))) &&
  (decide (PySem.W.takesIn K (.builtin "object.__class__") = some true) && (decide (PySem.W.mroIn K C (.type "object") = some true) && ((PySem.W.clsIn K C).isSome && (decide (PySem.W.typeIn K (.ref C) = some (.type "type")) && decide (PySem.W.findIn K (.ref C) "__ne__" = some (some (.builtin "object.__ne__"))))))))
theorem ownClB_ok {K : PySem.W.Frag} {C : Addr} (c : L2.Cls K C) (h : ownClB K C = true) : OwnCl K C := by
  simp only [ownClB, Bool.and_eq_true, decide_eq_true_eq] at h
  obtain ⟨h1, h2, h3, h4, h5, h6, _⟩ := h
  exact ⟨c, h1, h2, h3, h4, h5, h6⟩
theorem ownClB_ne {K : PySem.W.Frag} {C : Addr} (h : ownClB K C = true) : PySem.W.findIn K (.ref C) "__ne__" = some (some (.builtin "object.__ne__")) := by
  simp only [ownClB, Bool.and_eq_true, decide_eq_true_eq] at h
  exact h.2.2.2.2.2.2
theorem word_of {f C : Addr} {m : PySem.Str} (h : L2.Meth X.K C m f) : Word X C f m := ⟨h.at_, h.fn⟩
end
end TB

/-! the mirrors of the functions, by their numbers; printed by gen3.py -/
namespace LW
open TB
/-- _law_draws -/
def mb_6 (Γ : Nat → Fn) : St := (sSeq (sSet 2 (eFr (eOp fMul (eCon (.int 15485863)) (eVar 1)))) (sSeq (sIf (eBool (eOp fLt (eVar 1) (eApp fLen [(eVar 0)]))) (sSet 2 (eOp fMod (eOp fIx (eVar 0) (eVar 1)) (eOp fMul (eOp fPow (eCon (.int 10)) (eCon (.int 60))) (eOp fPow (eCon (.int 10)) (eCon (.int 60)))))) (sIf (eBool (eOp fGt (eApp fLen [(eVar 0)]) (eCon (.int 0)))) (sSet 2 (eFr (eOp fAdd (eOp fMod (eOp fIx (eVar 0) (eOp fMod (eVar 1) (eApp fLen [(eVar 0)]))) (eOp fPow (eCon (.int 10)) (eCon (.int 15)))) (eOp fMul (eCon (.int 15485863)) (eVar 1))))) sNx)) (sRet (eApp fLst [(eOp fMul (eVar 2) (eApp fIntB [(eOp fGe (eVar 2) (eOp fPow (eCon (.int 10)) (eCon (.int 18))))])), (eOp fAdd (eCon (.int 1)) (eOp fMod (eOp fAdd (eOp fMul (eVar 2) (eCon (.int 69621))) (eOp fMul (eCon (.int 86028121)) (eOp fAdd (eVar 1) (eCon (.int 1))))) (eCon (.int 2147483646))))]))))
abbrev rf_6 (Γ : Nat → Fn) : Fn := runF 3 [] (mb_6 Γ)
/-- _law_draw -/
def mb_7 (Γ : Nat → Fn) : St := (sSeq (sIf (eBool (eOp fGt (eIxO 0 (eCon (.int 0))) (eCon (.int 0)))) (sSeq (sSet 2 (eOp fMod (eIxO 0 (eCon (.int 0))) (eVar 1))) (sSeq (sSetIx 0 (eCon (.int 0)) (eOp fDiv (eIxO 0 (eCon (.int 0))) (eVar 1))) (sRet (eVar 2)))) sNx) (sSeq (sSet 2 (eCon (.int 0))) (sSeq (sSet 3 (eCon (.int 1))) (sSeq (sWhile 64 (eBool (eOp fLt (eVar 3) (eVar 1))) (sSeq (sSetIx 0 (eCon (.int 1)) (eOp fMod (eOp fMul (eIxO 0 (eCon (.int 1))) (eCon (.int 69621))) (eCon (.int 2147483647)))) (sSeq (sSet 2 (eFr (eOp fAdd (eOp fMul (eVar 2) (eCon (.int 268435456))) (eOp fDiv (eOp fMod (eOp fMul (eIxO 0 (eCon (.int 1))) (eOp fAdd (eOp fDiv (eIxO 0 (eCon (.int 1))) (eCon (.int 128))) (eCon (.int 3)))) (eCon (.int 2147483629))) (eCon (.int 8)))))) (sSet 3 (eFr (eOp fMul (eVar 3) (eCon (.int 268435456)))))))) (sRet (eOp fMod (eVar 2) (eVar 1)))))))
abbrev rf_7 (Γ : Nat → Fn) : Fn := runF 4 [0] (mb_7 Γ)
/-- Span.__init__ -/
def mb_81 (Γ : Nat → Fn) : St := (sSeq (pFld 0 [] 1 0 (eVar 1)) (pFld 0 [] 1 1 (eVar 2)))
abbrev rf_81 (Γ : Nat → Fn) : Fn := runF 3 [0] (mb_81 Γ)
/-- Span.__len__ -/
def mb_82 (Γ : Nat → Fn) : St := (sRet (eOp fLenRg (eUn (fFld 1 0) (eVar 0)) (eOp fAdd (eUn (fFld 1 1) (eVar 0)) (eCon (.int 1)))))
abbrev rf_82 (Γ : Nat → Fn) : Fn := runF 1 [] (mb_82 Γ)
/-- Span.__eq__ -/
def mb_83 (Γ : Nat → Fn) : St := (sRet (eAnd (eIsO 1 (eVar 1)) (eAnd (eOp fEq (eUn (fFld 1 0) (eVar 0)) (eUn (fFld 1 0) (eVar 1))) (eOp fEq (eUn (fFld 1 1) (eVar 0)) (eUn (fFld 1 1) (eVar 1))))))
abbrev rf_83 (Γ : Nat → Fn) : Fn := runF 2 [] (mb_83 Γ)
/-- Span.__str__ -/
def mb_84 (Γ : Nat → Fn) : St := (sSeq (sSet 1 (eFr (eApp fLst [(eApp fStrI [(eUn (fFld 1 0) (eVar 0))])]))) (sSeq (sIf (eBool (eOp fGt (eUn (fFld 1 1) (eVar 0)) (eUn (fFld 1 0) (eVar 0)))) (sSet 1 (eFr (eOp fAdd (eVar 1) (eApp fLst [(eApp fStrI [(eUn (fFld 1 1) (eVar 0))])])))) sNx) (sRet (eJoin (eCon (.str [45])) (eVar 1)))))
abbrev rf_84 (Γ : Nat → Fn) : Fn := runF 2 [] (mb_84 Γ)
/-- Span.holds -/
def mb_223 (Γ : Nat → Fn) : St := (sRet (eChain fLe fLe (eUn (fFld 1 0) (eVar 0)) (eVar 1) (eUn (fFld 1 1) (eVar 0))))
abbrev rf_223 (Γ : Nat → Fn) : Fn := runF 2 [] (mb_223 Γ)
/-- law -/
def mb_224 (Γ : Nat → Fn) : St := (sSeq (sFor (itRange1 (eApp fMax2 [(eCon (.int 1)), (eApp fMin2 [(eCon (.int 30)), (eApp fLen [(eVar 0)])])])) (.nm 1) (sSeq (sSet 2 (eCall (Γ 6) [.v (eVar 0), .v (eVar 1)])) (sSeq (sSet 3 (eFr (eOp fAdd (eCon (.int 1)) (eCall (Γ 7) [.b 2, .v (eOp fIx (eApp fLst [(eCon (.int 9)), (eOp fPow (eCon (.int 10)) (eCon (.int 5)))]) (eCall (Γ 7) [.b 2, .v (eCon (.int 2))]))])))) (sSeq (sSet 4 (eApp fMin2 [(eOp fPow (eCon (.int 10)) (eCon (.int 6))), (eOp fAdd (eVar 3) (eOp fIx (eApp fLst [(eCon (.int 0)), (eCall (Γ 7) [.b 2, .v (eCon (.int 9))]), (eCall (Γ 7) [.b 2, .v (eOp fPow (eCon (.int 10)) (eCon (.int 5)))])]) (eCall (Γ 7) [.b 2, .v (eCon (.int 3))])))])) (sSeq (sSet 5 (eFr (eMake 1 (Γ 81) [.v (eVar 3), .v (eVar 4)]))) (sSeq (sSet 6 (eFr (eApp fLst [(eApp fTup [(eVar 3), (eVar 4)]), (eApp fTup [(eOp fAdd (eVar 3) (eCon (.int 1))), (eOp fAdd (eVar 4) (eCon (.int 1)))]), (eApp fTup [(eCon (.int 1)), (eVar 4)]), (eApp fTup [(eVar 3), (eOp fAdd (eVar 4) (eCon (.int 1)))]), (eApp fTup [(eVar 4), (eVar 4)])]))) (sSeq (sFor (itSeq (eVar 6)) (.tp [(.nm 7), (.nm 8)]) (sSeq (sSet 11 (eFr (eMake 1 (Γ 81) [.v (eVar 7), .v (eVar 8)]))) (sSeq (sSet 12 (eOp fEq (eApp fTup [(eVar 7), (eVar 8)]) (eApp fTup [(eVar 3), (eVar 4)]))) (sIf (tOr (eBool (eOp fNe (eEqO 1 (Γ 83) (.v (eVar 5)) (.v (eVar 11))) (eVar 12))) (tOr (eBool (eOp fEq (eNeO 1 (Γ 83) (.v (eVar 5)) (.v (eVar 11))) (eVar 12))) (eBool (eOp fNe (eEqO 1 (Γ 83) (.v (eVar 11)) (.v (eVar 5))) (eVar 12))))) (sRet (eCon (.bl false))) sNx)))) (sSeq (sIf (tOr (eBool (eOp fNe (eLenO 1 (Γ 82) (.v (eVar 5))) (eOp fAdd (eOp fSub (eVar 4) (eVar 3)) (eCon (.int 1))))) (eBool (eOp fNe (eApp fTup [(eUn (fFld 1 0) (eVar 5)), (eUn (fFld 1 1) (eVar 5))]) (eApp fTup [(eVar 3), (eVar 4)])))) (sRet (eCon (.bl false))) sNx) (sSeq (sIf (eBool (eOp fNe (eStrO 1 (Γ 84) (.v (eVar 5))) (eIf (eBool (eOp fEq (eVar 3) (eVar 4))) (eApp fStrI [(eVar 3)]) (eOp fAdd (eOp fAdd (eApp fStrI [(eVar 3)]) (eCon (.str [45]))) (eApp fStrI [(eVar 4)]))))) (sRet (eCon (.bl false))) sNx) (sSeq (sFor (itSeq (eApp fLst [(eVar 3), (eOp fSub (eVar 3) (eCon (.int 1))), (eVar 4), (eOp fAdd (eVar 4) (eCon (.int 1))), (eCon (.int 0)), (eUn fNeg (eCon (.int 5))), (eOp fPow (eCon (.int 10)) (eCon (.int 19))), (eOp fDiv (eOp fAdd (eVar 3) (eVar 4)) (eCon (.int 2)))])) (.nm 9) (sSeq (sSet 13 (eMeth 1 (Γ 223) (.v (eVar 5)) [.v (eVar 9)] [])) (sIf (tOr (tNot (eBool (eIsi .bool (eVar 13)))) (eBool (eOp fNe (eVar 13) (eAnd (eOp fLe (eVar 3) (eVar 9)) (eOp fLe (eVar 9) (eVar 4)))))) (sRet (eCon (.bl false))) sNx))) (sFor (itSeq (eApp fLst [(eApp fTup [(eVar 3), (eVar 4)]), (eApp fLst [(eVar 3), (eVar 4)]), (eStrO 1 (Γ 84) (.v (eVar 5))), (eVar 3), (eCon .non), (eOp fAdd (eOp fSub (eVar 4) (eVar 3)) (eCon (.int 1)))])) (.nm 10) (sIf (tOr (eBool (eEqO 1 (Γ 83) (.v (eVar 5)) (.v (eVar 10)))) (tNot (eBool (eNeO 1 (Γ 83) (.v (eVar 5)) (.v (eVar 10)))))) (sRet (eCon (.bl false))) sNx)))))))))))) (sRet (eCon (.bl true))))
abbrev rf_224 (Γ : Nat → Fn) : Fn := runF 14 [] (mb_224 Γ)
end LW

/-! k31: which function is which; printed by gen3.py -/
namespace LW
open TB
def bodyF (Γ : Nat → Fn) : Nat → Fn
  | 6 => rf_6 Γ
  | 7 => rf_7 Γ
  | 81 => rf_81 Γ
  | 82 => rf_82 Γ
  | 83 => rf_83 Γ
  | 84 => rf_84 Γ
  | 223 => rf_223 Γ
  | 224 => rf_224 Γ
  | _ => fun _ => .bad
def callF (k : Nat) : Nat → Fn := Nat.rec (fun _ _ => .bad) (fun _ Γ => bodyF Γ) k
end LW

/-! TbP: the mirror evaluated; the laws' draws -/
namespace TB
section
variable {α β : Type}
@[simp] theorem bind_ap (m : M α) (f : α → M β) (S : List Slot) : M.bind m f S = (m S).bind f := rfl
@[simp] theorem rbind_ok (a : α) (S : List Slot) (f : α → M β) : (R.ok a S).bind f = f a S := rfl
@[simp] theorem rbind_bad (f : α → M β) : (R.bad : R α).bind f = .bad := rfl
@[simp] theorem rbind_exc (x : Xc) (S : List Slot) (f : α → M β) : (R.exc x S : R α).bind f = .exc x S := rfl
@[simp] theorem pure_ap (a : α) (S : List Slot) : M.pure a S = R.ok a S := rfl
@[simp] theorem ite_ap (c : Prop) [Decidable c] (f g : M α) (S : List Slot) : (if c then f else g) S = if c then f S else g S := by split <;> rfl
@[simp] theorem rbind_ite (c : Prop) [Decidable c] (x y : R α) (f : α → M β) : (if c then x else y).bind f = if c then x.bind f else y.bind f := by split <;> rfl
end
@[simp] theorem eVar_ap (i : Nat) (S : List Slot) : eVar i S = match S[i]? with | some (some (.fz, d)) => .ok (.fz, d) S | _ => .bad := rfl
@[simp] theorem eMv_ap (i : Nat) (S : List Slot) : eMv i S = match S[i]? with | some (some kd) => .ok kd (S.set i none) | _ => .bad := rfl
@[simp] theorem eFzV_ap (i : Nat) (S : List Slot) : eFzV i S = match S[i]? with | some (some (_, d)) => .ok (.fz, d) (S.set i (some (.fz, d))) | _ => .bad := rfl
@[simp] theorem eCon_ap (d : D) (S : List Slot) : eCon d S = .ok (.fz, d) S := rfl
@[simp] theorem eDat_ap (e : E) (S : List Slot) : eDat e S = (e S).bind fun kd => M.pure kd.2 := rfl
@[simp] theorem eAll_nil (S : List Slot) : eAll [] S = .ok [] S := rfl
@[simp] theorem eAll_cons (e : E) (es : List E) (S : List Slot) : eAll (e :: es) S = (eDat e S).bind fun d S1 => (eAll es S1).bind fun ds S2 => .ok (d :: ds) S2 := rfl
@[simp] theorem ofO_some (kd : KD) (S : List Slot) : ofO (some kd) S = .ok kd S := rfl
@[simp] theorem ofO_none (S : List Slot) : ofO none S = .bad := rfl
@[simp] theorem ofO_ite (c : Prop) [Decidable c] (a b : Option KD) (S : List Slot) : ofO (if c then a else b) S = if c then ofO a S else ofO b S := by split <;> rfl
@[simp] theorem eFr_ap (e : E) (S : List Slot) : eFr e S = (e S).bind fun kd S1 => .ok (.fz, kd.2) S1 := rfl
@[simp] theorem eApp_ap (f : List D → Option KD) (es : List E) (S : List Slot) : eApp f es S = (eAll es S).bind fun ds S1 => ofO (f ds) S1 := rfl
@[simp] theorem eOp_ap (f : D → D → Option KD) (a b : E) (S : List Slot) : eOp f a b S = (eDat a S).bind fun x S1 => (eDat b S1).bind fun y S2 => ofO (f x y) S2 := rfl
@[simp] theorem eUn_ap (f : D → Option KD) (a : E) (S : List Slot) : eUn f a S = (eDat a S).bind fun x S1 => ofO (f x) S1 := rfl
@[simp] theorem eIsi_ap (t : Ty) (a : E) (S : List Slot) : eIsi t a S = (eDat a S).bind fun x S1 => ofO (fIsi t x) S1 := rfl
@[simp] theorem eBool_ap (e : E) (S : List Slot) : eBool e S = (e S).bind fun kd S1 => (match kd.2 with | .bl b => (M.pure b : M Bool) | _ => fun _ => .bad) S1 := rfl
@[simp] theorem eAnd_ap (a b : E) (S : List Slot) : eAnd a b S = (eBool a S).bind fun c S1 => if c = true then b S1 else .ok (.fz, .bl false) S1 := by
  show (eBool a S).bind (fun c => if c = true then b else M.pure (.fz, .bl false)) = _
  congr 1; funext c S1; split <;> rfl
@[simp] theorem eOr_ap (a b : E) (S : List Slot) : eOr a b S = (eBool a S).bind fun c S1 => if c = true then .ok (.fz, .bl true) S1 else b S1 := by
  show (eBool a S).bind (fun c => if c = true then M.pure (.fz, .bl true) else b) = _
  congr 1; funext c S1; split <;> rfl
@[simp] theorem eNot_ap (a : E) (S : List Slot) : eNot a S = (eBool a S).bind fun c S1 => .ok (.fz, .bl (!c)) S1 := rfl
@[simp] theorem tAnd_ap (a b : T) (S : List Slot) : tAnd a b S = (a S).bind fun c S1 => if c = true then b S1 else .ok false S1 := by
  show (a S).bind (fun c => if c = true then b else M.pure false) = _
  congr 1; funext c S1; split <;> rfl
@[simp] theorem tOr_ap (a b : T) (S : List Slot) : tOr a b S = (a S).bind fun c S1 => if c = true then .ok true S1 else b S1 := by
  show (a S).bind (fun c => if c = true then M.pure true else b) = _
  congr 1; funext c S1; split <;> rfl
@[simp] theorem tNot_ap (a : T) (S : List Slot) : tNot a S = (a S).bind fun c S1 => .ok (!c) S1 := rfl
@[simp] theorem tTrue_ap (S : List Slot) : tTrue S = .ok true S := rfl
@[simp] theorem eIf_ap (c : T) (a b : E) (S : List Slot) : eIf c a b S = (c S).bind fun x S1 => if x = true then a S1 else b S1 := by
  show (c S).bind (fun x => if x = true then a else b) = _
  congr 1; funext c S1; split <;> rfl
@[simp] theorem eChain_ap (f g : D → D → Option KD) (a b c : E) (S : List Slot) : eChain f g a b c S = (eDat a S).bind fun x S1 => (eDat b S1).bind fun y S2 => chain2 g c y (f x y) S2 := rfl
@[simp] theorem chain2_ap (g : D → D → Option KD) (c : E) (y : D) (b : Bool) (S : List Slot) : chain2 g c y (some (.fz, .bl b)) S = if b = true then (eDat c S).bind fun z S1 => ofO (g y z) S1 else .ok (.fz, .bl false) S := by
  show (if b = true then M.bind (eDat c) (fun z => ofO (g y z)) else M.pure (.fz, .bl false)) S = _
  split <;> rfl
@[simp] theorem ePeek_ap (e : E) (S : List Slot) : ePeek e S = match e (S.map frz) with | .ok (_, d) _ => (if d.flat = true then .ok (.fz, d) S else .bad) | _ => .bad := rfl
@[simp] theorem tPeek_ap (c : T) (S : List Slot) : tPeek c S = match c (S.map frz) with | .ok b _ => .ok b S | _ => .bad := rfl
@[simp] theorem ePeekL_ap (e : E) (S : List Slot) : ePeekL e S = match e (S.map frz) with | .ok (.li .fz, .lst ds) _ => (if ds.all D.flat = true then .ok (.li .fz, .lst ds) S else .bad) | _ => .bad := rfl
@[simp] theorem sNx_ap (S : List Slot) : sNx S = .ok .nx S := rfl
@[simp] theorem sSet_ap (i : Nat) (e : E) (S : List Slot) : sSet i e S = (e S).bind fun kd S1 => if i < S1.length then .ok .nx (S1.set i (some kd)) else .bad := rfl
@[simp] theorem sPut_ap (g : Tg) (e : E) (S : List Slot) : sPut g e S = (eDat e S).bind fun d S1 => match g.put d S1 with | some S' => .ok .nx S' | none => .bad := rfl
@[simp] theorem sSeq_ap (a b : St) (S : List Slot) : sSeq a b S = (a S).bind fun f S1 => (match f with | .nx => b | f => M.pure f) S1 := rfl
@[simp] theorem sRet_ap (e : E) (S : List Slot) : sRet e S = (e S).bind fun kd S1 => .ok (.rt kd) S1 := rfl
@[simp] theorem sDrop_ap (e : E) (S : List Slot) : sDrop e S = (e S).bind fun _ S1 => .ok .nx S1 := rfl
@[simp] theorem sIf_ap (c : T) (a b : St) (S : List Slot) : sIf c a b S = (c S).bind fun x S1 => if x = true then a S1 else b S1 := by
  show (c S).bind (fun x => if x = true then a else b) = _
  congr 1; funext c S1; split <;> rfl
@[simp] theorem sFor_ap (it : It) (g : Tg) (b : St) (S : List Slot) : sFor it g b S = (it S).bind fun ds S1 => loop g b ds S1 := rfl
@[simp] theorem itSeq_ap (e : E) (S : List Slot) : itSeq e S = (eDat e S).bind fun d S1 => (match itemsOf d with | some xs => (M.pure xs : It) | none => fun _ => .bad) S1 := rfl
@[simp] theorem itStr_ap (e : E) (S : List Slot) : itStr e S = (eDat e S).bind fun d S1 => (match d with | .str s => (M.pure (s.map fun c => D.str [c]) : It) | _ => fun _ => .bad) S1 := rfl
@[simp] theorem itRange1_ap (e : E) (S : List Slot) : itRange1 e S = (eDat e S).bind fun d S1 => (match d with | .int j => (if j.natAbs < limN then (M.pure (rangeL 0 j.toNat) : It) else fun _ => .bad) | _ => fun _ => .bad) S1 := rfl
@[simp] theorem itRange2_ap (a b : E) (S : List Slot) : itRange2 a b S = (eDat a S).bind fun x S1 => (eDat b S1).bind fun y S2 => (match x, y with | .int i, .int j => (if i.natAbs < limN ∧ j.natAbs < limN then (M.pure (rangeL i (j - i).toNat) : It) else fun _ => .bad) | _, _ => fun _ => .bad) S2 := rfl
@[simp] theorem hasL_ap (i : Nat) (S : List Slot) : hasL i S = match ownL S i with | some _ => .ok () S | none => .bad := rfl
@[simp] theorem hasK_ap (i : Nat) (S : List Slot) : hasK i S = match ownK S i with | some _ => .ok () S | none => .bad := rfl
@[simp] theorem sSetIx_ap (i : Nat) (k e : E) (S : List Slot) : sSetIx i k e S = (eDat e S).bind fun y S1 => (hasL i S1).bind fun _ S2 => (eDat k S2).bind fun x S3 => match ownL S3 i, x with
  | some xs, .int j => (match normIx xs.length j with | some n => .ok .nx (S3.set i (some (.li .fz, .lst (xs.set n y)))) | none => .bad)
  | _, _ => .bad := rfl
@[simp] theorem eIxO_ap (i : Nat) (k : E) (S : List Slot) : eIxO i k S = (hasL i S).bind fun _ S2 => (eDat k S2).bind fun x S3 => match ownL S3 i, x with
  | some xs, .int j => (match (normIx xs.length j).bind fun n => xs[n]? with | some d => .ok (.fz, d) S3 | none => .bad)
  | _, _ => .bad := rfl
@[simp] theorem eMth_ap (f : List D → List D → Option (D × List D)) (i : Nat) (es : List E) (S : List Slot) : eMth f i es S = (hasL i S).bind fun _ S2 => (eAll es S2).bind fun ds S3 => match ownL S3 i with
  | some xs => (match f xs ds with | some (r, ys) => .ok (.fz, r) (S3.set i (some (.li .fz, .lst ys))) | none => .bad)
  | none => .bad := rfl
@[simp] theorem sDput_ap (i : Nat) (k e : E) (S : List Slot) : sDput i k e S = (eDat e S).bind fun y S1 => (hasK i S1).bind fun _ S2 => (eDat k S2).bind fun x S3 => match ownK S3 i with
  | some kvs => (if isKey x = true ∧ kvs.length < sizeMax then .ok .nx (S3.set i (some (.dK .fz, .dic (putD kvs x y)))) else .bad)
  | none => .bad := rfl
@[simp] theorem eDnew_ap (S : List Slot) : eDnew S = .ok (.dK .fz, .dic []) S := rfl
@[simp] theorem eOpt_none (S : List Slot) : eOpt none S = .ok none S := rfl
@[simp] theorem eOpt_some (e : E) (S : List Slot) : eOpt (some e) S = (eDat e S).bind fun d S1 => (match d with | .int i => (M.pure (some i) : M (Option Int)) | _ => fun _ => .bad) S1 := rfl
@[simp] theorem eSl_ap (a : E) (lo hi : Option E) (S : List Slot) : eSl a lo hi S = (eDat a S).bind fun x S1 => (eOpt lo S1).bind fun l S2 => (eOpt hi S2).bind fun h S3 => ofO (fSl x l h) S3 := rfl
@[simp] theorem eSlO_ap (i : Nat) (lo hi : Option E) (S : List Slot) : eSlO i lo hi S = (hasL i S).bind fun _ S1 => (eOpt lo S1).bind fun l S2 => (eOpt hi S2).bind fun h S3 => match ownL S3 i with
  | some xs => .ok (.li .fz, .lst (cutL xs l h)) S3
  | none => .bad := rfl
@[simp] theorem eJoin_ap (a b : E) (S : List Slot) : eJoin a b S = (eDat a S).bind fun x S1 => (match x with | .str s => M.bind (eDat b) fun y => ofO (fJoin s y) | _ => fun _ => .bad) S1 := rfl
@[simp] theorem eLRg1_ap (a : E) (S : List Slot) : eLRg1 a S = (eDat a S).bind fun d S1 => (match d with | .int j => (if j.natAbs ≤ sizeMax then (M.pure (.li .fz, .lst (rangeL 0 j.toNat)) : E) else fun _ => .bad) | _ => fun _ => .bad) S1 := rfl
theorem eCall_ap (F : Fn) (as : List Ar) (S : List Slot) : eCall F as S = (arEv as S).bind fun vs S1 => match arIn vs S1 with
  | none => .bad
  | some (ks, S1) => (match F ks with
    | .ret r os => (match arOut vs os S1 with | some S2 => .ok r S2 | none => .bad)
    | .exc x os => (match arOut vs os S1 with | some S2 => .exc x S2 | none => .bad)
    | .bad => .bad) := rfl
theorem arEv_nil (S : List Slot) : arEv [] S = .ok [] S := rfl
theorem arEv_v (e : E) (as : List Ar) (S : List Slot) : arEv (.v e :: as) S = (eDat e S).bind fun d S1 => (arEv as S1).bind fun r S2 => .ok (.v d :: r) S2 := rfl
theorem arEv_b (i : Nat) (as : List Ar) (S : List Slot) : arEv (.b i :: as) S = match S[i]? with | some (some _) => (arEv as S).bind (fun r S2 => .ok (.b i :: r) S2) | _ => .bad := rfl
/-! ### what comes, as a promise -/
def okP {α : Type} (r : R α) (Q : α → List Slot → Prop) : Prop := match r with
  | .ok a S => Q a S
  | _ => False
section
variable {α β : Type}
theorem okP_congr {r r' : R α} {Q : α → List Slot → Prop} (h : r = r') : okP r Q = okP r' Q := by rw [h]
theorem rbind_congr {r r' : R α} {f : α → M β} (h : r = r') : r.bind f = r'.bind f := by rw [h]
@[simp] theorem okP_ok (a : α) (S : List Slot) (Q : α → List Slot → Prop) : okP (.ok a S) Q = Q a S := rfl
@[simp] theorem okP_bad (Q : α → List Slot → Prop) : okP (.bad) Q = False := rfl
@[simp] theorem okP_bind (r : R α) (f : α → M β) (Q : β → List Slot → Prop) : okP (r.bind f) Q = okP r (fun a S => okP (f a S) Q) := by cases r <;> rfl
theorem okP.of {r : R α} {a : α} {S : List Slot} {Q : α → List Slot → Prop} (e : r = .ok a S) (h : Q a S) : okP r Q := by rw [e]; exact h
theorem okP.mono {r : R α} {Q Q' : α → List Slot → Prop} (h : okP r Q) (i : ∀ a S, Q a S → Q' a S) : okP r Q' := by
  cases r with
  | ok a S => exact i a S h
  | exc x S => exact h
  | bad => exact h
theorem okP.ex {r : R α} {Q : α → List Slot → Prop} (h : okP r Q) : ∃ a S, r = .ok a S ∧ Q a S := by
  cases r with
  | ok a S => exact ⟨a, S, rfl, h⟩
  | exc x S => exact h.elim
  | bad => exact h.elim
end
def fin (as : List KD) (Q : KD → List KD → Prop) (f : Fl) (S : List Slot) : Prop := match f with
  | .rt r => (match outsOf as S with | some o => Q r o | none => False)
  | .nx => (match outsOf as S with | some o => Q (.fz, .non) o | none => False)
  | _ => False
@[simp] theorem fin_rt (as : List KD) (Q : KD → List KD → Prop) (r : KD) (S : List Slot) : fin as Q (.rt r) S = (match outsOf as S with | some o => Q r o | none => False) := rfl
@[simp] theorem fin_nx (as : List KD) (Q : KD → List KD → Prop) (S : List Slot) : fin as Q .nx S = (match outsOf as S with | some o => Q (.fz, .non) o | none => False) := rfl
theorem runF_eq (n : Nat) (pk : List Nat) (body : St) (as : List KD) : runF n pk body as = if pinned pk 0 as = true then (match body (as.map some ++ List.replicate (n - as.length) none) with
    | .ok (.rt r) S => frOf as r S
    | .ok .nx S => frOf as (.fz, .non) S
    | .exc x S => (match outsOf as S with | some o => .exc x o | none => .bad)
    | _ => .bad) else .bad := rfl
/-- a function's promise -/
def FnP (F : Fn) (as : List KD) (Q : KD → List KD → Prop) : Prop := ∃ r o, F as = .ret r o ∧ Q r o
theorem runF_wp {n : Nat} {pk : List Nat} {body : St} {as : List KD} {Q : KD → List KD → Prop} (hp : pinned pk 0 as = true) (h : okP (body (as.map some ++ List.replicate (n - as.length) none)) (fin as Q)) : FnP (runF n pk body) as Q := by
  obtain ⟨f, S, e, h⟩ := h.ex
  unfold FnP
  rw [runF_eq, if_pos hp, e]
  cases f with
  | rt r =>
    show ∃ r' o, frOf as r S = .ret r' o ∧ Q r' o
    unfold frOf
    have h : (match outsOf as S with | some o => Q r o | none => False) := h
    cases e2 : outsOf as S with
    | none => rw [e2] at h; exact h.elim
    | some o => rw [e2] at h; exact ⟨r, o, rfl, h⟩
  | nx =>
    show ∃ r' o, frOf as (.fz, .non) S = .ret r' o ∧ Q r' o
    unfold frOf
    have h : (match outsOf as S with | some o => Q (.fz, .non) o | none => False) := h
    cases e2 : outsOf as S with
    | none => rw [e2] at h; exact h.elim
    | some o => rw [e2] at h; exact ⟨_, o, rfl, h⟩
  | bk => exact h.elim
  | ct => exact h.elim
theorem call_wp {F : Fn} {as : List Ar} {S : List Slot} {Q : KD → List Slot → Prop} (h : okP (arEv as S) fun vs S1 => match arIn vs S1 with
    | some (ks, S2) => FnP F ks fun r os => (match arOut vs os S2 with | some S3 => Q r S3 | none => False)
    | none => False) : okP (eCall F as S) Q := by
  rw [eCall_ap, okP_bind]
  refine h.mono fun vs S1 h => ?_
  cases e : arIn vs S1 with
  | none => rw [e] at h; exact h.elim
  | some q =>
    obtain ⟨ks, S2⟩ := q
    rw [e] at h
    obtain ⟨r, os, e2, h⟩ := h
    have h : (match arOut vs os S2 with | some S3 => Q r S3 | none => False) := h
    simp only [e2]
    cases e3 : arOut vs os S2 with
    | none => rw [e3] at h; exact h.elim
    | some S3 => rw [e3] at h; exact h
theorem runF_ret {n : Nat} {pk : List Nat} {body : St} {as : List KD} {r : KD} {S : List Slot} {o : List KD} (hp : pinned pk 0 as = true) (hb : body (as.map some ++ List.replicate (n - as.length) none) = .ok (.rt r) S) (ho : outsOf as S = some o) : runF n pk body as = .ret r o := by
  unfold runF
  rw [if_pos hp, hb]
  show frOf as r S = _
  unfold frOf
  rw [ho]
/-- a while by an invariant and a measure -/
theorem while_inv {c : T} {b : St} (I : Nat → List Slot → Prop) (h : ∀ m S, I m S → c S = .ok false S ∨ (c S = .ok true S ∧ m ≠ 0 ∧ ∃ S', b S = .ok .nx S' ∧ I (m - 1) S')) :
    ∀ n m S, m < n → I m S → ∃ m' S', sWhile n c b S = .ok .nx S' ∧ I m' S' ∧ c S' = .ok false S'
  | 0, _, _, l, _ => absurd l (Nat.not_lt_zero _)
  | n + 1, m, S, l, i => by
    unfold sWhile
    rcases h m S i with e | ⟨e, hm, S', e2, i2⟩
    · exact ⟨m, S, by rw [bind_ap, e]; rfl, i, e⟩
    · obtain ⟨m', S2, e3, i3, e4⟩ := while_inv I h n (m - 1) S' (by omega) i2
      refine ⟨m', S2, ?_, i3, e4⟩
      rw [bind_ap, e, rbind_ok, if_pos rfl, bind_ap, e2, rbind_ok]
      exact e3
/-! ### draws -/
def dr (a b : Int) : KD := (.li .fz, .lst [.int a, .int b])
def DI (kd : KD) : Prop := ∃ a b, kd = dr a b ∧ 0 ≤ a ∧ a < 1000000000000000000000000000000000000000000000000000000000000000000000000000000000000000000000000000000000000000000000000 ∧ 0 ≤ b ∧ b < 2147483648
def DrawOk (F : Fn) : Prop := ∀ kd m, DI kd → 1 ≤ m → m < 1000000000000000000000000000000000000000000000000000000000000 → ∃ r kd', F [kd, (.fz, .int m)] = .ret (.fz, .int r) [kd'] ∧ DI kd' ∧ 0 ≤ r ∧ r < m
def bDraw : St := (sSeq (sIf (eBool (eOp fGt (eIxO 0 (eCon (.int 0))) (eCon (.int 0)))) (sSeq (sSet 2 (eOp fMod (eIxO 0 (eCon (.int 0))) (eVar 1))) (sSeq (sSetIx 0 (eCon (.int 0)) (eOp fDiv (eIxO 0 (eCon (.int 0))) (eVar 1))) (sRet (eVar 2)))) sNx) (sSeq (sSet 2 (eCon (.int 0))) (sSeq (sSet 3 (eCon (.int 1))) (sSeq (sWhile 64 (eBool (eOp fLt (eVar 3) (eVar 1))) (sSeq (sSetIx 0 (eCon (.int 1)) (eOp fMod (eOp fMul (eIxO 0 (eCon (.int 1))) (eCon (.int 69621))) (eCon (.int 2147483647)))) (sSeq (sSet 2 (eFr (eOp fAdd (eOp fMul (eVar 2) (eCon (.int 268435456))) (eOp fDiv (eOp fMod (eOp fMul (eIxO 0 (eCon (.int 1))) (eOp fAdd (eOp fDiv (eIxO 0 (eCon (.int 1))) (eCon (.int 128))) (eCon (.int 3)))) (eCon (.int 2147483629))) (eCon (.int 8)))))) (sSet 3 (eFr (eOp fMul (eVar 3) (eCon (.int 268435456)))))))) (sRet (eOp fMod (eVar 2) (eVar 1)))))))
def wBody : St := (sSeq (sSetIx 0 (eCon (.int 1)) (eOp fMod (eOp fMul (eIxO 0 (eCon (.int 1))) (eCon (.int 69621))) (eCon (.int 2147483647)))) (sSeq (sSet 2 (eFr (eOp fAdd (eOp fMul (eVar 2) (eCon (.int 268435456))) (eOp fDiv (eOp fMod (eOp fMul (eIxO 0 (eCon (.int 1))) (eOp fAdd (eOp fDiv (eIxO 0 (eCon (.int 1))) (eCon (.int 128))) (eCon (.int 3)))) (eCon (.int 2147483629))) (eCon (.int 8)))))) (sSet 3 (eFr (eOp fMul (eVar 3) (eCon (.int 268435456)))))))
theorem draw_ok : DrawOk (runF 4 [0] bDraw) := by
  rintro _ m ⟨a, b, rfl, a0, a1, b0, b1⟩ m1 m2
  unfold dr
  by_cases ha : a > 0
  · have hm : small m := by show m.natAbs < _; omega
    refine ⟨a % m, dr (a / m) b, ?_, ⟨a / m, b, rfl, Int.ediv_nonneg a0 (by omega), Int.lt_of_le_of_lt (Int.ediv_le_self _ a0) a1, b0, b1⟩, Int.emod_nonneg _ (by omega), Int.emod_lt_of_pos _ (by omega)⟩
    have hm0 : 0 < m := by omega
    simp [bDraw, runF, pinned, Kd.isF, ownL, normIx, fGt, kz, ha, fMod, hm0, hm, fDiv, frOf, outsOf, dr]
  · obtain ⟨m', S', e1, ⟨f, w, b', rfl, h0, h1, h2, h3, h4⟩, _⟩ := while_inv (c := eBool (eOp fLt (eVar 3) (eVar 1))) (b := wBody)
      (fun j S => ∃ f w b', S = [some (dr a b'), some (.fz, .int m), some (.fz, .int f), some (.fz, .int w)] ∧ 0 ≤ b' ∧ b' < 2147483648 ∧ 0 ≤ f ∧ f < w * 1073741824 ∧ 1 ≤ w ∧ m ≤ w * 268435456 ^ j) (by
        rintro j S ⟨f, w, b', rfl, h0, h1, h2, h3, h4, h5⟩
        by_cases hw : w < m
        · right
          have hj : j ≠ 0 := by
            intro z; subst z
            simp at h5; omega
          refine ⟨by simp [fLt, kz, hw], hj, ?_⟩
          have q1 : 0 ≤ b' * 69621 % 2147483647 := Int.emod_nonneg _ (by decide)
          have q2 : b' * 69621 % 2147483647 < 2147483647 := Int.emod_lt_of_pos _ (by decide)
          generalize hb2 : b' * 69621 % 2147483647 = b2 at q1 q2
          have q3 : 0 ≤ b2 * (b2 / 128 + 3) % 2147483629 := Int.emod_nonneg _ (by decide)
          have q4 : b2 * (b2 / 128 + 3) % 2147483629 < 2147483629 := Int.emod_lt_of_pos _ (by decide)
          have s1 : small b' := by show b'.natAbs < _; omega
          have s2 : small b2 := by show b2.natAbs < _; omega
          have s3 : small (b2 / 128 + 3) := by show (b2 / 128 + 3).natAbs < _; omega
          have s4 : small f := by show f.natAbs < _; omega
          have s5 : small w := by show w.natAbs < _; omega
          refine ⟨_, by simp [wBody, ownL, dr, normIx, fMul, fMod, kz, s1, s2, s3, s4, s5, fAdd, fDiv, hb2], f * 268435456 + b2 * (b2 / 128 + 3) % 2147483629 / 8, w * 268435456, b2, rfl, q1, by omega, by omega, by omega, by omega, ?_⟩
          have : (268435456 : Int) ^ j = 268435456 * 268435456 ^ (j - 1) := by
            conv => lhs; rw [show j = (j - 1) + 1 by omega, Int.pow_succ]
            exact Int.mul_comm _ _
          rw [this, ← Int.mul_assoc] at h5
          exact h5
        · left
          simp [fLt, kz, hw]) 64 8 [some (dr a b), some (.fz, .int m), some (.fz, .int 0), some (.fz, .int 1)] (by omega) ⟨0, 1, b, rfl, b0, b1, by omega, by omega, by omega, by omega⟩
    have hm0 : 0 < m := by omega
    refine ⟨f % m, dr a b', ?_, ⟨a, b', rfl, a0, a1, h0, h1⟩, Int.emod_nonneg _ (by omega), Int.emod_lt_of_pos _ hm0⟩
    have e2 : bDraw [some (dr a b), some (.fz, .int m), none, none] = .ok (.rt (.fz, .int (f % m))) [some (dr a b'), some (.fz, .int m), some (.fz, .int f), some (.fz, .int w)] := by
      unfold dr at e1 ⊢
      unfold wBody at e1
      simp [bDraw, ownL, normIx, fGt, kz, ha, e1, fMod, hm0]
    exact runF_ret (as := [dr a b, (.fz, .int m)]) rfl e2 rfl
/-- a draw -/
theorem draw_wp {F : Fn} (hF : DrawOk F) {S : List Slot} {i : Nat} {kd0 : KD} {e : E} {Q : KD → List Slot → Prop} (h0 : S[i]? = some (some kd0))
    (he : okP (eDat e S) fun d S1 => match d with
      | .int m => 1 ≤ m ∧ m < 1000000000000000000000000000000000000000000000000000000000000 ∧ (match S1[i]? with | some (some kd) => DI kd ∧ ∀ (r : Int) (kd' : KD), DI kd' → 0 ≤ r → r < m → Q (.fz, .int r) (S1.set i (some kd')) | _ => False)
      | _ => False) : okP (eCall F [.b i, .v e] S) Q := by
  refine call_wp ?_
  rw [arEv_b, h0]
  simp only [okP_bind]
  rw [arEv_v, okP_bind]
  refine he.mono fun d S1 h => ?_
  cases d with
  | int m =>
    obtain ⟨m1, m2, h⟩ := h
    rw [arEv_nil]
    cases e1 : S1[i]? with
    | none => rw [e1] at h; exact h.elim
    | some s =>
      cases s with
      | none => rw [e1] at h; exact h.elim
      | some kd =>
        rw [e1] at h
        obtain ⟨hd, h⟩ := h
        obtain ⟨r, kd', e2, d2, r0, r1⟩ := hF kd m hd m1 m2
        obtain ⟨a, b, rfl, _⟩ := hd
        obtain ⟨a', b', rfl, hh⟩ := id d2
        have h := h r (dr a' b') ⟨a', b', rfl, hh⟩ r0 r1
        rw [rbind_ok, okP_ok, okP_ok]
        have e3 : arIn [.b i, .v (.int m)] S1 = some ([dr a b, (.fz, .int m)], S1.set i none) := by
          simp [arIn, e1, dr, Kd.isF]
        rw [e3]
        refine ⟨_, _, e2, ?_⟩
        have e4 : arOut [.b i, .v (.int m)] [dr a' b'] (S1.set i none) = some (S1.set i (some (dr a' b'))) := by
          simp [arOut]
        simp only [e4]
        exact h
  | _ => exact h.elim
end TB

/-! TbP2: comprehensions and loops evaluated -/
namespace TB
theorem set_self {S : List Slot} {v : Nat} (hv : v < S.length) (h : S[v]? = some s) : S.set v s = S := by
  apply List.ext_getElem?
  intro j
  by_cases q : v = j
  · subst q; rw [List.getElem?_set_self hv, h]
  · rw [List.getElem?_set_ne q]
theorem cLoop_pure {S : List Slot} {v : Nat} {c : T} {e : E} {p : D → Bool} {f : D → D} (hv : v < S.length) : ∀ (ds acc : List D),
    (∀ d ∈ ds, c (S.set v (some (.fz, d))) = .ok (p d) (S.set v (some (.fz, d)))) → (∀ d ∈ ds, p d = true → ∃ k, e (S.set v (some (.fz, d))) = .ok (k, f d) (S.set v (some (.fz, d)))) → acc.length + ds.length ≤ sizeMax →
    cLoop (.nm v) [v] c e ds acc (S.set v none) = .ok (acc ++ (ds.filter p).map f) (S.set v none)
  | [], acc, _, _, _ => by simp [cLoop, M.pure]
  | d :: ds, acc, hc, he, hl => by
    unfold cLoop
    have h1 : Tg.put (.nm v) d (S.set v none) = some (S.set v (some (.fz, d))) := by
      unfold Tg.put
      rw [if_pos (by rw [List.length_set]; exact hv), List.set_set]
    have h2 : ∀ S' : List Slot, wipeS S' [v] = S'.set v none := fun _ => rfl
    have hl2 : acc.length + ds.length + 1 ≤ sizeMax := by simpa [Nat.add_assoc] using hl
    rw [h1]
    show R.bind (c (S.set v (some (.fz, d)))) _ = _
    rw [hc d List.mem_cons_self, rbind_ok]
    cases hp : p d with
    | false =>
      show cLoop (.nm v) [v] c e ds acc (wipeS (S.set v (some (.fz, d))) [v]) = _
      rw [h2, List.set_set, cLoop_pure hv ds acc (fun x hx => hc x (List.mem_cons_of_mem _ hx)) (fun x hx => he x (List.mem_cons_of_mem _ hx)) (by omega)]
      simp [hp]
    | true =>
      obtain ⟨k, hk⟩ := he d List.mem_cons_self hp
      show R.bind (eDat e (S.set v (some (.fz, d)))) _ = _
      rw [eDat_ap, hk]
      show (if acc.length < sizeMax then cLoop (.nm v) [v] c e ds (acc ++ [f d]) (wipeS (S.set v (some (.fz, d))) [v]) else .bad) = _
      rw [if_pos (by omega), h2, List.set_set, cLoop_pure hv ds (acc ++ [f d]) (fun x hx => hc x (List.mem_cons_of_mem _ hx)) (fun x hx => he x (List.mem_cons_of_mem _ hx)) (by rw [List.length_append, List.length_singleton]; omega)]
      simp [hp]
/-- a comprehension that changes nothing -/
theorem lc_pure {S0 S : List Slot} {v : Nat} {it : It} {c : T} {e : E} {ds : List D} (p : D → Bool) (f : D → D) (hit : it S0 = .ok ds S) (hv : v < S.length) (hz : fzAt S v = true)
    (hc : ∀ d ∈ ds, c (S.set v (some (.fz, d))) = .ok (p d) (S.set v (some (.fz, d)))) (he : ∀ d ∈ ds, p d = true → ∃ k, e (S.set v (some (.fz, d))) = .ok (k, f d) (S.set v (some (.fz, d)))) (hl : ds.length ≤ sizeMax) :
    eLc it (.nm v) [v] c e S0 = .ok (.li .fz, .lst ((ds.filter p).map f)) S := by
  unfold eLc
  rw [bind_ap, hit, rbind_ok]
  have h1 : ([v].all (fzAt S) && noDup [v] && (Tg.nm v).sl.all [v].contains) = true := by simp [hz, noDup, Tg.sl]
  rw [if_pos h1]
  have h2 : wipeS S [v] = S.set v none := rfl
  rw [h2, cLoop_pure hv ds [] hc he (by simpa using hl)]
  have h3 : backS S (S.set v none) [v] = S := by
    show (S.set v none).set v (S.getD v none) = S
    rw [List.set_set]
    refine set_self hv ?_
    rw [List.getElem?_eq_getElem hv, List.getD_eq_getElem?_getD, List.getElem?_eq_getElem hv]
    rfl
  simp [h3]
theorem cLoop_inv {v n : Nat} {e : E} (I : List Slot → Prop) (Q : D → Prop) (hI : ∀ S, I S → v < S.length) : ∀ (ds acc : List D) (S : List Slot), I S → acc.length + ds.length ≤ sizeMax →
    (∀ S d, I S → d ∈ ds → ∃ k y S', e (S.set v (some (.fz, d))) = .ok (k, y) S' ∧ I (S'.set v none) ∧ Q y) →
    ∃ ys S', cLoop (.nm v) [v] tTrue e ds acc S = .ok (acc ++ ys) S' ∧ I S' ∧ ys.length = ds.length ∧ ∀ y ∈ ys, Q y
  | [], acc, S, i, _, _ => ⟨[], S, by simp [cLoop, M.pure], i, rfl, fun y hy => by simp at hy⟩
  | d :: ds, acc, S, i, hl, he => by
    have hl2 : acc.length + ds.length + 1 ≤ sizeMax := by simpa [Nat.add_assoc] using hl
    obtain ⟨k, y, S1, e1, i1, q1⟩ := he S d i List.mem_cons_self
    obtain ⟨ys, S2, e2, i2, l2, q2⟩ := cLoop_inv (n := n) I Q hI ds (acc ++ [y]) (S1.set v none) i1 (by rw [List.length_append, List.length_singleton]; omega) fun S d i h => he S d i (List.mem_cons_of_mem _ h)
    refine ⟨y :: ys, S2, ?_, i2, by simp [l2], fun z hz => ?_⟩
    · unfold cLoop
      have h1 : Tg.put (.nm v) d S = some (S.set v (some (.fz, d))) := by
        unfold Tg.put
        rw [if_pos (hI S i)]
      rw [h1]
      show R.bind (eDat e (S.set v (some (.fz, d)))) _ = _
      rw [eDat_ap, e1]
      show (if acc.length < sizeMax then cLoop (.nm v) [v] tTrue e ds (acc ++ [y]) (wipeS S1 [v]) else .bad) = _
      rw [if_pos (by omega)]
      have h2 : wipeS S1 [v] = S1.set v none := rfl
      rw [h2, e2]
      simp
    · rcases List.mem_cons.mp hz with h | h
      · rw [h]; exact q1
      · exact q2 z h
/-- a comprehension whose items keep I -/
theorem lc_inv {S0 S : List Slot} {v : Nat} {it : It} {e : E} {ds : List D} (I : List Slot → Prop) (Q : D → Prop) (hit : it S0 = .ok ds S) (hz : fzAt S v = true) (hl : ds.length ≤ sizeMax) (hI : ∀ S, I S → v < S.length) (i : I (S.set v none))
    (he : ∀ S d, I S → d ∈ ds → ∃ k y S', e (S.set v (some (.fz, d))) = .ok (k, y) S' ∧ I (S'.set v none) ∧ Q y) :
    ∃ ys S', eLc it (.nm v) [v] tTrue e S0 = .ok (.li .fz, .lst ys) (S'.set v (S.getD v none)) ∧ I S' ∧ ys.length = ds.length ∧ ∀ y ∈ ys, Q y := by
  obtain ⟨ys, S', e1, i1, l1, q1⟩ := cLoop_inv (n := 0) I Q hI ds [] (S.set v none) i (by simpa using hl) he
  refine ⟨ys, S', ?_, i1, l1, q1⟩
  unfold eLc
  rw [bind_ap, hit, rbind_ok]
  have h1 : ([v].all (fzAt S) && noDup [v] && (Tg.nm v).sl.all [v].contains) = true := by simp [hz, noDup, Tg.sl]
  rw [if_pos h1]
  have h2 : wipeS S [v] = S.set v none := rfl
  rw [h2, e1]
  rfl
/-- a for by an invariant: J by the items left -/
theorem loop_inv {v : Nat} {b : St} (I : List D → List Slot → Prop) (hI : ∀ ds S, I ds S → v < S.length) (h : ∀ d ds S, I (d :: ds) S → ∃ S', b (S.set v (some (.fz, d))) = .ok .nx S' ∧ I ds S') :
    ∀ ds S, I ds S → ∃ S', loop (.nm v) b ds S = .ok .nx S' ∧ I [] S'
  | [], S, i => ⟨S, rfl, i⟩
  | d :: ds, S, i => by
    obtain ⟨S1, e1, i1⟩ := h d ds S i
    obtain ⟨S2, e2, i2⟩ := loop_inv I hI h ds S1 i1
    refine ⟨S2, ?_, i2⟩
    unfold loop
    have h1 : Tg.put (.nm v) d S = some (S.set v (some (.fz, d))) := by
      unfold Tg.put
      rw [if_pos (hI _ S i)]
    rw [h1]
    show R.bind (b (S.set v (some (.fz, d)))) _ = _
    rw [e1]
    exact e2
/-- the same as promises -/
theorem lc_wp {it : It} {e : E} {v : Nat} {S : List Slot} {Q : KD → List Slot → Prop} (I : List Slot → Prop) (P : D → Prop) (hI : ∀ S, I S → v < S.length)
    (h : okP (it S) fun ds S1 => fzAt S1 v = true ∧ ds.length ≤ sizeMax ∧ I (S1.set v none) ∧ (∀ S d, I S → d ∈ ds → okP (e (S.set v (some (.fz, d)))) fun a S' => I (S'.set v none) ∧ P a.2) ∧
      ∀ ys S', ys.length = ds.length → (∀ y ∈ ys, P y) → I S' → Q (.li .fz, .lst ys) (S'.set v (S1.getD v none))) : okP (eLc it (.nm v) [v] tTrue e S) Q := by
  obtain ⟨ds, S1, e1, hz, hl, i, he, hq⟩ := h.ex
  obtain ⟨ys, S', e2, i2, l2, q2⟩ := lc_inv (e := e) I P e1 hz hl hI i fun S d i hd => by
    obtain ⟨⟨k, y⟩, S', e3, i3, q3⟩ := (he S d i hd).ex
    exact ⟨k, y, S', e3, i3, q3⟩
  exact okP.of e2 (hq ys S' l2 q2 i2)
theorem lcp_wp {it : It} {c : T} {e : E} {v : Nat} {S : List Slot} {Q : KD → List Slot → Prop} (p : D → Bool) (f : D → D)
    (h : okP (it S) fun ds S1 => fzAt S1 v = true ∧ v < S1.length ∧ ds.length ≤ sizeMax ∧ (∀ d ∈ ds, c (S1.set v (some (.fz, d))) = .ok (p d) (S1.set v (some (.fz, d)))) ∧ (∀ d ∈ ds, p d = true → ∃ k, e (S1.set v (some (.fz, d))) = .ok (k, f d) (S1.set v (some (.fz, d)))) ∧
      Q (.li .fz, .lst ((ds.filter p).map f)) S1) : okP (eLc it (.nm v) [v] c e S) Q := by
  obtain ⟨ds, S1, e1, hz, hv, hl, hc, he, hq⟩ := h.ex
  exact okP.of (lc_pure p f e1 hv hz hc he hl) hq
theorem loop_wp {v : Nat} {b : St} {S : List Slot} {ds : List D} {Q : Fl → List Slot → Prop} (I : List D → List Slot → Prop) (hI : ∀ ds S, I ds S → v < S.length) (i : I ds S)
    (h : ∀ d ds S, I (d :: ds) S → okP (b (S.set v (some (.fz, d)))) fun f S' => f = .nx ∧ I ds S') (hq : ∀ S, I [] S → Q .nx S) : okP (loop (.nm v) b ds S) Q := by
  obtain ⟨S', e, i2⟩ := loop_inv (b := b) I hI (fun d ds S i => by
    obtain ⟨f, S', e1, rfl, i1⟩ := (h d ds S i).ex
    exact ⟨S', e1, i1⟩) ds S i
  exact okP.of e (hq S' i2)
end TB

/-! TbP3: the laws' draws, names -/
namespace TB
def bDraws : St := (sSeq (sSet 2 (eFr (eOp fMul (eCon (.int 15485863)) (eVar 1)))) (sSeq (sIf (eBool (eOp fLt (eVar 1) (eApp fLen [(eVar 0)]))) (sSet 2 (eOp fMod (eOp fIx (eVar 0) (eVar 1)) (eOp fMul (eOp fPow (eCon (.int 10)) (eCon (.int 60))) (eOp fPow (eCon (.int 10)) (eCon (.int 60)))))) (sIf (eBool (eOp fGt (eApp fLen [(eVar 0)]) (eCon (.int 0)))) (sSet 2 (eFr (eOp fAdd (eOp fMod (eOp fIx (eVar 0) (eOp fMod (eVar 1) (eApp fLen [(eVar 0)]))) (eOp fPow (eCon (.int 10)) (eCon (.int 15)))) (eOp fMul (eCon (.int 15485863)) (eVar 1))))) sNx)) (sRet (eApp fLst [(eOp fMul (eVar 2) (eApp fIntB [(eOp fGe (eVar 2) (eOp fPow (eCon (.int 10)) (eCon (.int 18))))])), (eOp fAdd (eCon (.int 1)) (eOp fMod (eOp fAdd (eOp fMul (eVar 2) (eCon (.int 69621))) (eOp fMul (eCon (.int 86028121)) (eOp fAdd (eVar 1) (eCon (.int 1))))) (eCon (.int 2147483646))))]))))
def DrawsOk (F : Fn) : Prop := ∀ (ns : List Int) (k : Int), 0 ≤ k → k ≤ 1000 → ∃ kd, F [(.fz, .scr ns), (.fz, .int k)] = .ret kd [] ∧ DI kd
theorem normIx_nat {n : Nat} {k : Int} (h0 : 0 ≤ k) (h : k < n) : normIx n k = some k.toNat := by
  unfold normIx
  rw [if_pos h0, if_pos h]
theorem draws_tail {ns : List Int} {k c : Int} (k0 : 0 ≤ k) (k1 : k ≤ 1000) (c0 : 0 ≤ c) (c1 : c < 1000000000000000000000000000000000000000000000000000000000000000000000000000000000000000000000000000000000000000000000000) :
    ∃ kd, (sRet (eApp fLst [(eOp fMul (eVar 2) (eApp fIntB [(eOp fGe (eVar 2) (eOp fPow (eCon (.int 10)) (eCon (.int 18))))])), (eOp fAdd (eCon (.int 1)) (eOp fMod (eOp fAdd (eOp fMul (eVar 2) (eCon (.int 69621))) (eOp fMul (eCon (.int 86028121)) (eOp fAdd (eVar 1) (eCon (.int 1))))) (eCon (.int 2147483646))))])) [some (.fz, .scr ns), some (.fz, .int k), some (.fz, .int c)] =
      .ok (.rt kd) [some (.fz, .scr ns), some (.fz, .int k), some (.fz, .int c)] ∧ DI kd := by
  have s1 : small c := by show c.natAbs < _; omega
  have s2 : small (k + 1) := by show (k + 1).natAbs < _; omega
  by_cases h : 1000000000000000000 ≤ c
  · refine ⟨_, by simp [fPow, fGe, fIntB, fMul, fAdd, fMod, fLst, kz, h, s1, s2, sizeMax]; rfl, c, _, rfl, c0, c1, ?_, ?_⟩
    · have := Int.emod_nonneg (c * 69621 + 86028121 * (k + 1)) (b := 2147483646) (by decide); omega
    · have := Int.emod_lt_of_pos (c * 69621 + 86028121 * (k + 1)) (b := 2147483646) (by decide); omega
  · refine ⟨_, by simp [fPow, fGe, fIntB, fMul, fAdd, fMod, fLst, kz, h, s1, s2, sizeMax]; rfl, 0, _, rfl, by omega, by omega, ?_, ?_⟩
    · have := Int.emod_nonneg (c * 69621 + 86028121 * (k + 1)) (b := 2147483646) (by decide); omega
    · have := Int.emod_lt_of_pos (c * 69621 + 86028121 * (k + 1)) (b := 2147483646) (by decide); omega
theorem draws_ok : DrawsOk (runF 3 [] bDraws) := by
  intro ns k k0 k1
  have sk : small k := by show k.natAbs < _; omega
  have main : ∃ kd c, bDraws [some (.fz, .scr ns), some (.fz, .int k), none] = .ok (.rt kd) [some (.fz, .scr ns), some (.fz, .int k), some (.fz, .int c)] ∧ DI kd := by
    unfold bDraws
    by_cases h : k < (ns.length : Int)
    · have hn : k.toNat < ns.length := by omega
      have e1 := Int.emod_nonneg ns[k.toNat] (b := 1000000000000000000000000000000000000000000000000000000000000000000000000000000000000000000000000000000000000000000000000) (by decide)
      have e2 := Int.emod_lt_of_pos ns[k.toNat] (b := 1000000000000000000000000000000000000000000000000000000000000000000000000000000000000000000000000000000000000000000000000) (by decide)
      obtain ⟨kd, h1, h2⟩ := draws_tail (ns := ns) k0 k1 e1 e2
      refine ⟨kd, ns[k.toNat] % 1000000000000000000000000000000000000000000000000000000000000000000000000000000000000000000000000000000000000000000000000, ?_, h2⟩
      rw [← h1]
      simp [fMul, fLt, fLen, kz, sk, h, fIx, normIx_nat k0 h, hn, fPow, fMod]
    · by_cases hl : 0 < ns.length
      · have hl' : (0 : Int) < ns.length := by omega
        have m0 := Int.emod_nonneg k (b := (ns.length : Int)) (by omega)
        have m1 := Int.emod_lt_of_pos k hl'
        have hn : (k % (ns.length : Int)).toNat < ns.length := by omega
        have e1 := Int.emod_nonneg ns[(k % (ns.length : Int)).toNat] (b := 1000000000000000) (by decide)
        have e2 := Int.emod_lt_of_pos ns[(k % (ns.length : Int)).toNat] (b := 1000000000000000) (by decide)
        obtain ⟨kd, h1, h2⟩ := draws_tail (ns := ns) (c := ns[(k % (ns.length : Int)).toNat] % 1000000000000000 + 15485863 * k) k0 k1 (by omega) (by omega)
        refine ⟨kd, ns[(k % (ns.length : Int)).toNat] % 1000000000000000 + 15485863 * k, ?_, h2⟩
        rw [← h1]
        simp [fMul, fLt, fLen, fGt, kz, sk, h, hl, fIx, normIx_nat m0 m1, hn, fPow, fMod, fAdd]
      · have hl0 : ns.length = 0 := by omega
        obtain ⟨kd, h1, h2⟩ := draws_tail (ns := ns) (c := 15485863 * k) k0 k1 (by omega) (by omega)
        refine ⟨kd, 15485863 * k, ?_, h2⟩
        rw [← h1]
        simp [fMul, fLt, fLen, fGt, kz, sk, h, hl]
  obtain ⟨kd, c, e, h⟩ := main
  exact ⟨kd, runF_ret (as := [(.fz, .scr ns), (.fz, .int k)]) rfl e rfl, h⟩
end TB

/-! TbP4: the laws' names -/
namespace TB
def bNames (F : Fn) : St := (sSeq (sSet 2 (eCon (.str [97, 98, 99, 100, 101, 102, 103, 104, 105, 106, 107, 108, 109, 110, 111, 112, 113, 114, 115, 116, 117, 118, 119, 120, 121, 122]))) (sSeq (sSet 3 (eJoin (eCon (.str [])) (eLc (itRange1 (eOp fIx (eApp fLst [(eCon (.int 0)), (eCon (.int 1)), (eCon (.int 2)), (eCon (.int 7))]) (eCall F [.b 0, .v (eCon (.int 4))]))) (.nm 6) [6] tTrue (eOp fIx (eVar 2) (eCall F [.b 0, .v (eCon (.int 26))]))))) (sSeq (sSet 4 (eCall F [.b 0, .v (eCon (.int 26))])) (sSeq (sSet 5 (eOp fIx (eApp fLst [(eCon (.int 1)), (eCon (.int 3)), (eCon (.int 5)), (eCon (.int 7))]) (eCall F [.b 0, .v (eCon (.int 4))]))) (sRet (eFr (eApp fSorted [(eLc (itRange1 (eVar 1)) (.nm 6) [6] tTrue (eOp fAdd (eVar 3) (eOp fIx (eVar 2) (eOp fMod (eOp fAdd (eVar 4) (eOp fMul (eVar 5) (eVar 6))) (eCon (.int 26))))))])))))))
def abc : List Nat := [97, 98, 99, 100, 101, 102, 103, 104, 105, 106, 107, 108, 109, 110, 111, 112, 113, 114, 115, 116, 117, 118, 119, 120, 121, 122]
/-- names: texts of one to eight letters -/
def nameS (s : List Nat) : Bool := decide (1 ≤ s.length) && decide (s.length ≤ 8) && s.all (abc.contains ·)
theorem abc_ix {r : Int} (h0 : 0 ≤ r) (h1 : r < 26) : ∃ c, fIx (.str abc) (.int r) = some (.fz, .str [c]) ∧ c ∈ abc ∧ c = 97 + r.toNat := by
  have hn : r.toNat < 26 := by omega
  have hl : abc.length = 26 := rfl
  refine ⟨abc[r.toNat]'(by rw [hl]; exact hn), ?_, List.getElem_mem _, ?_⟩
  · show (if abc.length ≤ sizeMax then (normIx abc.length r).bind fun n => abc[n]?.bind fun c => kz (.str [c]) else none) = _
    rw [if_pos (by decide), normIx_nat h0 (by rw [hl]; exact h1)]
    simp [hl, hn, kz]
  · generalize r.toNat = n at hn
    have : ∀ n : Fin 26, abc[n.1]? = some (97 + n.1) := by decide
    have := this ⟨n, hn⟩
    rw [List.getElem?_eq_getElem (by rw [hl]; exact hn)] at this
    exact Option.some.inj this
def NamesQ (m : Int) (r : KD) (o : List KD) : Prop := ∃ (ss : List (List Nat)) (kd : KD), r = (.fz, .lst (ss.map D.str)) ∧ o = [kd] ∧ DI kd ∧ ss.length = m.toNat ∧ (∀ s ∈ ss, nameS s = true) ∧ ss.Pairwise (· ≤ ·) ∧ ss.Nodup
def NamesOk (F : Fn) : Prop := ∀ (kd : KD) (m : Int), DI kd → 0 ≤ m → m ≤ 26 → FnP F [kd, (.fz, .int m)] (NamesQ m)
theorem strsOf_map : ∀ ss : List (List Nat), strsOf (ss.map D.str) = some ss
  | [] => rfl
  | s :: ss => by simp [strsOf, strsOf_map ss]
theorem strs_exists : ∀ ys : List D, (∀ y ∈ ys, ∃ c, y = .str [c] ∧ c ∈ abc) → ∃ cs : List Nat, ys = cs.map (fun c => .str [c]) ∧ (∀ c ∈ cs, c ∈ abc)
  | [], _ => ⟨[], rfl, fun _ h => by simp at h⟩
  | y :: ys, h => by
    obtain ⟨c, e, m⟩ := h y List.mem_cons_self
    obtain ⟨cs, e2, m2⟩ := strs_exists ys fun z hz => h z (List.mem_cons_of_mem _ hz)
    exact ⟨c :: cs, by rw [e, e2]; rfl, fun x hx => by rcases List.mem_cons.mp hx with q | q; (rw [q]; exact m); exact m2 x q⟩
theorem join_ones : ∀ cs : List Nat, joinD [] (cs.map fun c => [c]) = cs
  | [] => rfl
  | [c] => rfl
  | c :: d :: cs => by
    show [c] ++ ([] ++ joinD [] ((d :: cs).map fun c => [c])) = _
    rw [join_ones (d :: cs)]; rfl
theorem sortT_perm (xs : List (List Nat)) : (sortT xs).Perm xs := List.mergeSort_perm _ _
theorem sortT_pair (xs : List (List Nat)) : (sortT xs).Pairwise (· ≤ ·) := by
  unfold sortT
  have e : (fun a b : List Nat => !decide (b < a)) = fun a b => decide (a ≤ b) := by
    funext a b
    rw [← decide_not]
    exact decide_eq_decide.mpr List.not_lt
  rw [e]
  have := List.pairwise_mergeSort (le := fun a b : List Nat => decide (a ≤ b)) (fun a b c h1 h2 => by simp at *; exact List.le_trans h1 h2) (fun a b => by simp; exact List.le_total a b) xs
  exact this.imp fun h => by simpa using h
theorem fIx_lst {xs : List D} {r : Int} (h0 : 0 ≤ r) (h1 : r < xs.length) : ∃ x ∈ xs, fIx (.lst xs) (.int r) = some (.fz, x) := by
  have hn : r.toNat < xs.length := by omega
  refine ⟨xs[r.toNat], List.getElem_mem _, ?_⟩
  show ((normIx xs.length r).bind fun n => xs[n]?.bind kz) = _
  rw [normIx_nat h0 h1]
  simp [hn, kz]
theorem pick_int {xs : List D} {r lo hi : Int} (h0 : 0 ≤ r) (h1 : r < xs.length) (h : ∀ x ∈ xs, ∃ j, x = .int j ∧ lo ≤ j ∧ j ≤ hi) : ∃ j, fIx (.lst xs) (.int r) = some (.fz, .int j) ∧ lo ≤ j ∧ j ≤ hi := by
  obtain ⟨x, hx, e⟩ := fIx_lst h0 h1
  obtain ⟨j, rfl, h2⟩ := h x hx
  exact ⟨j, e, h2⟩
theorem small_i {i : Int} (h0 : 0 ≤ i) (h1 : i < 1000000000000000000000000000000000000000000000000000000000000) : small i := by show i.natAbs < _; omega
theorem ones_sum : ∀ cs : List Nat, ((cs.map fun c => [c]).map (·.length)).sum = cs.length
  | [] => rfl
  | c :: cs => by
    show 1 + ((cs.map fun c => [c]).map (·.length)).sum = cs.length + 1
    rw [ones_sum cs]; omega
theorem abc_eq : abc = [97, 98, 99, 100, 101, 102, 103, 104, 105, 106, 107, 108, 109, 110, 111, 112, 113, 114, 115, 116, 117, 118, 119, 120, 121, 122] := rfl
def stepOk (s : Int) : Prop := s = 1 ∨ s = 3 ∨ s = 5 ∨ s = 7
def nth (stem : List Nat) (a s : Int) (d : D) : D := match d with
  | .int k => .str (stem ++ [97 + ((a + s * k) % 26).toNat])
  | _ => .non
def nthS (stem : List Nat) (a s : Int) (k : Nat) : List Nat := stem ++ [97 + ((a + s * (k : Int)) % 26).toNat]
theorem nth_map (stem : List Nat) (a s : Int) (n : Nat) : (rangeL 0 n).map (nth stem a s) = ((List.range n).map (nthS stem a s)).map D.str := by
  unfold rangeL
  rw [List.map_map, List.map_map]
  refine List.map_congr_left fun k _ => ?_
  show nth stem a s (.int (0 + (k : Int))) = D.str (nthS stem a s k)
  rw [Int.zero_add]; rfl
theorem nth_inj {stem : List Nat} {a s : Int} (hs : stepOk s) {i j : Nat} (hi : i < 26) (hj : j < 26) (h : nthS stem a s i = nthS stem a s j) : i = j := by
  unfold nthS at h
  have h := List.append_cancel_left h
  have h : 97 + ((a + s * (i : Int)) % 26).toNat = 97 + ((a + s * (j : Int)) % 26).toNat := by simpa using h
  have m1 := Int.emod_nonneg (a + s * (i : Int)) (b := 26) (by decide)
  have m2 := Int.emod_nonneg (a + s * (j : Int)) (b := 26) (by decide)
  rcases hs with rfl | rfl | rfl | rfl <;> omega
theorem nth_name {stem : List Nat} {a s : Int} (h1 : stem.length ≤ 7) (h2 : ∀ c ∈ stem, c ∈ abc) (k : Nat) : nameS (nthS stem a s k) = true := by
  unfold nameS nthS
  have m1 := Int.emod_nonneg (a + s * (k : Int)) (b := 26) (by decide)
  have m2 := Int.emod_lt_of_pos (a + s * (k : Int)) (b := 26) (by decide)
  generalize hc : ((a + s * (k : Int)) % 26).toNat = c
  have hc2 : c < 26 := by omega
  have h3 : ∀ n : Fin 26, abc.contains (97 + n.1) = true := by decide
  have h3 := h3 ⟨c, hc2⟩
  have h4 : stem.all (abc.contains ·) = true := List.all_eq_true.mpr fun c hc => by simpa using h2 c hc
  simp only [List.length_append, List.length_singleton, List.all_append, h4, List.all_cons, List.all_nil, h3]
  simp
  omega
theorem map_nodup {α β : Type} {f : α → β} : ∀ {l : List α}, l.Nodup → (∀ a ∈ l, ∀ b ∈ l, f a = f b → a = b) → (l.map f).Nodup
  | [], _, _ => .nil
  | x :: l, h, i => by
    rw [List.nodup_cons] at h
    rw [List.map_cons, List.nodup_cons]
    refine ⟨fun m => ?_, map_nodup h.2 fun a ha b hb => i a (List.mem_cons_of_mem _ ha) b (List.mem_cons_of_mem _ hb)⟩
    obtain ⟨y, hy, e⟩ := List.mem_map.mp m
    have := i y (List.mem_cons_of_mem _ hy) x List.mem_cons_self e
    exact h.1 (this ▸ hy)
theorem intsOf_str {s : List Nat} {ds : List D} : intsOf (.str s :: ds) = none := rfl
theorem sorted_strs {ss : List (List Nat)} (h : ss.length < 64) : fSorted [.lst (ss.map D.str)] = some (.li .fz, .lst ((sortT ss).map D.str)) := by
  cases ss with
  | nil => simp [fSorted, intsOf, sortI, sortT]
  | cons s ss =>
    show (match intsOf (.str s :: ss.map D.str) with | some is => some ((.li .fz, .lst ((sortI is).map D.int)) : KD) | none => match strsOf ((s :: ss).map D.str) with | some ss => if ss.length < 64 then some ((.li .fz, .lst ((sortT ss).map D.str)) : KD) else none | none => none) = _
    rw [intsOf_str, strsOf_map]
    exact if_pos h
theorem names_ok {F : Fn} (hF : DrawOk F) : NamesOk (runF 7 [0] (bNames F)) := by
  intro kd m hd m0 m1
  refine runF_wp (by obtain ⟨a, b, rfl, _⟩ := hd; rfl) ?_
  simp [bNames, ← abc_eq, -Prod.exists, -Prod.forall]
  refine lc_wp (fun S => ∃ kd, DI kd ∧ S = [some kd, some (.fz, .int m), some (.fz, .str abc), none, none, none, none]) (fun d => ∃ c, d = .str [c] ∧ c ∈ abc) ?_ ?_
  · rintro S ⟨_, _, rfl⟩; simp
  simp [-Prod.exists, -Prod.forall]
  refine draw_wp hF rfl ?_
  simp [hd, -Prod.exists, -Prod.forall]
  intro r kd2 hd2 r0 r1
  obtain ⟨j, e, j0, j1⟩ := pick_int (xs := [.int 0, .int 1, .int 2, .int 7]) (lo := 0) (hi := 7) r0 (by simpa using r1) (by simp)
  have hj : j.natAbs < limN := by unfold limN; omega
  simp [e, hj, -Prod.exists, -Prod.forall]
  refine ⟨by simp [fzAt], by simp [rangeL, sizeMax]; omega, hd2, ?_, ?_⟩
  · rintro S d kd3 hd3 rfl hm
    simp [-Prod.exists, -Prod.forall]
    refine draw_wp hF rfl ?_
    simp [hd3, -Prod.exists, -Prod.forall]
    intro r kd4 hd4 r2 r3
    obtain ⟨c, e2, hc, _⟩ := abc_ix r2 r3
    simp [e2, hc, -Prod.exists, -Prod.forall]
    exact hd4
  · rintro ys S' hl hy kd3 hd3 rfl
    obtain ⟨cs, rfl, hcs⟩ := strs_exists ys hy
    have hl2 : cs.length ≤ 7 := by
      rw [List.length_map] at hl
      rw [hl]; simp [rangeL]; omega
    have ej : fJoin [] (.lst (cs.map fun c => D.str [c])) = some (.fz, .str cs) := by
      have e1 : (cs.map fun c => D.str [c]) = (cs.map fun c => [c]).map D.str := by rw [List.map_map]; rfl
      show (strsOf _).bind _ = _
      rw [e1, strsOf_map]
      show (if ((cs.map fun c => [c]).map (·.length)).sum + (cs.map fun c => [c]).length * 0 ≤ sizeMax then kz (.str (joinD [] (cs.map fun c => [c]))) else none) = _
      rw [ones_sum, join_ones, if_pos (by simp [sizeMax]; omega)]
      rfl
    simp [ej, -Prod.exists, -Prod.forall]
    refine draw_wp hF rfl ?_
    simp [hd3, -Prod.exists, -Prod.forall]
    intro a kd4 hd4 a0 a1
    refine draw_wp hF rfl ?_
    simp [hd4, -Prod.exists, -Prod.forall]
    intro r kd5 hd5 r4 r5
    obtain ⟨x, hx, e3⟩ := fIx_lst (xs := [.int 1, .int 3, .int 5, .int 7]) r4 (by simpa using r5)
    have hs : ∃ s, x = .int s ∧ stepOk s := by
      unfold stepOk
      simp at hx
      rcases hx with rfl | rfl | rfl | rfl <;> simp
    obtain ⟨s, rfl, hs⟩ := hs
    have s0 : 0 ≤ s := by unfold stepOk at hs; omega
    have s1 : s ≤ 7 := by unfold stepOk at hs; omega
    simp [e3, -Prod.exists, -Prod.forall]
    refine lcp_wp (fun _ => true) (nth cs a s) ?_
    have hm : m.natAbs < limN := by unfold limN; omega
    simp [hm, -Prod.exists, -Prod.forall]
    refine ⟨by simp [fzAt], by simp [rangeL, sizeMax]; omega, ?_, ?_⟩
    · intro d hd
      unfold rangeL at hd
      obtain ⟨k, hk, rfl⟩ := List.mem_map.mp hd
      have hk := List.mem_range.mp hk
      have q1 := Int.emod_nonneg (a + s * (0 + (k : Int))) (b := 26) (by decide)
      have q2 := Int.emod_lt_of_pos (a + s * (0 + (k : Int))) (b := 26) (by decide)
      obtain ⟨c, e4, _, e5⟩ := abc_ix q1 q2
      have z1 : small s := small_i s0 (by omega)
      have z2 : small (0 + (k : Int)) := small_i (by omega) (by omega)
      have z3 : cs.length + 1 ≤ sizeMax := by simp [sizeMax]; omega
      simp only [Int.zero_add] at e4 e5 z2 ⊢
      exact ⟨.fz, by simp [fMul, fAdd, fMod, kz, z1, z2, e4, z3, nth, e5]; omega⟩
    · rw [show ∀ l : List D, l.filter (fun _ => true) = l from fun l => List.filter_eq_self.mpr fun _ _ => rfl, nth_map, sorted_strs (by simp; omega)]
      obtain ⟨ka, kb, rfl, _⟩ := hd
      obtain ⟨kc, kd', rfl, hh⟩ := hd5
      simp [outsOf, dr, Kd.isF, -Prod.exists]
      refine ⟨_, _, rfl, rfl, ⟨kc, kd', rfl, hh⟩, ?_, ?_, sortT_pair _, ?_⟩
      · rw [(sortT_perm _).length_eq]; simp
      · intro x hx
        obtain ⟨k, _, rfl⟩ := List.mem_map.mp ((sortT_perm _).mem_iff.mp hx)
        exact nth_name hl2 hcs k
      · refine (sortT_perm _).nodup_iff.mpr (map_nodup List.nodup_range fun i hi j hj e => ?_)
        have hi := List.mem_range.mp hi
        have hj := List.mem_range.mp hj
        exact nth_inj hs (by omega) (by omega) e
end TB

/-! TbP5: some of .. -/
namespace TB
def bSome (F : Fn) : St := (sSeq (sSet 3 eDnew) (sSeq (sFor (itRange1 (eCall F [.b 0, .v (eOp fAdd (eVar 2) (eCon (.int 1)))])) (.nm 4) (sDput 3 (eOp fIx (eVar 1) (eCall F [.b 0, .v (eApp fLen [(eVar 1)])])) (eCon (.bl true)))) (sRet (eApp fTuple [(eApp fSorted [(ePeekL (eApp fList [(eVar 3)]))])]))))
section
variable {α : Type} [DecidableEq α]
theorem putD_map {K : α → D} (he : ∀ a b, D.eqv (K a) (K b) = decide (a = b)) (as : List α) (a : α) : putD (as.map fun a => (K a, D.bl true)) (K a) (.bl true) = (if a ∈ as then as else as ++ [a]).map fun a => (K a, D.bl true) := by
  unfold putD
  have h1 : ((as.map fun a => (K a, D.bl true)).any fun p => D.eqv p.1 (K a)) = decide (a ∈ as) := by
    rw [List.any_map, Bool.eq_iff_iff, List.any_eq_true, decide_eq_true_iff]
    constructor
    · rintro ⟨b, hb, e⟩
      have e : D.eqv (K b) (K a) = true := e
      rw [he, decide_eq_true_iff] at e
      exact e ▸ hb
    · intro h
      exact ⟨a, h, by show D.eqv (K a) (K a) = true; rw [he]; simp⟩
  rw [h1]
  by_cases h : a ∈ as
  · rw [if_pos (by simpa using h), if_pos h, List.map_map]
    refine List.map_congr_left fun b _ => ?_
    show (if D.eqv (K b) (K a) = true then (K b, D.bl true) else (K b, D.bl true)) = _
    split <;> rfl
  · rw [if_neg (by simpa using h), if_neg h, List.map_append]
    rfl
theorem all_flat {K : α → D} (hf : ∀ a, (K a).flat = true) (as : List α) : (as.map K).all D.flat = true := by
  rw [List.all_map, List.all_eq_true]
  exact fun a _ => hf a
def SomeQ (K : α → D) (srt : List α → List α) (src : List α) (m : Int) (r : KD) (o : List KD) : Prop := ∃ (as : List α) (kd : KD), r = (.fz, .tup ((srt as).map K)) ∧ o = [kd] ∧ DI kd ∧ as.Nodup ∧ as.length ≤ m.toNat ∧ ∀ a ∈ as, a ∈ src
theorem some_gen {F : Fn} (hF : DrawOk F) {K : α → D} (hk : ∀ a, isKey (K a) = true) (hf : ∀ a, (K a).flat = true) (he : ∀ a b, D.eqv (K a) (K b) = decide (a = b)) {srt : List α → List α} (hs : ∀ as : List α, as.length < 64 → fSorted [.lst (as.map K)] = some (.li .fz, .lst ((srt as).map K)))
    {kd : KD} {src : List α} {m : Int} (hd : DI kd) (l0 : 1 ≤ src.length) (l1 : src.length ≤ 1000) (m0 : 0 ≤ m) (m1 : m ≤ 60) : FnP (runF 5 [0] (bSome F)) [kd, (.fz, .lst (src.map K)), (.fz, .int m)] (SomeQ K srt src m) := by
  refine runF_wp (by obtain ⟨a, b, rfl, _⟩ := hd; rfl) ?_
  simp [bSome, -Prod.exists, -Prod.forall]
  refine draw_wp hF rfl ?_
  simp [fAdd, kz, hd, -Prod.exists, -Prod.forall]
  refine ⟨by omega, by omega, fun r kd2 hd2 r0 r1 => ?_⟩
  have hr : r.natAbs < limN := by unfold limN; omega
  simp [hr, -Prod.exists, -Prod.forall]
  refine loop_wp (fun ds S => ∃ (kd : KD) (as : List α) (x : Slot), DI kd ∧ as.Nodup ∧ as.length + ds.length ≤ m.toNat ∧ (∀ a ∈ as, a ∈ src) ∧ S = [some kd, some (.fz, .lst (src.map K)), some (.fz, .int m), some (.dK .fz, .dic (as.map fun a => (K a, D.bl true))), x]) ?_ ?_ ?_ ?_
  · rintro ds S ⟨kd, as, x, _, _, _, _, rfl⟩; simp
  · exact ⟨kd2, [], none, hd2, .nil, by simp [rangeL]; omega, by simp, rfl⟩
  · rintro d ds S ⟨kd3, as, x, hd3, nd, hl, hsub, rfl⟩
    simp [ownK, -Prod.exists, -Prod.forall]
    refine draw_wp hF rfl ?_
    simp [fLen, kz, hd3, -Prod.exists, -Prod.forall]
    refine ⟨by omega, by omega, fun r kd4 hd4 r2 r3 => ?_⟩
    obtain ⟨y, hy, e⟩ := fIx_lst (xs := src.map K) r2 (by simpa using r3)
    obtain ⟨a, ha, rfl⟩ := List.mem_map.mp hy
    have hz : as.length < sizeMax := by simp [sizeMax]; simp at hl; omega
    simp [e, hk, hz, putD_map he, -Prod.exists, -Prod.forall]
    refine ⟨kd4, hd4, if a ∈ as then as else as ++ [a], ?_, ?_, ?_, rfl, rfl⟩
    · split
      · exact nd
      · rename_i h
        rw [List.nodup_append]
        exact ⟨nd, by simp, fun b hb c hc => by simp at hc; subst hc; intro z; subst z; exact h hb⟩
    · simp at hl
      split
      · omega
      · simp; omega
    · intro b hb
      split at hb
      · exact hsub b hb
      · rcases List.mem_append.mp hb with h | h
        · exact hsub b h
        · simp at h; subst h; exact ha
  · rintro S ⟨kd3, as, x, hd3, nd, hl, hsub, rfl⟩
    simp at hl
    have e1 : (as.map fun a => (K a, D.bl true)).map (·.1) = as.map K := by rw [List.map_map]; rfl
    simp [frz, fList, e1, all_flat hf, -Prod.exists, -Prod.forall]
    have e2 := hs as (by omega)
    simp [e1, e2, fTuple, kz, -Prod.exists, -Prod.forall]
    obtain ⟨ka, kb, rfl, _⟩ := hd
    obtain ⟨kc, ke, rfl, hh⟩ := hd3
    simp [outsOf, dr, Kd.isF, -Prod.exists]
    exact ⟨as, _, rfl, rfl, ⟨kc, ke, rfl, hh⟩, nd, by omega, hsub⟩
end
theorem some_str {F : Fn} (hF : DrawOk F) {kd : KD} {src : List (List Nat)} {m : Int} (hd : DI kd) (l0 : 1 ≤ src.length) (l1 : src.length ≤ 1000) (m0 : 0 ≤ m) (m1 : m ≤ 60) : FnP (runF 5 [0] (bSome F)) [kd, (.fz, .lst (src.map D.str)), (.fz, .int m)] (SomeQ D.str sortT src m) :=
  some_gen hF (fun _ => rfl) (fun _ => rfl) (fun a b => by show (a == b) = _; rw [Bool.eq_iff_iff]; simp) (fun as h => sorted_strs h) hd l0 l1 m0 m1
theorem intsOf_map : ∀ is : List Int, intsOf (is.map D.int) = some is
  | [] => rfl
  | i :: is => by simp [intsOf, intsOf_map is]
theorem some_int {F : Fn} (hF : DrawOk F) {kd : KD} {src : List Int} {m : Int} (hd : DI kd) (l0 : 1 ≤ src.length) (l1 : src.length ≤ 1000) (m0 : 0 ≤ m) (m1 : m ≤ 60) : FnP (runF 5 [0] (bSome F)) [kd, (.fz, .lst (src.map D.int)), (.fz, .int m)] (SomeQ D.int sortI src m) :=
  some_gen hF (fun _ => rfl) (fun _ => rfl) (fun a b => by show (a == b) = _; rw [Bool.eq_iff_iff]; simp) (fun as _ => by show (match intsOf (as.map D.int) with | some is => some ((.li .fz, .lst ((sortI is).map D.int)) : KD) | none => _) = _; rw [intsOf_map]) hd l0 l1 m0 m1
end TB

/-! TbP6: all([..]), [..] == [], things -/
namespace TB
theorem boolsOf_map {α : Type} (g : α → Bool) : ∀ l : List α, boolsOf (l.map fun x => D.bl (g x)) = some (l.map g)
  | [] => rfl
  | x :: l => by simp [boolsOf, boolsOf_map g l]
theorem filter_true (l : List D) : l.filter (fun _ => true) = l := List.filter_eq_self.mpr fun _ _ => rfl
section
variable {it : It} {c : T} {e : E} {v : Nat} {S : List Slot} {ds : List D}
theorem all_eq (g : D → Bool) (hit : it S = .ok ds S) (hz : fzAt S v = true) (hv : v < S.length) (hl : ds.length ≤ sizeMax) (he : ∀ d ∈ ds, ∃ k, e (S.set v (some (.fz, d))) = .ok (k, .bl (g d)) (S.set v (some (.fz, d)))) :
    eApp fAllB [eLc it (.nm v) [v] tTrue e] S = .ok (.fz, .bl (ds.all g)) S := by
  have h := lc_pure (c := tTrue) (e := e) (fun _ => true) (fun d => .bl (g d)) hit hv hz (fun _ _ => rfl) (fun d hd _ => he d hd) hl
  rw [filter_true] at h
  rw [eApp_ap, eAll_cons, eDat_ap, h]
  show ofO (fAllB [.lst (ds.map fun d => .bl (g d))]) S = _
  have : fAllB [.lst (ds.map fun d => .bl (g d))] = some (.fz, .bl (ds.all g)) := by
    show ((boolsOf _).bind fun bs => kz (.bl (bs.all id))) = _
    rw [boolsOf_map]
    show kz (.bl ((ds.map g).all id)) = _
    rw [List.all_map]; rfl
  rw [this]; rfl
theorem lays_of : ∀ {xs : List D}, (∀ d ∈ xs, d.lay n = true) → D.lays n xs = true
  | [], _ => by unfold D.lays; rfl
  | x :: xs, h => by
    unfold D.lays
    rw [h x List.mem_cons_self, lays_of fun d hd => h d (List.mem_cons_of_mem _ hd)]; rfl
theorem filt_nil (g : D → Bool) (ds : List D) : D.eqv (.lst (ds.filter fun d => !g d)) (.lst []) = ds.all g := by
  show D.eqvs _ [] = _
  have : ∀ l : List D, D.eqvs l [] = l.isEmpty := fun l => by cases l <;> (unfold D.eqvs; rfl)
  rw [this]
  induction ds with
  | nil => rfl
  | cons d ds ih =>
    rw [List.filter_cons, List.all_cons]
    cases h : g d with
    | true => simpa using ih
    | false => simp
theorem nil_lc (g : D → Bool) (hit : it S = .ok ds S) (hz : fzAt S v = true) (hv : v < S.length) (hl : ds.length ≤ sizeMax) (hc : ∀ d ∈ ds, c (S.set v (some (.fz, d))) = .ok (!g d) (S.set v (some (.fz, d)))) :
    eLc it (.nm v) [v] c (eVar v) S = .ok (.li .fz, .lst (ds.filter fun d => !g d)) S := by
  have h := lc_pure (c := c) (e := eVar v) (fun d => !g d) id hit hv hz hc (fun d hd _ => ⟨.fz, by rw [eVar_ap, List.getElem?_set_self hv]; rfl⟩) hl
  rw [List.map_id] at h
  exact h
theorem none_eq (g : D → Bool) (hit : it S = .ok ds S) (hz : fzAt S v = true) (hv : v < S.length) (hl : ds.length ≤ sizeMax) (hc : ∀ d ∈ ds, c (S.set v (some (.fz, d))) = .ok (!g d) (S.set v (some (.fz, d)))) (hy : ∀ d ∈ ds, d.lay 59 = true) :
    eOp fEq (eLc it (.nm v) [v] c (eVar v)) (eApp fLst []) S = .ok (.fz, .bl (ds.all g)) S := by
  have h1 : eqOk (.lst (ds.filter fun d => !g d)) (.lst []) = true := by
    unfold eqOk
    have : D.lay 60 (.lst (ds.filter fun d => !g d)) = true := by
      unfold D.lay
      exact lays_of fun d hd => hy d (List.mem_filter.mp hd).1
    rw [this]
    simp [D.lay, D.lays]
  rw [eOp_ap, eDat_ap, nil_lc g hit hz hv hl hc]
  simp [fLst, sizeMax, fEq, h1, filt_nil, kz]
theorem none_ne (g : D → Bool) (hit : it S = .ok ds S) (hz : fzAt S v = true) (hv : v < S.length) (hl : ds.length ≤ sizeMax) (hc : ∀ d ∈ ds, c (S.set v (some (.fz, d))) = .ok (!g d) (S.set v (some (.fz, d)))) (hy : ∀ d ∈ ds, d.lay 59 = true) :
    eOp fNe (eLc it (.nm v) [v] c (eVar v)) (eApp fLst []) S = .ok (.fz, .bl (!ds.all g)) S := by
  have h1 : eqOk (.lst (ds.filter fun d => !g d)) (.lst []) = true := by
    unfold eqOk
    have : D.lay 60 (.lst (ds.filter fun d => !g d)) = true := by
      unfold D.lay
      exact lays_of fun d hd => hy d (List.mem_filter.mp hd).1
    rw [this]
    simp [D.lay, D.lays]
  rw [eOp_ap, eDat_ap, nil_lc g hit hz hv hl hc]
  simp [fLst, sizeMax, fNe, h1, filt_nil, kz]
end
section
variable {it : It} {c : T} {e : E} {v : Nat} {S : List Slot} {ds : List D}
theorem all_ex (g : D → Bool) (hit : it S = .ok ds S) (hz : fzAt S v = true) (hv : v < S.length) (hl : ds.length ≤ sizeMax) (he : ∀ d ∈ ds, ∃ k, e (S.set v (some (.fz, d))) = .ok (k, .bl (g d)) (S.set v (some (.fz, d)))) :
    ∃ ys, eLc it (.nm v) [v] tTrue e S = .ok (.li .fz, .lst ys) S ∧ fAllB [.lst ys] = some (.fz, .bl (ds.all g)) := by
  have h := lc_pure (c := tTrue) (e := e) (fun _ => true) (fun d => .bl (g d)) hit hv hz (fun _ _ => rfl) (fun d hd _ => he d hd) hl
  rw [filter_true] at h
  refine ⟨_, h, ?_⟩
  show ((boolsOf _).bind fun bs => kz (.bl (bs.all id))) = _
  rw [boolsOf_map]
  show kz (.bl ((ds.map g).all id)) = _
  rw [List.all_map]; rfl
theorem none_ex (g : D → Bool) (hit : it S = .ok ds S) (hz : fzAt S v = true) (hv : v < S.length) (hl : ds.length ≤ sizeMax) (hc : ∀ d ∈ ds, c (S.set v (some (.fz, d))) = .ok (!g d) (S.set v (some (.fz, d)))) (hy : ∀ d ∈ ds, d.lay 59 = true) :
    ∃ ys, eLc it (.nm v) [v] c (eVar v) S = .ok (.li .fz, .lst ys) S ∧ fEq (.lst ys) (.lst []) = some (.fz, .bl (ds.all g)) ∧ fNe (.lst ys) (.lst []) = some (.fz, .bl (!ds.all g)) := by
  have h1 : eqOk (.lst (ds.filter fun d => !g d)) (.lst []) = true := by
    unfold eqOk
    have : D.lay 60 (.lst (ds.filter fun d => !g d)) = true := by
      unfold D.lay
      exact lays_of fun d hd => hy d (List.mem_filter.mp hd).1
    rw [this]
    simp [D.lay, D.lays]
  refine ⟨_, nil_lc g hit hz hv hl hc, ?_, ?_⟩
  · simp [fEq, h1, filt_nil, kz]
  · simp [fNe, h1, filt_nil, kz]
theorem fLst_nil : fLst [] = some (.li .fz, .lst []) := rfl
end
/-! ### things: no scripts, dicts, objects; of bounded size -/
def good (b : Nat) : Nat → D → Prop
  | _, .non => True
  | _, .bl _ => True
  | _, .int _ => True
  | _, .str s => s.length ≤ b ∧ ∀ c ∈ s, c < 1114112
  | n + 1, .lst xs => xs.length ≤ b ∧ ∀ x ∈ xs, good b n x
  | n + 1, .tup xs => xs.length ≤ b ∧ ∀ x ∈ xs, good b n x
  | _, _ => False
theorem good_mono {b b' : Nat} (hb : b ≤ b') : ∀ {n n' : Nat} {d : D}, n ≤ n' → good b n d → good b' n' d := by
  intro n
  induction n with
  | zero =>
    intro n' d hn h
    cases d <;> simp only [good] at h <;> cases n' <;> simp only [good] <;> first | trivial | exact ⟨by omega, h.2⟩ | exact h.elim
  | succ n ih =>
    intro n' d hn h
    cases n' with
    | zero => omega
    | succ n' =>
      cases d <;> simp only [good] at h ⊢ <;> first | trivial | exact ⟨by omega, h.2⟩ | exact ⟨by omega, fun x hx => ih (by omega) (h.2 x hx)⟩
theorem good_lay {b : Nat} : ∀ {n : Nat} {d : D}, good b n d → d.lay n = true := by
  intro n
  induction n with
  | zero => intro d h; cases d <;> simp only [good] at h <;> simp [D.lay] <;> first | exact h.2 | exact h.elim
  | succ n ih =>
    intro d h
    cases d <;> simp only [good] at h <;> unfold D.lay <;> first | rfl | exact lays_of fun d hd => ih (h.2 d hd) | simpa using h.2 | exact h.elim
theorem lay_mono : ∀ {n n' : Nat} {d : D}, n ≤ n' → d.lay n = true → d.lay n' = true := by
  intro n
  induction n with
  | zero => intro n' d hn h; cases d <;> cases n' <;> simp [D.lay] at h ⊢ <;> exact h
  | succ n ih =>
    intro n' d hn h
    cases n' with
    | zero => omega
    | succ n' =>
      have ys : ∀ {xs : List D}, D.lays n xs = true → D.lays n' xs = true := by
        intro xs
        induction xs with
        | nil => intro _; unfold D.lays; rfl
        | cons x xs ih2 =>
          intro h
          unfold D.lays at h ⊢
          obtain ⟨h1, h2⟩ := Bool.and_eq_true_iff.mp h
          rw [ih (by omega) h1, ih2 h2]; rfl
      cases d <;> unfold D.lay at h ⊢ <;> first | exact h | exact ys h
@[elab_as_elim] theorem good_elim {b n : Nat} {d : D} {P : D → Prop} (h : good b n d) (h1 : P .non) (h2 : ∀ x, P (.bl x)) (h3 : ∀ i, P (.int i)) (h4 : ∀ s : List Nat, s.length ≤ b → (∀ c ∈ s, c < 1114112) → P (.str s))
    (h5 : ∀ (xs : List D) (n' : Nat), n = n' + 1 → xs.length ≤ b → (∀ x ∈ xs, good b n' x) → P (.lst xs)) (h6 : ∀ (xs : List D) (n' : Nat), n = n' + 1 → xs.length ≤ b → (∀ x ∈ xs, good b n' x) → P (.tup xs)) : P d := by
  cases d with
  | non => exact h1
  | bl x => exact h2 x
  | int i => exact h3 i
  | str s =>
    have h : s.length ≤ b ∧ ∀ c ∈ s, c < 1114112 := by cases n <;> exact h
    exact h4 s h.1 h.2
  | lst xs => cases n with
    | zero => exact h.elim
    | succ n => exact h5 xs n rfl h.1 h.2
  | tup xs => cases n with
    | zero => exact h.elim
    | succ n => exact h6 xs n rfl h.1 h.2
  | _ => cases n <;> exact h.elim
theorem FnP.eq {F : Fn} {as : List KD} {r : KD} {o : List KD} (h : FnP F as fun r' o' => r' = r ∧ o' = o) : F as = .ret r o := by
  obtain ⟨r', o', e, rfl, rfl⟩ := h
  exact e
end TB

/-! TbP7: calls that take the draws along -/
namespace TB
theorem arEv_vs : ∀ (es : List E) (S : List Slot), arEv (es.map Ar.v) S = (eAll es S).bind fun ds S1 => .ok (ds.map AV.v) S1
  | [], S => rfl
  | e :: es, S => by
    rw [List.map_cons, arEv_v, eAll_cons]
    cases eDat e S with
    | ok d S1 =>
      show (arEv (es.map Ar.v) S1).bind _ = ((eAll es S1).bind _).bind _
      rw [arEv_vs es S1]
      cases eAll es S1 <;> rfl
    | exc x S1 => rfl
    | bad => rfl
theorem arIn_vs : ∀ (ds : List D) (S : List Slot), arIn (ds.map AV.v) S = some (ds.map fun d => (.fz, d), S)
  | [], S => rfl
  | d :: ds, S => by rw [List.map_cons]; unfold arIn; rw [arIn_vs ds S]; rfl
theorem arOut_vs : ∀ (ds : List D) (S : List Slot), arOut (ds.map AV.v) [] S = some S
  | [], S => rfl
  | d :: ds, S => by rw [List.map_cons]; unfold arOut; exact arOut_vs ds S
theorem DI.own {kd : KD} (h : DI kd) : kd.1.isF = false := by obtain ⟨a, b, rfl, _⟩ := h; rfl
theorem callB_wp {F : Fn} {i : Nat} {es : List E} {S : List Slot} {kd0 : KD} {Q : KD → List Slot → Prop} (h0 : S[i]? = some (some kd0))
    (h : okP (eAll es S) fun ds S1 => match S1[i]? with
      | some (some kd) => DI kd ∧ FnP F (kd :: ds.map fun d => (.fz, d)) fun r o => ∃ kd', o = [kd'] ∧ DI kd' ∧ Q r (S1.set i (some kd'))
      | _ => False) : okP (eCall F (.b i :: es.map Ar.v) S) Q := by
  refine call_wp ?_
  rw [arEv_b, h0]
  simp only [okP_bind]
  rw [arEv_vs, okP_bind]
  refine h.mono fun ds S1 h => ?_
  cases e1 : S1[i]? with
  | none => rw [e1] at h; exact h.elim
  | some s =>
    cases s with
    | none => rw [e1] at h; exact h.elim
    | some kd =>
      rw [e1] at h
      obtain ⟨hd, r, o, e2, kd', rfl, d2, q⟩ := h
      show (match arIn (.b i :: ds.map AV.v) S1 with | some (ks, S2) => _ | none => False)
      have e3 : arIn (.b i :: ds.map AV.v) S1 = some (kd :: ds.map fun d => (.fz, d), S1.set i none) := by
        unfold arIn
        rw [e1]
        simp only [hd.own, Bool.false_eq_true, if_false]
        rw [arIn_vs]; rfl
      rw [e3]
      refine ⟨r, [kd'], e2, ?_⟩
      have e4 : arOut (.b i :: ds.map AV.v) [kd'] (S1.set i none) = some (S1.set i (some kd')) := by
        unfold arOut
        rw [List.set_set, arOut_vs]
      simp only [e4]
      exact q
theorem call1_wp {F : Fn} {i : Nat} {a : E} {S : List Slot} {kd0 : KD} {Q : KD → List Slot → Prop} (h0 : S[i]? = some (some kd0))
    (h : okP (eAll [a] S) fun ds S1 => match S1[i]? with
      | some (some kd) => DI kd ∧ FnP F (kd :: ds.map fun d => (.fz, d)) fun r o => ∃ kd', o = [kd'] ∧ DI kd' ∧ Q r (S1.set i (some kd'))
      | _ => False) : okP (eCall F [.b i, .v a] S) Q := callB_wp (es := [a]) h0 h
theorem call2_wp {F : Fn} {i : Nat} {a b : E} {S : List Slot} {kd0 : KD} {Q : KD → List Slot → Prop} (h0 : S[i]? = some (some kd0))
    (h : okP (eAll [a, b] S) fun ds S1 => match S1[i]? with
      | some (some kd) => DI kd ∧ FnP F (kd :: ds.map fun d => (.fz, d)) fun r o => ∃ kd', o = [kd'] ∧ DI kd' ∧ Q r (S1.set i (some kd'))
      | _ => False) : okP (eCall F [.b i, .v a, .v b] S) Q := callB_wp (es := [a, b]) h0 h
theorem call3_wp {F : Fn} {i : Nat} {a b c : E} {S : List Slot} {kd0 : KD} {Q : KD → List Slot → Prop} (h0 : S[i]? = some (some kd0))
    (h : okP (eAll [a, b, c] S) fun ds S1 => match S1[i]? with
      | some (some kd) => DI kd ∧ FnP F (kd :: ds.map fun d => (.fz, d)) fun r o => ∃ kd', o = [kd'] ∧ DI kd' ∧ Q r (S1.set i (some kd'))
      | _ => False) : okP (eCall F [.b i, .v a, .v b, .v c] S) Q := callB_wp (es := [a, b, c]) h0 h
theorem FnP.mono {F : Fn} {as : List KD} {Q Q' : KD → List KD → Prop} (h : FnP F as Q) (i : ∀ r o, Q r o → Q' r o) : FnP F as Q' := by
  obtain ⟨r, o, e, q⟩ := h
  exact ⟨r, o, e, i r o q⟩
/-- a thing comes, the draws behind it -/
def ThingQ (b n : Nat) (r : KD) (o : List KD) : Prop := ∃ d kd', r = (.fz, d) ∧ o = [kd'] ∧ DI kd' ∧ good b n d
theorem outs_dr {kd kd' : KD} {S : List Slot} {as : List KD} (hd : DI kd) (hd' : DI kd') (ha : outsOf as S = some []) : outsOf (kd :: as) (some kd' :: S) = some [kd'] := by
  obtain ⟨a, b, rfl, _⟩ := hd
  obtain ⟨c, e, rfl, _⟩ := hd'
  unfold outsOf dr
  simp [Kd.isF, ha]
end TB

/-! Kq1: comprehensions and loops by an invariant; association lists; paths -/
namespace TB
theorem lcG_wp {it : It} {g : Tg} {vs : List Nat} {c : T} {e : E} {S0 : List Slot} {Q : KD → List Slot → Prop}
    (h : okP (it S0) fun ds S => (vs.all (fzAt S) && noDup vs && g.sl.all vs.contains) = true ∧ ∃ I : List D → List D → List Slot → Prop, I ds [] (wipeS S vs) ∧
      (∀ d ds acc S, I (d :: ds) acc S → ∃ S1, g.put d S = some S1 ∧ okP (c S1) fun b S2 => if b = true then okP (e S2) fun kd S3 => acc.length < sizeMax ∧ I ds (acc ++ [kd.2]) (wipeS S3 vs) else I ds acc (wipeS S2 vs)) ∧
      ∀ acc S', I [] acc S' → Q (.li .fz, .lst acc) (backS S S' vs)) : okP (eLc it g vs c e S0) Q := by
  obtain ⟨ds, S, e1, hz, I, i0, st, hq⟩ := h.ex
  unfold eLc
  rw [bind_ap, e1, rbind_ok, if_pos hz]
  have key : ∀ ds acc S, I ds acc S → ∃ acc' S', cLoop g vs c e ds acc S = .ok acc' S' ∧ I [] acc' S' := by
    intro ds
    induction ds with
    | nil => intro acc S i; exact ⟨acc, S, rfl, i⟩
    | cons d ds ih =>
      intro acc S i
      obtain ⟨S1, p1, h1⟩ := st d ds acc S i
      obtain ⟨b, S2, c1, h2⟩ := h1.ex
      unfold cLoop
      rw [p1]
      show ∃ acc' S', R.bind (c S1) _ = _ ∧ _
      rw [c1, rbind_ok]
      cases b with
      | false =>
        obtain ⟨a', S', e3, i3⟩ := ih acc (wipeS S2 vs) h2
        exact ⟨a', S', e3, i3⟩
      | true =>
        have h2 : okP (e S2) fun kd S3 => acc.length < sizeMax ∧ I ds (acc ++ [kd.2]) (wipeS S3 vs) := h2
        obtain ⟨kd, S3, e2, hl, i2⟩ := h2.ex
        obtain ⟨a', S', e3, i3⟩ := ih _ _ i2
        refine ⟨a', S', ?_, i3⟩
        show R.bind (eDat e S2) _ = _
        rw [eDat_ap, e2]
        show (if acc.length < sizeMax then cLoop g vs c e ds (acc ++ [kd.2]) (wipeS S3 vs) else .bad) = _
        rw [if_pos hl]; exact e3
  obtain ⟨a', S', e2, i2⟩ := key ds [] _ i0
  rw [e2]
  exact hq a' S' i2
/-- a for by an invariant; it may end early -/
theorem loopG_wp {g : Tg} {b : St} {Q : Fl → List Slot → Prop} (I : List D → List Slot → Prop)
    (h : ∀ d ds S, I (d :: ds) S → ∃ S1, g.put d S = some S1 ∧ okP (b S1) fun f S' => match f with
      | .nx => I ds S'
      | .rt r => Q (.rt r) S'
      | _ => False) (hq : ∀ S, I [] S → Q .nx S) : ∀ (ds : List D) (S : List Slot), I ds S → okP (loop g b ds S) Q
  | [], S, i => hq S i
  | d :: ds, S, i => by
    obtain ⟨S1, p1, h1⟩ := h d ds S i
    obtain ⟨f, S2, e1, h2⟩ := h1.ex
    unfold loop
    rw [p1]
    show okP (R.bind (b S1) _) Q
    rw [e1, rbind_ok]
    cases f with
    | nx => exact loopG_wp I h hq ds S2 h2
    | rt r => exact h2
    | bk => exact h2.elim
    | ct => exact h2.elim
theorem put_nm {i : Nat} {d : D} {S : List Slot} (h : i < S.length) : Tg.put (.nm i) d S = some (S.set i (some (.fz, d))) := by unfold Tg.put; rw [if_pos h]
/-! association lists -/
section
variable {κ β : Type} [DecidableEq κ]
def aget : List (κ × β) → κ → Option β
  | [], _ => none
  | p :: m, k => if p.1 = k then some p.2 else aget m k
def aset : List (κ × β) → κ → β → List (κ × β)
  | [], k, v => [(k, v)]
  | p :: m, k, v => if p.1 = k then (p.1, v) :: m else p :: aset m k v
theorem aget_cons (p : κ × β) (m : List (κ × β)) (k : κ) : aget (p :: m) k = if p.1 = k then some p.2 else aget m k := rfl
theorem aset_cons (p : κ × β) (m : List (κ × β)) (k : κ) (v : β) : aset (p :: m) k v = if p.1 = k then (p.1, v) :: m else p :: aset m k v := rfl
def aks (m : List (κ × β)) : List κ := m.map (·.1)
def encA (K : κ → D) (V : β → D) (m : List (κ × β)) : List (D × D) := m.map fun p => (K p.1, V p.2)
theorem encA_len (K : κ → D) (V : β → D) (m : List (κ × β)) : (encA K V m).length = m.length := List.length_map _
theorem aset_len (m : List (κ × β)) (k : κ) (v : β) : (aset m k v).length ≤ m.length + 1 := by
  induction m with
  | nil => simp [aset]
  | cons p m ih => unfold aset; split <;> simp <;> omega
theorem aset_keys (m : List (κ × β)) (k : κ) (v : β) : aks (aset m k v) = if k ∈ aks m then aks m else aks m ++ [k] := by
  induction m with
  | nil => simp [aset, aks]
  | cons p m ih =>
    unfold aset
    by_cases h : p.1 = k
    · rw [if_pos h]; simp [aks, h]
    · rw [if_neg h]
      have h2 : ¬ k = p.1 := fun q => h q.symm
      show p.1 :: aks (aset m k v) = if k ∈ p.1 :: aks m then p.1 :: aks m else p.1 :: aks m ++ [k]
      rw [ih]
      by_cases q : k ∈ aks m
      · rw [if_pos q, if_pos (List.mem_cons_of_mem _ q)]
      · rw [if_neg q, if_neg (by simp [h2, q])]; rfl
theorem aset_nd {m : List (κ × β)} {k : κ} {v : β} (h : (aks m).Nodup) : (aks (aset m k v)).Nodup := by
  rw [aset_keys]
  split
  · exact h
  · rename_i q
    exact List.nodup_append.mpr ⟨h, by simp, fun a ha b hb => by simp at hb; subst hb; intro e; subst e; exact q ha⟩
theorem aget_none {m : List (κ × β)} {k : κ} : aget m k = none ↔ k ∉ aks m := by
  induction m with
  | nil => simp [aget, aks]
  | cons p m ih =>
    unfold aget
    simp only [aks, List.map_cons, List.mem_cons, not_or] at *
    by_cases h : p.1 = k
    · rw [if_pos h]; simp; intro q; exact absurd h.symm q
    · rw [if_neg h, ih]; simp; intro _ q; exact h q.symm
theorem aget_mem {m : List (κ × β)} {k : κ} {v : β} (h : aget m k = some v) : (k, v) ∈ m := by
  induction m with
  | nil => simp [aget] at h
  | cons p m ih =>
    unfold aget at h
    by_cases q : p.1 = k
    · rw [if_pos q] at h; cases h; subst q; exact List.mem_cons_self
    · rw [if_neg q] at h; exact List.mem_cons_of_mem _ (ih h)
theorem aget_set (m : List (κ × β)) (k : κ) (v : β) (k' : κ) : aget (aset m k v) k' = if k = k' then some v else aget m k' := by
  induction m with
  | nil => simp [aset, aget]
  | cons p m ih =>
    unfold aset
    by_cases h : p.1 = k
    · rw [if_pos h]; unfold aget
      by_cases h2 : k = k'
      · simp [h, h2]
      · simp [h, h2]
    · rw [if_neg h]; unfold aget; rw [ih]
      by_cases h2 : k = k'
      · subst h2; simp [h]
      · simp [h2]
theorem aset_set (m : List (κ × β)) (k : κ) (v w : β) : aset (aset m k v) k w = aset m k w := by
  induction m with
  | nil => simp [aset]
  | cons p m ih =>
    unfold aset
    by_cases h : p.1 = k
    · simp [h, aset]
    · simp [h, aset, ih]
theorem aset_mem {m : List (κ × β)} {k : κ} {v : β} {p : κ × β} (h : p ∈ aset m k v) : p = (k, v) ∨ p ∈ m := by
  induction m with
  | nil => simp [aset] at h; exact .inl h
  | cons q m ih =>
    unfold aset at h
    by_cases e : q.1 = k
    · rw [if_pos e] at h
      rcases List.mem_cons.mp h with h | h
      · subst e; exact .inl h
      · exact .inr (List.mem_cons_of_mem _ h)
    · rw [if_neg e] at h
      rcases List.mem_cons.mp h with h | h
      · exact .inr (h ▸ List.mem_cons_self)
      · rcases ih h with h | h
        · exact .inl h
        · exact .inr (List.mem_cons_of_mem _ h)
variable {K : κ → D} {V : β → D} (he : ∀ a b, D.eqv (K a) (K b) = decide (a = b))
include he
theorem val_enc (m : List (κ × β)) (k : κ) : valD (encA K V m) (K k) = (aget m k).map V := by
  induction m with
  | nil => rfl
  | cons p m ih =>
    unfold valD encA at *
    rw [aget_cons, List.map_cons, List.find?_cons, he]
    by_cases h : p.1 = k
    · simp [h]
    · simp only [h, decide_false, if_false]; exact ih
theorem any_enc (m : List (κ × β)) (k : κ) : ((encA K V m).any fun p => D.eqv p.1 (K k)) = decide (k ∈ aks m) := by
  unfold encA aks
  rw [List.any_map]
  induction m with
  | nil => simp
  | cons p m ih =>
    rw [List.any_cons, ih]
    show (D.eqv (K p.1) (K k) || _) = _
    rw [he]
    by_cases h : p.1 = k <;> simp [h, eq_comm]
    · intro q; exact absurd q.symm h
theorem put_enc {m : List (κ × β)} (nd : (aks m).Nodup) (k : κ) (v : β) : putD (encA K V m) (K k) (V v) = encA K V (aset m k v) := by
  unfold putD
  rw [any_enc he]
  by_cases h : k ∈ aks m
  · rw [if_pos (decide_eq_true h)]
    induction m with
    | nil => simp [aks] at h
    | cons p m ih =>
      unfold encA at *
      rw [aset_cons, List.map_cons, List.map_cons]
      have nd' : (p.1 :: aks m).Nodup := nd
      show (if D.eqv (K p.1) (K k) = true then (K p.1, V v) else (K p.1, V p.2)) :: _ = _
      rw [he]
      by_cases q : p.1 = k
      · subst q
        simp only [decide_true, if_true, List.map_cons]
        congr 1
        rw [List.map_map]
        refine List.map_congr_left fun s hs => ?_
        show (if D.eqv (K s.1) (K p.1) = true then (K s.1, V v) else (K s.1, V s.2)) = _
        rw [he]
        have : ¬ s.1 = p.1 := fun e => (List.nodup_cons.mp nd').1 (List.mem_map.mpr ⟨s, hs, e⟩)
        simp [this]
      · simp only [q, decide_false, Bool.false_eq_true, if_false, List.map_cons]
        congr 1
        refine ih (List.nodup_cons.mp nd').2 ?_
        rcases List.mem_cons.mp (show k ∈ p.1 :: aks m from h) with e | e
        · exact absurd e.symm q
        · exact e
  · rw [if_neg (by simp [h])]
    induction m with
    | nil => rfl
    | cons p m ih =>
      have h' : k ∉ p.1 :: aks m := h
      unfold encA at *
      rw [aset_cons, if_neg (fun e : p.1 = k => h' (e ▸ List.mem_cons_self)), List.map_cons, List.cons_append, List.map_cons]
      congr 1
      exact ih (List.nodup_cons.mp (show (p.1 :: aks m).Nodup from nd)).2 (fun q => h' (List.mem_cons_of_mem _ q))
theorem key_enc (m : List (κ × β)) (k : κ) {v : β} (h : aget m k = some v) : ∃ n, keyAt (encA K V m) (K k) = some n ∧ (encA K V m)[n]? = some (K k, V v) ∧ ∀ w, (encA K V m).set n (K k, w) = (m.map fun p => (K p.1, V p.2)).set n (K k, w) ∧ ∀ u, (encA K V m).set n (K k, V u) = encA K V (aset m k u) := by
  induction m with
  | nil => simp [aget] at h
  | cons p m ih =>
    unfold aget at h
    unfold keyAt encA at *
    rw [List.map_cons, List.findIdx?_cons]
    show ∃ n, (if D.eqv (K p.1) (K k) = true then some 0 else _) = _ ∧ _
    rw [he]
    by_cases q : p.1 = k
    · subst q
      simp only [if_true] at h
      cases h
      refine ⟨0, by simp, rfl, fun w => ⟨rfl, fun u => ?_⟩⟩
      simp [aset]
    · simp only [q, if_false] at h
      obtain ⟨n, e1, e2, e3⟩ := ih h
      refine ⟨n + 1, ?_, ?_, fun w => ⟨rfl, fun u => ?_⟩⟩
      · simp only [q, decide_false, Bool.false_eq_true, if_false, e1]; rfl
      · simpa using e2
      · have := (e3 w).2 u
        simp only [List.set_cons_succ, this]
        simp [aset, q]
theorem key_none (m : List (κ × β)) (k : κ) (h : aget m k = none) : keyAt (encA K V m) (K k) = none := by
  unfold keyAt
  rw [List.findIdx?_eq_none_iff]
  intro x hx
  obtain ⟨p, hp, rfl⟩ := List.mem_map.mp hx
  show D.eqv (K p.1) (K k) = false
  rw [he]
  refine decide_eq_false fun e => ?_
  exact aget_none.mp h (List.mem_map.mpr ⟨p, hp, e⟩)
/-- dict(pairs) -/
theorem merge_enc (hk : ∀ a, isKey (K a) = true) (ps : List (κ × β)) : ∀ m : List (κ × β), (aks m).Nodup → mergeD (encA K V m) (ps.map fun p => (K p.1, V p.2)) = encA K V (ps.foldl (fun m p => aset m p.1 p.2) m) := by
  induction ps with
  | nil => intro m _; rfl
  | cons p ps ih =>
    intro m nd
    rw [List.map_cons, List.foldl_cons]
    show mergeD (putD (encA K V m) (K p.1) (V p.2)) _ = _
    rw [put_enc he nd]
    exact ih _ (aset_nd nd)
end
end TB

/-! Pk31 (spans): the words of a span, plainly -/
namespace LW
open TB
def sp (a b : Int) : D := .ob 1 [.int a, .int b]
section
variable {Γ : Nat → Fn}
theorem s81 (a b : Int) : runF 3 [0] (mb_81 Γ) [(.ob [], .ob 1 []), (.fz, .int a), (.fz, .int b)] = .ret (.fz, .non) [(.ob [.fz, .fz], sp a b)] := rfl
theorem s82 {a b : Int} (ha : a.natAbs ≤ 100000000) (hb : b.natAbs ≤ 100000000) (h : a ≤ b) : runF 1 [] (mb_82 Γ) [(.fz, sp a b)] = .ret (.fz, .int (b - a + 1)) [] := by
  have e1 : fFld 1 0 (sp a b) = some (.fz, .int a) := rfl
  have e2 : fFld 1 1 (sp a b) = some (.fz, .int b) := rfl
  have e3 : fAdd (.int b) (.int 1) = some (.fz, .int (b + 1)) := rfl
  have e4 : fLenRg (.int a) (.int (b + 1)) = some (.fz, .int (b - a + 1)) := by
    show (if a.natAbs < 10 ^ 15 ∧ (b + 1).natAbs < 10 ^ 15 then kz (.int (if a < b + 1 then b + 1 - a else 0)) else none) = _
    rw [if_pos (by omega), if_pos (by omega), show b + 1 - a = b - a + 1 from by omega]
    rfl
  refine FnP.eq (runF_wp (by rfl) ?_)
  simp [mb_82, e1, e2, e3, e4, outsOf, Kd.isF]
theorem eqI (a b : Int) : fEq (.int a) (.int b) = some (.fz, .bl (decide (a = b))) := by
  show (if eqOk (.int a) (.int b) = true then kz (.bl (D.eqv (.int a) (.int b))) else none) = _
  rw [if_pos (by simp [eqOk, D.flat])]
  show some (((.fz, .bl (a == b)) : KD)) = _
  congr 3
theorem s83 (a b c d : Int) : runF 2 [] (mb_83 Γ) [(.fz, sp a b), (.fz, sp c d)] = .ret (.fz, .bl (decide (a = c) && decide (b = d))) [] := by
  have e1 : ∀ a b, fFld 1 0 (sp a b) = some (.fz, .int a) := fun _ _ => rfl
  have e2 : ∀ a b, fFld 1 1 (sp a b) = some (.fz, .int b) := fun _ _ => rfl
  have e3 : fIsO 1 (sp c d) = some (.fz, .bl true) := rfl
  refine FnP.eq (runF_wp (by rfl) ?_)
  simp [mb_83, eIsO, e1, e2, e3, eqI, outsOf, Kd.isF, -Prod.exists, -Prod.forall]
  by_cases q : a = c
  · simp [q, outsOf, Kd.isF]
  · simp [q, outsOf, Kd.isF]
theorem s83n (a b : Int) {x : D} (hx : fIsO 1 x = some (.fz, .bl false)) : runF 2 [] (mb_83 Γ) [(.fz, sp a b), (.fz, x)] = .ret (.fz, .bl false) [] := by
  refine FnP.eq (runF_wp (by rfl) ?_)
  simp [mb_83, eIsO, hx, outsOf, Kd.isF, -Prod.exists, -Prod.forall]
def spanS (a b : Int) : List Nat := if a = b then strI a else strI a ++ ([45] ++ strI b)
theorem strI_len {i : Int} (h : i.natAbs ≤ 100000000) : (strI i).length ≤ 100 := by
  unfold strI
  rw [List.length_map, String.length_toList]
  have key : ∀ n : Nat, n ≤ 100000000 → (Nat.repr n).length ≤ 9 := fun n h => (Nat.length_repr_le_iff (by decide)).mpr (Nat.lt_of_le_of_lt h (by decide))
  cases i with
  | ofNat m =>
    have e : toString (Int.ofNat m) = Nat.repr m := rfl
    rw [e]
    exact Nat.le_trans (key m h) (by decide)
  | negSucc m =>
    have e : toString (Int.negSucc m) = "-" ++ Nat.repr (m + 1) := rfl
    rw [e, String.length_append]
    have e1 : "-".length = 1 := rfl
    have e2 := key (m + 1) h
    omega
theorem s84 {a b : Int} (ha : a.natAbs ≤ 100000000) (hb : b.natAbs ≤ 100000000) (h : a ≤ b) : runF 2 [] (mb_84 Γ) [(.fz, sp a b)] = .ret (.fz, .str (spanS a b)) [] := by
  have e1 : fFld 1 0 (sp a b) = some (.fz, .int a) := rfl
  have e2 : fFld 1 1 (sp a b) = some (.fz, .int b) := rfl
  have e3 : ∀ i : Int, i.natAbs ≤ 100000000 → fStrI [.int i] = some (.fz, .str (strI i)) := fun i h => by
    show (if i.natAbs < 10 ^ 30 then kz (.str (strI i)) else none) = _
    rw [if_pos (by omega)]; rfl
  have e4 : fGt (.int b) (.int a) = some (.fz, .bl (decide (a < b))) := rfl
  have l1 := strI_len ha
  have l2 := strI_len hb
  have e5 : ∀ x : D, fLst [x] = some (.li .fz, .lst [x]) := fun _ => rfl
  have e6 : ∀ x y : D, fAdd (.lst [x]) (.lst [y]) = some (.li .fz, .lst [x, y]) := fun _ _ => rfl
  have j1 : fJoin [45] (.lst [.str (strI a)]) = some (.fz, .str (strI a)) := by
    show (if ([strI a].map (·.length)).sum + [strI a].length * 1 ≤ sizeMax then kz (.str (joinD [45] [strI a])) else none) = _
    rw [if_pos (by simp; unfold sizeMax; omega)]; rfl
  have j2 : fJoin [45] (.lst [.str (strI a), .str (strI b)]) = some (.fz, .str (strI a ++ ([45] ++ strI b))) := by
    show (if ([strI a, strI b].map (·.length)).sum + [strI a, strI b].length * 1 ≤ sizeMax then kz (.str (joinD [45] [strI a, strI b])) else none) = _
    rw [if_pos (by simp; unfold sizeMax; omega)]; rfl
  refine FnP.eq (runF_wp (by rfl) ?_)
  by_cases q : a = b
  · subst q
    simp [mb_84, e1, e2, e3 a ha, e4, e5, j1, spanS, outsOf, Kd.isF, -Prod.exists, -Prod.forall]
  · have q' : a < b := by omega
    simp [mb_84, e1, e2, e3 a ha, e3 b hb, e4, e5, e6, j2, spanS, q, q', outsOf, Kd.isF, -Prod.exists, -Prod.forall]
theorem s223 (a b p : Int) : runF 2 [] (mb_223 Γ) [(.fz, sp a b), (.fz, .int p)] = .ret (.fz, .bl (decide (a ≤ p) && decide (p ≤ b))) [] := by
  have e1 : fFld 1 0 (sp a b) = some (.fz, .int a) := rfl
  have e2 : fFld 1 1 (sp a b) = some (.fz, .int b) := rfl
  have e4 : ∀ a b : Int, fLe (.int a) (.int b) = some (.fz, .bl (decide (a ≤ b))) := fun _ _ => rfl
  refine FnP.eq (runF_wp (by rfl) ?_)
  by_cases q : a ≤ p
  · simp [mb_223, e1, e2, e4, q, outsOf, Kd.isF, -Prod.exists, -Prod.forall]
  · simp [mb_223, e1, e2, e4, q, outsOf, Kd.isF, -Prod.exists, -Prod.forall]
/-! ### the law -/
structure H31 (Γ : Nat → Fn) : Prop where
  d6 : DrawsOk (Γ 6)
  d7 : DrawOk (Γ 7)
  h81 : ∀ a b, Γ 81 [(.ob [], .ob 1 []), (.fz, .int a), (.fz, .int b)] = .ret (.fz, .non) [(.ob [.fz, .fz], sp a b)]
  h82 : ∀ a b : Int, a.natAbs ≤ 100000000 → b.natAbs ≤ 100000000 → a ≤ b → Γ 82 [(.fz, sp a b)] = .ret (.fz, .int (b - a + 1)) []
  h83 : ∀ a b c d : Int, Γ 83 [(.fz, sp a b), (.fz, sp c d)] = .ret (.fz, .bl (decide (a = c) && decide (b = d))) []
  h83n : ∀ (a b : Int) (x : D), fIsO 1 x = some (.fz, .bl false) → Γ 83 [(.fz, sp a b), (.fz, x)] = .ret (.fz, .bl false) []
  h84 : ∀ a b : Int, a.natAbs ≤ 100000000 → b.natAbs ≤ 100000000 → a ≤ b → Γ 84 [(.fz, sp a b)] = .ret (.fz, .str (spanS a b)) []
  h223 : ∀ a b p : Int, Γ 223 [(.fz, sp a b), (.fz, .int p)] = .ret (.fz, .bl (decide (a ≤ p) && decide (p ≤ b))) []
theorem make_a (h : H31 Γ) {a b : E} {S : List Slot} {i j : Int} (ha : a S = .ok (.fz, .int i) S) (hb : b S = .ok (.fz, .int j) S) : eMake 1 (Γ 81) [.v a, .v b] S = .ok (.ob [.fz, .fz], sp i j) S := by
  simp [eMake, arEv_v, arEv_nil, ha, hb, arIn, h.h81, arOut]
theorem eq_a (h : H31 Γ) {a b : E} {S : List Slot} {i j m n : Int} (ha : a S = .ok (.fz, sp i j) S) (hb : b S = .ok (.fz, sp m n) S) : eEqO 1 (Γ 83) (.v a) (.v b) S = .ok (.fz, .bl (decide (i = m) && decide (j = n))) S := by
  have q : isObj 1 (.v (sp i j)) S = true := rfl
  have q2 : tyOkA 1 (.v (sp m n)) S = true := rfl
  simp [eEqO, eEqO1, arEv_v, arEv_nil, ha, hb, q, q2, callAV, arIn, h.h83, arOut, okR, isBlK]
theorem eq_n (h : H31 Γ) {a b : E} {S : List Slot} {i j : Int} {x : D} (ha : a S = .ok (.fz, sp i j) S) (hb : b S = .ok (.fz, x) S) (hx : fIsO 1 x = some (.fz, .bl false)) (q2 : tyB x = true) : eEqO 1 (Γ 83) (.v a) (.v b) S = .ok (.fz, .bl false) S := by
  have q : isObj 1 (.v (sp i j)) S = true := rfl
  have q2 : tyOkA 1 (.v x) S = true := by
    show (isObj 1 (.v x) S || tyB x) = true
    rw [q2, Bool.or_true]
  simp [eEqO, eEqO1, arEv_v, arEv_nil, ha, hb, q, q2, callAV, arIn, h.h83n _ _ _ hx, arOut, okR, isBlK]
theorem ne_a {F : Fn} {a b : Ar} {S : List Slot} {c : Bool} (h : eEqO 1 F a b S = .ok (.fz, .bl c) S) : eNeO 1 F a b S = .ok (.fz, .bl (!c)) S := by
  simp [eNeO, h, notK]
theorem len_a (h : H31 Γ) {a : E} {S : List Slot} {i j : Int} (ha : a S = .ok (.fz, sp i j) S) (h1 : i.natAbs ≤ 100000000) (h2 : j.natAbs ≤ 100000000) (h3 : i ≤ j) : eLenO 1 (Γ 82) (.v a) S = .ok (.fz, .int (j - i + 1)) S := by
  have q : isObj 1 (.v (sp i j)) S = true := rfl
  have q2 : isLnK (.fz, .int (j - i + 1)) = true := by
    show (decide (0 ≤ j - i + 1) && decide (j - i + 1 < 9223372036854775808)) = true
    simp; omega
  simp [eLenO, eOwnC, arEv_v, arEv_nil, ha, q, callAV, arIn, h.h82 i j h1 h2 h3, arOut, okR, q2]
theorem str_a (h : H31 Γ) {a : E} {S : List Slot} {i j : Int} (ha : a S = .ok (.fz, sp i j) S) (h1 : i.natAbs ≤ 100000000) (h2 : j.natAbs ≤ 100000000) (h3 : i ≤ j) : eStrO 1 (Γ 84) (.v a) S = .ok (.fz, .str (spanS i j)) S := by
  have q : isObj 1 (.v (sp i j)) S = true := rfl
  simp [eStrO, eOwnC, arEv_v, arEv_nil, ha, q, callAV, arIn, h.h84 i j h1 h2 h3, arOut, okR, isStK]
theorem holds_a (h : H31 Γ) {a b : E} {S : List Slot} {i j p : Int} (ha : a S = .ok (.fz, sp i j) S) (hb : b S = .ok (.fz, .int p) S) : eMeth 1 (Γ 223) (.v a) [.v b] [] S = .ok (.fz, .bl (decide (i ≤ p) && decide (p ≤ j))) S := by
  have q : isObj 1 (.v (sp i j)) S = true := rfl
  simp [eMeth, arEv_v, arEv_nil, ha, hb, q, callAV, arIn, h.h223, arOut]
end
end LW

/-! Pk31B (spans): the law, plainly -/
namespace LW
open TB
section
variable {Γ : Nat → Fn}
theorem mem_rng {lo : Int} {n : Nat} {d : D} (h : d ∈ rangeL lo n) : ∃ i : Nat, i < n ∧ d = .int (lo + i) := by
  unfold rangeL at h
  obtain ⟨i, hi, rfl⟩ := List.mem_map.mp h
  exact ⟨i, List.mem_range.mp hi, rfl⟩
theorem call6 {F : Fn} {S : List Slot} {ns : List Int} {k : Int} {d : KD} (e : F [(.fz, .scr ns), (.fz, .int k)] = .ret d []) (h0 : S[0]? = some (some (.fz, .scr ns))) (h1 : S[1]? = some (some (.fz, .int k))) : eCall F [.v (eVar 0), .v (eVar 1)] S = .ok d S := by
  simp [eCall_ap, arEv_v, arEv_nil, h0, h1, arIn, e, arOut]
theorem pairEq (a b c d : Int) : fEq (.tup [.int a, .int b]) (.tup [.int c, .int d]) = some (.fz, .bl (decide (a = c) && decide (b = d))) := by
  show (if eqOk (.tup [.int a, .int b]) (.tup [.int c, .int d]) = true then kz (.bl (D.eqv (.tup [.int a, .int b]) (.tup [.int c, .int d]))) else none) = _
  rw [if_pos (by simp [eqOk, D.flat, D.lay, D.lays])]
  show some (((.fz, .bl ((a == c) && ((b == d) && true))) : KD)) = _
  rw [Bool.and_true]
  rfl
theorem neB (b : Bool) : fNe (.bl b) (.bl b) = some (.fz, .bl false) := by cases b <;> rfl
theorem eqB (b : Bool) : fEq (.bl (!b)) (.bl b) = some (.fz, .bl false) := by cases b <;> rfl
def I1 (S0 : List Slot) (ds : List D) (S : List Slot) : Prop := (∀ d ∈ ds, ∃ f l : Int, d = .tup [.int f, .int l]) ∧ ∃ x7 x8 x9 x10 x11 x12 x13 : Slot, S = S0 ++ [x7, x8, x9, x10, x11, x12, x13]
/-- the first walk: over the pairs -/
theorem walk1 (h : H31 Γ) {s0 s1 s2 s6 : Slot} {lo hi : Int} {ds : List D} {Q : Fl → List Slot → Prop} {S : List Slot} (i : I1 [s0, s1, s2, some (.fz, .int lo), some (.fz, .int hi), some (.fz, sp lo hi), s6] ds S)
    (hq : ∀ x7 x8 x9 x10 x11 x12 x13 : Slot, Q .nx [s0, s1, s2, some (.fz, .int lo), some (.fz, .int hi), some (.fz, sp lo hi), s6, x7, x8, x9, x10, x11, x12, x13]) :
    okP (loop (.tp [(.nm 7), (.nm 8)]) (sSeq (sSet 11 (eFr (eMake 1 (Γ 81) [.v (eVar 7), .v (eVar 8)]))) (sSeq (sSet 12 (eOp fEq (eApp fTup [(eVar 7), (eVar 8)]) (eApp fTup [(eVar 3), (eVar 4)]))) (sIf (tOr (eBool (eOp fNe (eEqO 1 (Γ 83) (.v (eVar 5)) (.v (eVar 11))) (eVar 12))) (tOr (eBool (eOp fEq (eNeO 1 (Γ 83) (.v (eVar 5)) (.v (eVar 11))) (eVar 12))) (eBool (eOp fNe (eEqO 1 (Γ 83) (.v (eVar 11)) (.v (eVar 5))) (eVar 12))))) (sRet (eCon (.bl false))) sNx))) ds S) Q := by
  refine loopG_wp (I1 [s0, s1, s2, some (.fz, .int lo), some (.fz, .int hi), some (.fz, sp lo hi), s6]) ?_ ?_ _ _ i
  · rintro d xs S ⟨hd, x7, x8, x9, x10, x11, x12, x13, rfl⟩
    obtain ⟨f, l, rfl⟩ := hd d List.mem_cons_self
    refine ⟨[s0, s1, s2, some (.fz, .int lo), some (.fz, .int hi), some (.fz, sp lo hi), s6, some (.fz, .int f), some (.fz, .int l), x9, x10, x11, x12, x13], by rfl, ?_⟩
    have m := make_a h (a := eVar 7) (b := eVar 8) (S := [s0, s1, s2, some (.fz, .int lo), some (.fz, .int hi), some (.fz, sp lo hi), s6, some (.fz, .int f), some (.fz, .int l), x9, x10, x11, x12, x13]) (i := f) (j := l) (by simp) (by simp)
    have t2 : ∀ a b : Int, fTup [.int a, .int b] = some (.fz, .tup [.int a, .int b]) := fun _ _ => rfl
    have c : (decide (f = lo) && decide (l = hi)) = (decide (lo = f) && decide (hi = l)) := by
      rw [decide_eq_decide.mpr (eq_comm (a := f) (b := lo)), decide_eq_decide.mpr (eq_comm (a := l) (b := hi))]
    have q1 := eq_a h (a := eVar 5) (b := eVar 11) (S := [s0, s1, s2, some (.fz, .int lo), some (.fz, .int hi), some (.fz, sp lo hi), s6, some (.fz, .int f), some (.fz, .int l), x9, x10, some (.fz, sp f l), some (.fz, .bl (decide (lo = f) && decide (hi = l))), x13]) (i := lo) (j := hi) (m := f) (n := l) (by simp) (by simp)
    have q2 := eq_a h (a := eVar 11) (b := eVar 5) (S := [s0, s1, s2, some (.fz, .int lo), some (.fz, .int hi), some (.fz, sp lo hi), s6, some (.fz, .int f), some (.fz, .int l), x9, x10, some (.fz, sp f l), some (.fz, .bl (decide (lo = f) && decide (hi = l))), x13]) (i := f) (j := l) (m := lo) (n := hi) (by simp) (by simp)
    rw [c] at q2
    have q3 := ne_a q1
    simp [m, t2, pairEq, c, -Prod.exists, -Prod.forall]
    generalize (decide (lo = f) && decide (hi = l)) = b at *
    simp [q1, q2, q3, neB, eqB, -Prod.exists, -Prod.forall]
    exact ⟨fun d hd' => hd d (List.mem_cons_of_mem _ hd'), _, _, _, _, _, _, _, rfl⟩
  · rintro S ⟨_, x7, x8, x9, x10, x11, x12, x13, rfl⟩
    exact hq ..
def I2 (S0 : List Slot) (ds : List D) (S : List Slot) : Prop := (∀ d ∈ ds, ∃ p : Int, d = .int p) ∧ ∃ x9 x10 x11 x12 x13 : Slot, S = S0 ++ [x9, x10, x11, x12, x13]
/-- the second walk: over the pence -/
theorem walk2 (h : H31 Γ) {s0 s1 s2 s6 s7 s8 : Slot} {lo hi : Int} {ds : List D} {Q : Fl → List Slot → Prop} {S : List Slot} (i : I2 [s0, s1, s2, some (.fz, .int lo), some (.fz, .int hi), some (.fz, sp lo hi), s6, s7, s8] ds S)
    (hq : ∀ x9 x10 x11 x12 x13 : Slot, Q .nx [s0, s1, s2, some (.fz, .int lo), some (.fz, .int hi), some (.fz, sp lo hi), s6, s7, s8, x9, x10, x11, x12, x13]) :
    okP (loop (.nm 9) (sSeq (sSet 13 (eMeth 1 (Γ 223) (.v (eVar 5)) [.v (eVar 9)] [])) (sIf (tOr (tNot (eBool (eIsi .bool (eVar 13)))) (eBool (eOp fNe (eVar 13) (eAnd (eOp fLe (eVar 3) (eVar 9)) (eOp fLe (eVar 9) (eVar 4)))))) (sRet (eCon (.bl false))) sNx)) ds S) Q := by
  refine loopG_wp (I2 [s0, s1, s2, some (.fz, .int lo), some (.fz, .int hi), some (.fz, sp lo hi), s6, s7, s8]) ?_ ?_ _ _ i
  · rintro d xs S ⟨hd, x9, x10, x11, x12, x13, rfl⟩
    obtain ⟨p, rfl⟩ := hd d List.mem_cons_self
    refine ⟨[s0, s1, s2, some (.fz, .int lo), some (.fz, .int hi), some (.fz, sp lo hi), s6, s7, s8, some (.fz, .int p), x10, x11, x12, x13], by rfl, ?_⟩
    have m := holds_a h (a := eVar 5) (b := eVar 9) (S := [s0, s1, s2, some (.fz, .int lo), some (.fz, .int hi), some (.fz, sp lo hi), s6, s7, s8, some (.fz, .int p), x10, x11, x12, x13]) (i := lo) (j := hi) (p := p) (by simp) (by simp)
    have le : ∀ a b : Int, fLe (.int a) (.int b) = some (.fz, .bl (decide (a ≤ b))) := fun _ _ => rfl
    have ib : ∀ b : Bool, fIsi .bool (.bl b) = some (.fz, .bl true) := fun _ => rfl
    simp [m, ib, le, -Prod.exists, -Prod.forall]
    by_cases q : lo ≤ p
    · simp [q, neB, -Prod.exists, -Prod.forall]
      exact ⟨fun d hd' => hd d (List.mem_cons_of_mem _ hd'), _, _, _, _, _, rfl⟩
    · simp [q, neB, -Prod.exists, -Prod.forall]
      exact ⟨fun d hd' => hd d (List.mem_cons_of_mem _ hd'), _, _, _, _, _, rfl⟩
  · rintro S ⟨_, x9, x10, x11, x12, x13, rfl⟩
    exact hq ..
def I3 (S0 : List Slot) (ds : List D) (S : List Slot) : Prop := (∀ d ∈ ds, fIsO 1 d = some (.fz, .bl false) ∧ tyB d = true) ∧ ∃ x10 x11 x12 x13 : Slot, S = S0 ++ [x10, x11, x12, x13]
/-- the third walk: over other things -/
theorem walk3 (h : H31 Γ) {s0 s1 s2 s3 s4 s6 s7 s8 s9 : Slot} {lo hi : Int} {ds : List D} {Q : Fl → List Slot → Prop} {S : List Slot} (i : I3 [s0, s1, s2, s3, s4, some (.fz, sp lo hi), s6, s7, s8, s9] ds S)
    (hq : ∀ x10 x11 x12 x13 : Slot, Q .nx [s0, s1, s2, s3, s4, some (.fz, sp lo hi), s6, s7, s8, s9, x10, x11, x12, x13]) :
    okP (loop (.nm 10) (sIf (tOr (eBool (eEqO 1 (Γ 83) (.v (eVar 5)) (.v (eVar 10)))) (tNot (eBool (eNeO 1 (Γ 83) (.v (eVar 5)) (.v (eVar 10)))))) (sRet (eCon (.bl false))) sNx) ds S) Q := by
  refine loopG_wp (I3 [s0, s1, s2, s3, s4, some (.fz, sp lo hi), s6, s7, s8, s9]) ?_ ?_ _ _ i
  · rintro d xs S ⟨hd, x10, x11, x12, x13, rfl⟩
    obtain ⟨o1, o2⟩ := hd d List.mem_cons_self
    refine ⟨[s0, s1, s2, s3, s4, some (.fz, sp lo hi), s6, s7, s8, s9, some (.fz, d), x11, x12, x13], by rfl, ?_⟩
    have m := eq_n h (a := eVar 5) (b := eVar 10) (S := [s0, s1, s2, s3, s4, some (.fz, sp lo hi), s6, s7, s8, s9, some (.fz, d), x11, x12, x13]) (i := lo) (j := hi) (x := d) (by simp) (by simp) o1 o2
    have m2 := ne_a m
    simp [m, m2, -Prod.exists, -Prod.forall]
    exact ⟨fun d hd' => hd d (List.mem_cons_of_mem _ hd'), _, _, _, _, rfl⟩
  · rintro S ⟨_, x10, x11, x12, x13, rfl⟩
    exact hq ..
def J31 (ns : List Int) (ds : List D) (S : List Slot) : Prop := (∀ d ∈ ds, ∃ k : Int, d = .int k ∧ 0 ≤ k ∧ k ≤ 1000) ∧ ∃ x1 x2 x3 x4 x5 x6 x7 x8 x9 x10 x11 x12 x13 : Slot, S = [some (.fz, .scr ns), x1, x2, x3, x4, x5, x6, x7, x8, x9, x10, x11, x12, x13]
theorem rest31 (h : H31 Γ) {ns : List Int} {k : Int} {d2 : KD} {lo hi : Int} {ds : List D} (hd : ∀ d ∈ ds, ∃ k : Int, d = .int k ∧ 0 ≤ k ∧ k ≤ 1000) (l0 : 1 ≤ lo) (l1 : lo ≤ hi) (l2 : hi ≤ 1000000) {x5 x6 x7 x8 x9 x10 x11 x12 x13 : Slot} {Q : KD → List KD → Prop} :
    okP (sSeq (sSet 5 (eFr (eMake 1 (Γ 81) [.v (eVar 3), .v (eVar 4)]))) (sSeq (sSet 6 (eFr (eApp fLst [(eApp fTup [(eVar 3), (eVar 4)]), (eApp fTup [(eOp fAdd (eVar 3) (eCon (.int 1))), (eOp fAdd (eVar 4) (eCon (.int 1)))]), (eApp fTup [(eCon (.int 1)), (eVar 4)]), (eApp fTup [(eVar 3), (eOp fAdd (eVar 4) (eCon (.int 1)))]), (eApp fTup [(eVar 4), (eVar 4)])]))) (sSeq (sFor (itSeq (eVar 6)) (.tp [(.nm 7), (.nm 8)]) (sSeq (sSet 11 (eFr (eMake 1 (Γ 81) [.v (eVar 7), .v (eVar 8)]))) (sSeq (sSet 12 (eOp fEq (eApp fTup [(eVar 7), (eVar 8)]) (eApp fTup [(eVar 3), (eVar 4)]))) (sIf (tOr (eBool (eOp fNe (eEqO 1 (Γ 83) (.v (eVar 5)) (.v (eVar 11))) (eVar 12))) (tOr (eBool (eOp fEq (eNeO 1 (Γ 83) (.v (eVar 5)) (.v (eVar 11))) (eVar 12))) (eBool (eOp fNe (eEqO 1 (Γ 83) (.v (eVar 11)) (.v (eVar 5))) (eVar 12))))) (sRet (eCon (.bl false))) sNx)))) (sSeq (sIf (tOr (eBool (eOp fNe (eLenO 1 (Γ 82) (.v (eVar 5))) (eOp fAdd (eOp fSub (eVar 4) (eVar 3)) (eCon (.int 1))))) (eBool (eOp fNe (eApp fTup [(eUn (fFld 1 0) (eVar 5)), (eUn (fFld 1 1) (eVar 5))]) (eApp fTup [(eVar 3), (eVar 4)])))) (sRet (eCon (.bl false))) sNx) (sSeq (sIf (eBool (eOp fNe (eStrO 1 (Γ 84) (.v (eVar 5))) (eIf (eBool (eOp fEq (eVar 3) (eVar 4))) (eApp fStrI [(eVar 3)]) (eOp fAdd (eOp fAdd (eApp fStrI [(eVar 3)]) (eCon (.str [45]))) (eApp fStrI [(eVar 4)]))))) (sRet (eCon (.bl false))) sNx) (sSeq (sFor (itSeq (eApp fLst [(eVar 3), (eOp fSub (eVar 3) (eCon (.int 1))), (eVar 4), (eOp fAdd (eVar 4) (eCon (.int 1))), (eCon (.int 0)), (eUn fNeg (eCon (.int 5))), (eOp fPow (eCon (.int 10)) (eCon (.int 19))), (eOp fDiv (eOp fAdd (eVar 3) (eVar 4)) (eCon (.int 2)))])) (.nm 9) (sSeq (sSet 13 (eMeth 1 (Γ 223) (.v (eVar 5)) [.v (eVar 9)] [])) (sIf (tOr (tNot (eBool (eIsi .bool (eVar 13)))) (eBool (eOp fNe (eVar 13) (eAnd (eOp fLe (eVar 3) (eVar 9)) (eOp fLe (eVar 9) (eVar 4)))))) (sRet (eCon (.bl false))) sNx))) (sFor (itSeq (eApp fLst [(eApp fTup [(eVar 3), (eVar 4)]), (eApp fLst [(eVar 3), (eVar 4)]), (eStrO 1 (Γ 84) (.v (eVar 5))), (eVar 3), (eCon .non), (eOp fAdd (eOp fSub (eVar 4) (eVar 3)) (eCon (.int 1)))])) (.nm 10) (sIf (tOr (eBool (eEqO 1 (Γ 83) (.v (eVar 5)) (.v (eVar 10)))) (tNot (eBool (eNeO 1 (Γ 83) (.v (eVar 5)) (.v (eVar 10)))))) (sRet (eCon (.bl false))) sNx)))))))
      [some (.fz, .scr ns), some (.fz, .int k), some d2, some (.fz, .int lo), some (.fz, .int hi), x5, x6, x7, x8, x9, x10, x11, x12, x13]) fun f S' => match f with
        | .nx => J31 ns ds S'
        | .rt r => fin [(.fz, .scr ns)] Q (.rt r) S'
        | _ => False := by
  have m := fun x5 => make_a h (a := eVar 3) (b := eVar 4) (S := [some (.fz, .scr ns), some (.fz, .int k), some d2, some (.fz, .int lo), some (.fz, .int hi), x5, x6, x7, x8, x9, x10, x11, x12, x13]) (i := lo) (j := hi) (by simp) (by simp)
  have t2 : ∀ a b : Int, fTup [.int a, .int b] = some (.fz, .tup [.int a, .int b]) := fun _ _ => rfl
  have ad : ∀ a b : Int, fAdd (.int a) (.int b) = some (.fz, .int (a + b)) := fun _ _ => rfl
  have f5 : ∀ a b c d e : D, fLst [a, b, c, d, e] = some (.li .fz, .lst [a, b, c, d, e]) := fun _ _ _ _ _ => rfl
  have f6 : ∀ a b c d e f : D, fLst [a, b, c, d, e, f] = some (.li .fz, .lst [a, b, c, d, e, f]) := fun _ _ _ _ _ _ => rfl
  have f8 : ∀ a b c d e f g i : D, fLst [a, b, c, d, e, f, g, i] = some (.li .fz, .lst [a, b, c, d, e, f, g, i]) := fun _ _ _ _ _ _ _ _ => rfl
  have f2 : ∀ a b : D, fLst [a, b] = some (.li .fz, .lst [a, b]) := fun _ _ => rfl
  have iL : ∀ ds : List D, itemsOf (.lst ds) = some ds := fun _ => rfl
  simp [m, t2, ad, f5, iL, -Prod.exists, -Prod.forall]
  refine walk1 h ⟨?_, x7, x8, x9, x10, x11, x12, x13, rfl⟩ ?_
  · intro d hd
    simp only [List.mem_cons, List.not_mem_nil, or_false] at hd
    rcases hd with rfl | rfl | rfl | rfl | rfl <;> exact ⟨_, _, rfl⟩
  intro x7 x8 x9 x10 x11 x12 x13
  have b1 : lo.natAbs ≤ 100000000 := by omega
  have b2 : hi.natAbs ≤ 100000000 := by omega
  have ln := len_a h (a := eVar 5) (S := [some (.fz, .scr ns), some (.fz, .int k), some d2, some (.fz, .int lo), some (.fz, .int hi), some (.fz, sp lo hi), some (.fz, .lst [.tup [.int lo, .int hi], .tup [.int (lo + 1), .int (hi + 1)], .tup [.int 1, .int hi], .tup [.int lo, .int (hi + 1)], .tup [.int hi, .int hi]]), x7, x8, x9, x10, x11, x12, x13]) (i := lo) (j := hi) (by simp) b1 b2 l1
  have st := str_a h (a := eVar 5) (S := [some (.fz, .scr ns), some (.fz, .int k), some d2, some (.fz, .int lo), some (.fz, .int hi), some (.fz, sp lo hi), some (.fz, .lst [.tup [.int lo, .int hi], .tup [.int (lo + 1), .int (hi + 1)], .tup [.int 1, .int hi], .tup [.int lo, .int (hi + 1)], .tup [.int hi, .int hi]]), x7, x8, x9, x10, x11, x12, x13]) (i := lo) (j := hi) (by simp) b1 b2 l1
  have sb : ∀ a b : Int, fSub (.int a) (.int b) = some (.fz, .int (a - b)) := fun _ _ => rfl
  have n1 : ∀ a : Int, fNe (.int a) (.int a) = some (.fz, .bl false) := fun a => by
    show (if eqOk (.int a) (.int a) = true then kz (.bl (!(a == a))) else none) = _
    rw [if_pos (by simp [eqOk, D.flat]), beq_self_eq_true]
    rfl
  have n2 : fNe (.tup [.int lo, .int hi]) (.tup [.int lo, .int hi]) = some (.fz, .bl false) := by
    show (if eqOk (.tup [.int lo, .int hi]) (.tup [.int lo, .int hi]) = true then kz (.bl (!((lo == lo) && ((hi == hi) && true)))) else none) = _
    rw [if_pos (by simp [eqOk, D.flat, D.lay, D.lays]), beq_self_eq_true, beq_self_eq_true]
    rfl
  have g1 : fFld 1 0 (sp lo hi) = some (.fz, .int lo) := rfl
  have g2 : fFld 1 1 (sp lo hi) = some (.fz, .int hi) := rfl
  have e3 : ∀ i : Int, i.natAbs ≤ 100000000 → fStrI [.int i] = some (.fz, .str (strI i)) := fun i h => by
    show (if i.natAbs < 10 ^ 30 then kz (.str (strI i)) else none) = _
    rw [if_pos (by omega)]; rfl
  have n3 : ∀ s : List Nat, fNe (.str s) (.str s) = some (.fz, .bl false) := fun s => by
    show (if eqOk (.str s) (.str s) = true then kz (.bl (!(D.eqv (.str s) (.str s)))) else none) = _
    rw [if_pos (by simp [eqOk, D.flat]), show D.eqv (.str s) (.str s) = true from by simp [D.eqv]]
    rfl
  have q1 := strI_len b1
  have q2 := strI_len b2
  have a1 : fAdd (.str (strI lo)) (.str [45]) = some (.fz, .str (strI lo ++ [45])) := by
    show (if (strI lo).length + [45].length ≤ sizeMax then kz (.str (strI lo ++ [45])) else none) = _
    rw [if_pos (by simp; unfold sizeMax; omega)]; rfl
  have a2 : fAdd (.str (strI lo ++ [45])) (.str (strI hi)) = some (.fz, .str (strI lo ++ ([45] ++ strI hi))) := by
    show (if (strI lo ++ [45]).length + (strI hi).length ≤ sizeMax then kz (.str ((strI lo ++ [45]) ++ strI hi)) else none) = _
    rw [if_pos (by simp; unfold sizeMax; omega), List.append_assoc]; rfl
  have ng : fNeg (.int 5) = some (.fz, .int (-5)) := rfl
  have pw : fPow (.int 10) (.int 19) = some (.fz, .int 10000000000000000000) := rfl
  have dv : fDiv (.int (lo + hi)) (.int 2) = some (.fz, .int ((lo + hi) / 2)) := by
    simp [fDiv, kz]
  have it : ∀ a b : Int, fEq (.int a) (.int b) = some (.fz, .bl (decide (a = b))) := eqI
  have tail : okP (sSeq (sFor (itSeq (eApp fLst [(eVar 3), (eOp fSub (eVar 3) (eCon (.int 1))), (eVar 4), (eOp fAdd (eVar 4) (eCon (.int 1))), (eCon (.int 0)), (eUn fNeg (eCon (.int 5))), (eOp fPow (eCon (.int 10)) (eCon (.int 19))), (eOp fDiv (eOp fAdd (eVar 3) (eVar 4)) (eCon (.int 2)))])) (.nm 9) (sSeq (sSet 13 (eMeth 1 (Γ 223) (.v (eVar 5)) [.v (eVar 9)] [])) (sIf (tOr (tNot (eBool (eIsi .bool (eVar 13)))) (eBool (eOp fNe (eVar 13) (eAnd (eOp fLe (eVar 3) (eVar 9)) (eOp fLe (eVar 9) (eVar 4)))))) (sRet (eCon (.bl false))) sNx))) (sFor (itSeq (eApp fLst [(eApp fTup [(eVar 3), (eVar 4)]), (eApp fLst [(eVar 3), (eVar 4)]), (eStrO 1 (Γ 84) (.v (eVar 5))), (eVar 3), (eCon .non), (eOp fAdd (eOp fSub (eVar 4) (eVar 3)) (eCon (.int 1)))])) (.nm 10) (sIf (tOr (eBool (eEqO 1 (Γ 83) (.v (eVar 5)) (.v (eVar 10)))) (tNot (eBool (eNeO 1 (Γ 83) (.v (eVar 5)) (.v (eVar 10)))))) (sRet (eCon (.bl false))) sNx))
      [some (.fz, .scr ns), some (.fz, .int k), some d2, some (.fz, .int lo), some (.fz, .int hi), some (.fz, sp lo hi), some (.fz, .lst [.tup [.int lo, .int hi], .tup [.int (lo + 1), .int (hi + 1)], .tup [.int 1, .int hi], .tup [.int lo, .int (hi + 1)], .tup [.int hi, .int hi]]), x7, x8, x9, x10, x11, x12, x13]) fun f S' => match f with
        | .nx => J31 ns ds S'
        | .rt r => fin [(.fz, .scr ns)] Q (.rt r) S'
        | _ => False := by
    simp [sb, ad, ng, pw, dv, f8, iL, -Prod.exists, -Prod.forall]
    refine walk2 h ⟨?_, x9, x10, x11, x12, x13, rfl⟩ ?_
    · intro d hd
      simp only [List.mem_cons, List.not_mem_nil, or_false] at hd
      rcases hd with rfl | rfl | rfl | rfl | rfl | rfl | rfl | rfl <;> exact ⟨_, rfl⟩
    intro x9 x10 x11 x12 x13
    have st := str_a h (a := eVar 5) (S := [some (.fz, .scr ns), some (.fz, .int k), some d2, some (.fz, .int lo), some (.fz, .int hi), some (.fz, sp lo hi), some (.fz, .lst [.tup [.int lo, .int hi], .tup [.int (lo + 1), .int (hi + 1)], .tup [.int 1, .int hi], .tup [.int lo, .int (hi + 1)], .tup [.int hi, .int hi]]), x7, x8, x9, x10, x11, x12, x13]) (i := lo) (j := hi) (by simp) b1 b2 l1
    simp [st, t2, f2, f6, sb, ad, iL, -Prod.exists, -Prod.forall]
    refine walk3 h ⟨?_, x10, x11, x12, x13, rfl⟩ ?_
    · intro d hd
      simp only [List.mem_cons, List.not_mem_nil, or_false] at hd
      rcases hd with rfl | rfl | rfl | rfl | rfl | rfl <;> exact ⟨rfl, rfl⟩
    intro x10 x11 x12 x13
    exact ⟨hd, _, _, _, _, _, _, _, _, _, _, _, _, _, rfl⟩
  have e1 : hi - lo + 1 = hi - lo + 1 := rfl
  by_cases q : lo = hi
  · subst q
    have ss : spanS lo lo = strI lo := if_pos rfl
    rw [ss] at st
    simpa [ln, st, g1, g2, t2, sb, ad, n1, n2, n3, e3 _ b1, it, -Prod.exists, -Prod.forall] using tail
  · have ss : spanS lo hi = strI lo ++ ([45] ++ strI hi) := if_neg q
    rw [ss] at st
    simpa [ln, st, g1, g2, t2, sb, ad, n1, n2, n3, e3 _ b1, e3 _ b2, a1, a2, it, q, -Prod.exists, -Prod.forall] using tail
end
end LW

/-! k31: the law, joined -/
namespace LW
open TB
section
variable {Γ : Nat → Fn}
theorem law_224 (h : H31 Γ) (ns : List Int) (hl : ns.length ≤ 63) : FnP (runF 14 [] (mb_224 Γ)) [(.fz, .scr ns)] fun r o => r = (.fz, .bl true) ∧ o = [] := by
  obtain ⟨m, hm, m0, m1⟩ : ∃ m : Int, fMax2 [.int 1, .int (if (ns.length : Int) < 30 then (ns.length : Int) else 30)] = some (.fz, .int m) ∧ 0 ≤ m ∧ m ≤ 40 := by
    refine ⟨_, rfl, ?_⟩
    split <;> split <;> omega
  have hlim : m.natAbs < limN := by unfold limN; omega
  have mn : fMin2 [.int 30, .int ns.length] = some (.fz, .int (if (ns.length : Int) < 30 then (ns.length : Int) else 30)) := rfl
  have ln : fLen [.scr ns] = some (.fz, .int ns.length) := rfl
  refine runF_wp (by rfl) ?_
  simp [mb_224, -sSeq_ap, hlim, mn, ln, hm, -Prod.exists, -Prod.forall]
  rw [sSeq_ap, okP_bind]
  simp [hlim, mn, ln, hm, -sSeq_ap, -Prod.exists, -Prod.forall]
  refine loopG_wp (J31 ns) ?_ ?_ _ _ ⟨fun d hd => ?_, none, none, none, none, none, none, none, none, none, none, none, none, none, rfl⟩
  · rintro d xs S ⟨hds, x1, x2, x3, x4, x5, x6, x7, x8, x9, x10, x11, x12, x13, rfl⟩
    obtain ⟨k, rfl, k0, k1⟩ := hds d List.mem_cons_self
    have hds' : ∀ d ∈ xs, ∃ k : Int, d = .int k ∧ 0 ≤ k ∧ k ≤ 1000 := fun d hd => hds d (List.mem_cons_of_mem _ hd)
    refine ⟨_, put_nm (by simp), ?_⟩
    obtain ⟨d1, e1, h1⟩ := h.d6 ns k k0 k1
    have c6 := call6 (F := Γ 6) e1 (S := [some (.fz, .scr ns), some (.fz, .int k), x2, x3, x4, x5, x6, x7, x8, x9, x10, x11, x12, x13]) rfl rfl
    have f2 : fLst [.int 9, .int 100000] = some (.li .fz, .lst [.int 9, .int 100000]) := rfl
    have f3 : ∀ a b : Int, fLst [.int 0, .int a, .int b] = some (.li .fz, .lst [.int 0, .int a, .int b]) := fun _ _ => rfl
    have p5 : fPow (.int 10) (.int 5) = some (.fz, .int 100000) := rfl
    have p6 : fPow (.int 10) (.int 6) = some (.fz, .int 1000000) := rfl
    have ad : ∀ a b : Int, fAdd (.int a) (.int b) = some (.fz, .int (a + b)) := fun _ _ => rfl
    have mi : ∀ a b : Int, fMin2 [.int a, .int b] = some (.fz, .int (if b < a then b else a)) := fun _ _ => rfl
    rw [sSeq_ap, okP_bind, sSet_ap, List.set_cons_succ, List.set_cons_zero, c6, rbind_ok]
    simp [-sSeq_ap, -Prod.exists, -Prod.forall]
    rw [sSeq_ap, okP_bind]
    simp [p5, -sSeq_ap, -Prod.exists, -Prod.forall]
    refine draw_wp h.d7 rfl ?_
    simp [f2, p5, -sSeq_ap, -Prod.exists, -Prod.forall]
    refine draw_wp h.d7 rfl ?_
    simp [h1, -sSeq_ap, -Prod.exists, -Prod.forall]
    intro r2 d2 h2 r2a r2b
    obtain ⟨w, ew, w0, w1⟩ := pick_int (xs := [.int 9, .int 100000]) (r := r2) (lo := 1) (hi := 100000) r2a (by simpa using r2b) (by simp)
    simp [ew, h2, -sSeq_ap, -Prod.exists, -Prod.forall]
    refine ⟨by omega, by omega, ?_⟩
    intro r3 d3 h3 r3a r3b
    simp [ad, -sSeq_ap, -Prod.exists, -Prod.forall]
    rw [sSeq_ap, okP_bind]
    simp [p6, p5, -sSeq_ap, -Prod.exists, -Prod.forall]
    refine draw_wp h.d7 rfl ?_
    simp [h3, -sSeq_ap, -Prod.exists, -Prod.forall]
    intro r4 d4 h4 r4a r4b
    refine draw_wp h.d7 rfl ?_
    simp [h4, p5, -sSeq_ap, -Prod.exists, -Prod.forall]
    intro r5 d5 h5 r5a r5b
    simp [f3, -sSeq_ap, -Prod.exists, -Prod.forall]
    refine draw_wp h.d7 rfl ?_
    simp [h5, -sSeq_ap, -Prod.exists, -Prod.forall]
    intro r6 d6 h6 r6a r6b
    obtain ⟨x, ex, x0, x1⟩ := pick_int (xs := [.int 0, .int r4, .int r5]) (r := r6) (lo := 0) (hi := 100000) r6a (by simpa using r6b) (by simp; omega)
    simp [ex, ad, mi, -sSeq_ap, -Prod.exists, -Prod.forall]
    obtain ⟨hi, eh, a1, a2⟩ : ∃ hi : Int, (if 1 + r3 + x < 1000000 then 1 + r3 + x else 1000000) = hi ∧ 1 + r3 ≤ hi ∧ hi ≤ 1000000 := by
      refine ⟨_, rfl, ?_⟩
      split <;> omega
    rw [eh]
    exact rest31 h hds' (by omega) a1 a2
  · rintro S ⟨_, x1, x2, x3, x4, x5, x6, x7, x8, x9, x10, x11, x12, x13, rfl⟩
    simp [outsOf, Kd.isF]
  · obtain ⟨i, hi, rfl⟩ := mem_rng hd
    exact ⟨_, rfl, by omega, by omega⟩
end
theorem h31 (k : Nat) : H31 (callF (k + 1)) := ⟨draws_ok, draw_ok, s81 (Γ := callF k), fun _ _ => s82 (Γ := callF k), s83 (Γ := callF k), fun _ _ _ => s83n (Γ := callF k) _ _, fun _ _ => s84 (Γ := callF k), s223 (Γ := callF k)⟩
theorem law_true (ns : List Int) (hl : ns.length ≤ 63) : callF 40 224 [(.fz, .scr ns)] = .ret (.fz, .bl true) [] := by
  rw [show callF 40 224 = runF 14 [] (mb_224 (callF 39)) from rfl]
  exact FnP.eq ((law_224 (h31 38) ns hl).mono fun r o h => h)
end LW

namespace LW
open PySem PySem.Spec PyProof.Rows L2 TB
def top (i : Nat) : Stmt := PySem.Challenge.pw_tuckbook_k31_spans_by_their_own_words.main.body.getD i (.Pass ⟨0, 0, 0, 0⟩)
abbrev clsA (K : PySem.W.Frag) : Nat → Addr := fun c => match c with | 1 => He.ga K "Span" | _ => 0
def clsN : Nat → List Str := fun c => match c with | 1 => ["low", "high"] | _ => []
theorem nd_1 : (clsN 1).Nodup := by decide
abbrev a_6 (K : PySem.W.Frag) : Addr := He.ga K "_law_draws"
abbrev a_7 (K : PySem.W.Frag) : Addr := He.ga K "_law_draw"
abbrev a_81 (K : PySem.W.Frag) : Addr := He.ma K (He.ga K "Span") "__init__"
abbrev a_82 (K : PySem.W.Frag) : Addr := He.ma K (He.ga K "Span") "__len__"
abbrev a_83 (K : PySem.W.Frag) : Addr := He.ma K (He.ga K "Span") "__eq__"
abbrev a_84 (K : PySem.W.Frag) : Addr := He.ma K (He.ga K "Span") "__str__"
abbrev a_223 (K : PySem.W.Frag) : Addr := He.ma K (He.ga K "Span") "holds"
abbrev a_224 (K : PySem.W.Frag) : Addr := He.ga K "law"
theorem nm_82 : ("__len__" : Str) ∉ clsN 1 := by decide
theorem nm_83 : ("__eq__" : Str) ∉ clsN 1 := by decide
theorem nm_84 : ("__str__" : Str) ∉ clsN 1 := by decide
theorem nm_223 : ("holds" : Str) ∉ clsN 1 := by decide
structure EV (K : PySem.W.Frag) (mg : Str → Option Value) (fd : Nat → FuncData) (w : World) : Prop where
  d_6 : FunD K "_law_draws" "_law_draws" (defArgs (top 3)) (defBody (top 3)) (defScope (top 3)) [] [] (a_6 K) (fd 6)
  g_6 : mg "_law_draws" = some (.ref (a_6 K))
  d_7 : FunD K "_law_draw" "_law_draw" (defArgs (top 4)) (defBody (top 4)) (defScope (top 4)) [] [] (a_7 K) (fd 7)
  g_7 : mg "_law_draw" = some (.ref (a_7 K))
  d_81 : FunD K "__init__" "Span.__init__" (defArgs (inClass (top 1) 0)) (defBody (inClass (top 1) 0)) (defScope (inClass (top 1) 0)) [] [] (a_81 K) (fd 81)
  d_82 : FunD K "__len__" "Span.__len__" (defArgs (inClass (top 1) 1)) (defBody (inClass (top 1) 1)) (defScope (inClass (top 1) 1)) [] [] (a_82 K) (fd 82)
  me_82 : L2.Meth K (clsA K 1) "__len__" (a_82 K)
  d_83 : FunD K "__eq__" "Span.__eq__" (defArgs (inClass (top 1) 2)) (defBody (inClass (top 1) 2)) (defScope (inClass (top 1) 2)) [] [] (a_83 K) (fd 83)
  me_83 : L2.Meth K (clsA K 1) "__eq__" (a_83 K)
  d_84 : FunD K "__str__" "Span.__str__" (defArgs (inClass (top 1) 3)) (defBody (inClass (top 1) 3)) (defScope (inClass (top 1) 3)) [] [] (a_84 K) (fd 84)
  me_84 : L2.Meth K (clsA K 1) "__str__" (a_84 K)
  d_223 : FunD K "holds" "Span.holds" (defArgs (inClass (top 1) 4)) (defBody (inClass (top 1) 4)) (defScope (inClass (top 1) 4)) [] [] (a_223 K) (fd 223)
  me_223 : L2.Meth K (clsA K 1) "holds" (a_223 K)
  d_224 : FunD K "law" "law" (defArgs (top 5)) (defBody (top 5)) (defScope (top 5)) [] [] (a_224 K) (fd 224)
  g_224 : mg "law" = some (.ref (a_224 K))
  cl_Span : L2.Cls K (clsA K 1)
  gc_Span : mg "Span" = some (.ref (clsA K 1))
  mk_Span : L2.Mk K (clsA K 1) (a_81 K)
  na_low : L2.NoAttr K (clsA K 1) "low"
  na_high : L2.NoAttr K (clsA K 1) "high"
  oc_Span : OwnCl K (clsA K 1)
  ne_Span : PySem.W.findIn K (.ref (clsA K 1)) "__ne__" = some (some (.builtin "object.__ne__"))
  n_bool : mg "bool" = none
  n_int : mg "int" = none
  n_isinstance : mg "isinstance" = none
  n_len : mg "len" = none
  n_max : mg "max" = none
  n_min : mg "min" = none
  n_range : mg "range" = none
  n_str : mg "str" = none
abbrev Gc (K : PySem.W.Frag) (w : World) : Cfg := { K := K, ca := clsA K, cn := clsN, fa := fun _ => 0, w := w }
structure OKS (P : Program) (w : World) (K : PySem.W.Frag) (mg : Str → Option Value) (base : Heap) (fd : Nat → FuncData) (k : Nat) : Prop where
  o_6 : FnOk P w K mg base (L2N.CX P w) (2 * k) (a_6 K) (fd 6) ["_law_script", "_law_k"] (spF (Gc K w) 2 (callF k 6))
  o_7 : FnOk P w K mg base (L2N.CX P w) (2 * k) (a_7 K) (fd 7) ["_law_draws_here", "_law_many"] (spF (Gc K w) 2 (callF k 7))
  o_81 : FnOk P w K mg base (L2N.CX P w) (2 * k) (a_81 K) (fd 81) ["self", "low", "high"] (spF (Gc K w) 3 (callF k 81))
  o_82 : FnOk P w K mg base (L2N.CX P w) (2 * k) (a_82 K) (fd 82) ["self"] (spF (Gc K w) 1 (callF k 82))
  o_83 : FnOk P w K mg base (L2N.CX P w) (2 * k) (a_83 K) (fd 83) ["self", "other"] (spF (Gc K w) 2 (callF k 83))
  o_84 : FnOk P w K mg base (L2N.CX P w) (2 * k) (a_84 K) (fd 84) ["self"] (spF (Gc K w) 1 (callF k 84))
  o_223 : FnOk P w K mg base (L2N.CX P w) (2 * k) (a_223 K) (fd 223) ["self", "pence"] (spF (Gc K w) 2 (callF k 223))
  o_224 : FnOk P w K mg base (L2N.CX P w) (2 * k) (a_224 K) (fd 224) ["_law_script"] (spF (Gc K w) 1 (callF k 224))
section
variable {P : Program} {w : World} {K : PySem.W.Frag} {mg : Str → Option Value} {base : Heap} {fd : Nat → FuncData} {k : Nat}
theorem b_6 (V : EV K mg fd w) : Binds K (fd 6) ["_law_script", "_law_k"] [] := V.d_6.bindsN fun _ _ _ _ _ _ us hl => match us, hl with | [_, _], _ => rfl
theorem b_7 (V : EV K mg fd w) : Binds K (fd 7) ["_law_draws_here", "_law_many"] [] := V.d_7.bindsN fun _ _ _ _ _ _ us hl => match us, hl with | [_, _], _ => rfl
theorem b_81 (V : EV K mg fd w) : Binds K (fd 81) ["self", "low", "high"] [] := V.d_81.bindsN fun _ _ _ _ _ _ us hl => match us, hl with | [_, _, _], _ => rfl
theorem b_82 (V : EV K mg fd w) : Binds K (fd 82) ["self"] [] := V.d_82.bindsN fun _ _ _ _ _ _ us hl => match us, hl with | [_], _ => rfl
theorem b_83 (V : EV K mg fd w) : Binds K (fd 83) ["self", "other"] [] := V.d_83.bindsN fun _ _ _ _ _ _ us hl => match us, hl with | [_, _], _ => rfl
theorem b_84 (V : EV K mg fd w) : Binds K (fd 84) ["self"] [] := V.d_84.bindsN fun _ _ _ _ _ _ us hl => match us, hl with | [_], _ => rfl
theorem b_223 (V : EV K mg fd w) : Binds K (fd 223) ["self", "pence"] [] := V.d_223.bindsN fun _ _ _ _ _ _ us hl => match us, hl with | [_, _], _ => rfl
theorem b_224 (V : EV K mg fd w) : Binds K (fd 224) ["_law_script"] [] := V.d_224.bindsN fun _ _ _ _ _ _ us hl => match us, hl with | [_], _ => rfl
theorem sc_6 : FnScope ["_law_script", "_law_k", "_law_cell"] ["_law_script", "_law_k"] (defScope (top 3)) := ⟨rfl, rfl, rfl, by decide +kernel, rfl, by decide +kernel, by decide +kernel⟩
theorem ok_6 (V : EV K mg fd w) (IH : OKS P w K mg base fd k) : FnOk P w K mg base (L2N.CX P w) (2 * (k + 1)) (a_6 K) (fd 6) ["_law_script", "_law_k"] (spF (Gc K w) 2 (rf_6 (callF k))) :=
  fn_ok (P := P) (w := w) (G := Gc K w) (mg := mg) (base := base) (k := 2 * k + 1) (N := ["_law_script", "_law_k", "_law_cell"]) (ps := ["_law_script", "_law_k"]) (m := mb_6 (callF k)) [] V.d_6 sc_6 (by rfl) fun cdv A outer s H E σ (C : Cok (cxF P w K mg base ["_law_script", "_law_k", "_law_cell"] "_law_draws" (defScope (top 3)) (a_6 K) cdv A outer s H E) (pinG (Gc K w) [] σ) _ (2 * k + 1)) =>
    (ts_cons (tr_set 2 C (tr_fr (tr_Mult C tr_int (tr_var 1)))) (ts_cons (tr_ifS (tt_Lt C (tr_var 1) (tr_b_len C V.n_len rfl (tra_cons (tr_var 0) tra_nil))) (ts_one (tr_set 2 C (tr_Mod C (tr_Ix C (tr_var 0) (tr_var 1)) (tr_Mult C (tr_Pow C tr_int tr_int) (tr_Pow C tr_int tr_int))))) (ts_one (tr_ifS (tt_Gt C (tr_b_len C V.n_len rfl (tra_cons (tr_var 0) tra_nil)) tr_int) (ts_one (tr_set 2 C (tr_fr (tr_Add C (tr_Mod C (tr_Ix C (tr_var 0) (tr_Mod C (tr_var 1) (tr_b_len C V.n_len rfl (tra_cons (tr_var 0) tra_nil)))) (tr_Pow C tr_int tr_int)) (tr_Mult C tr_int (tr_var 1)))))) ts_nil))) (ts_one (tr_ret (tr_lst (tra_cons (tr_Mult C (tr_var 2) (tr_b_int C V.n_int rfl (tra_cons (tr_GtE C (tr_var 2) (tr_Pow C tr_int tr_int)) tra_nil))) (tra_cons (tr_Add C tr_int (tr_Mod C (tr_Add C (tr_Mult C (tr_var 2) tr_int) (tr_Mult C tr_int (tr_Add C (tr_var 1) tr_int))) tr_int)) tra_nil)))))))
theorem sc_7 : FnScope ["_law_draws_here", "_law_many", "_law_found", "_law_wide"] ["_law_draws_here", "_law_many"] (defScope (top 4)) := ⟨rfl, rfl, rfl, by decide +kernel, rfl, by decide +kernel, by decide +kernel⟩
theorem ok_7 (V : EV K mg fd w) (IH : OKS P w K mg base fd k) : FnOk P w K mg base (L2N.CX P w) (2 * (k + 1)) (a_7 K) (fd 7) ["_law_draws_here", "_law_many"] (spF (Gc K w) 2 (rf_7 (callF k))) :=
  fn_ok (P := P) (w := w) (G := Gc K w) (mg := mg) (base := base) (k := 2 * k + 1) (N := ["_law_draws_here", "_law_many", "_law_found", "_law_wide"]) (ps := ["_law_draws_here", "_law_many"]) (m := mb_7 (callF k)) [0] V.d_7 sc_7 (by rfl) fun cdv A outer s H E σ (C : Cok (cxF P w K mg base ["_law_draws_here", "_law_many", "_law_found", "_law_wide"] "_law_draw" (defScope (top 4)) (a_7 K) cdv A outer s H E) (pinG (Gc K w) [0] σ) _ (2 * k + 1)) =>
    (ts_cons (tr_ifS (tt_Gt C (tr_ixO 0 tr_int) tr_int) (ts_cons (tr_set 2 C (tr_Mod C (tr_ixO 0 tr_int) (tr_var 1))) (ts_cons (tr_setIx 0 (tr_FloorDiv C (tr_ixO 0 tr_int) (tr_var 1)) tr_int) (ts_one (tr_ret (tr_var 2))))) ts_nil) (ts_cons (tr_set 2 C tr_int) (ts_cons (tr_set 3 C tr_int) (ts_cons (tr_while 64 C (tt_Lt C (tr_var 3) (tr_var 1)) (ts_cons (tr_setIx 0 (tr_Mod C (tr_Mult C (tr_ixO 0 tr_int) tr_int) tr_int) tr_int) (ts_cons (tr_set 2 C (tr_fr (tr_Add C (tr_Mult C (tr_var 2) tr_int) (tr_FloorDiv C (tr_Mod C (tr_Mult C (tr_ixO 0 tr_int) (tr_Add C (tr_FloorDiv C (tr_ixO 0 tr_int) tr_int) tr_int)) tr_int) tr_int)))) (ts_one (tr_set 3 C (tr_fr (tr_Mult C (tr_var 3) tr_int))))))) (ts_one (tr_ret (tr_Mod C (tr_var 2) (tr_var 1))))))))
theorem sc_81 : FnScope ["self", "low", "high"] ["self", "low", "high"] (defScope (inClass (top 1) 0)) := ⟨rfl, rfl, rfl, by decide +kernel, rfl, by decide +kernel, by decide +kernel⟩
theorem ok_81 (V : EV K mg fd w) (IH : OKS P w K mg base fd k) : FnOk P w K mg base (L2N.CX P w) (2 * (k + 1)) (a_81 K) (fd 81) ["self", "low", "high"] (spF (Gc K w) 3 (rf_81 (callF k))) :=
  fn_ok (P := P) (w := w) (G := Gc K w) (mg := mg) (base := base) (k := 2 * k + 1) (N := ["self", "low", "high"]) (ps := ["self", "low", "high"]) (m := mb_81 (callF k)) [0] V.d_81 sc_81 (by rfl) fun cdv A outer s H E σ (C : Cok (cxF P w K mg base ["self", "low", "high"] "Span.__init__" (defScope (inClass (top 1) 0)) (a_81 K) cdv A outer s H E) (pinG (Gc K w) [0] σ) _ (2 * k + 1)) =>
    (ts_cons (tr_pFld 1 0 (tp_root 0) (tr_var 1) V.cl_Span V.na_low rfl nd_1) (ts_one (tr_pFld 1 1 (tp_root 0) (tr_var 2) V.cl_Span V.na_high rfl nd_1)))
theorem sc_82 : FnScope ["self"] ["self"] (defScope (inClass (top 1) 1)) := ⟨rfl, rfl, rfl, by decide +kernel, rfl, by decide +kernel, by decide +kernel⟩
theorem ok_82 (V : EV K mg fd w) (IH : OKS P w K mg base fd k) : FnOk P w K mg base (L2N.CX P w) (2 * (k + 1)) (a_82 K) (fd 82) ["self"] (spF (Gc K w) 1 (rf_82 (callF k))) :=
  fn_ok (P := P) (w := w) (G := Gc K w) (mg := mg) (base := base) (k := 2 * k + 1) (N := ["self"]) (ps := ["self"]) (m := mb_82 (callF k)) [] V.d_82 sc_82 (by rfl) fun cdv A outer s H E σ (C : Cok (cxF P w K mg base ["self"] "Span.__len__" (defScope (inClass (top 1) 1)) (a_82 K) cdv A outer s H E) (pinG (Gc K w) [] σ) _ (2 * k + 1)) =>
    (ts_one (tr_ret (tr_lenRg (tr_fld 1 0 (tr_var 0) V.cl_Span V.na_low rfl nd_1 rfl) (tr_Add C (tr_fld 1 1 (tr_var 0) V.cl_Span V.na_high rfl nd_1 rfl) tr_int) V.n_len V.n_range)))
theorem sc_83 : FnScope ["self", "other"] ["self", "other"] (defScope (inClass (top 1) 2)) := ⟨rfl, rfl, rfl, by decide +kernel, rfl, by decide +kernel, by decide +kernel⟩
theorem ok_83 (V : EV K mg fd w) (IH : OKS P w K mg base fd k) : FnOk P w K mg base (L2N.CX P w) (2 * (k + 1)) (a_83 K) (fd 83) ["self", "other"] (spF (Gc K w) 2 (rf_83 (callF k))) :=
  fn_ok (P := P) (w := w) (G := Gc K w) (mg := mg) (base := base) (k := 2 * k + 1) (N := ["self", "other"]) (ps := ["self", "other"]) (m := mb_83 (callF k)) [] V.d_83 sc_83 (by rfl) fun cdv A outer s H E σ (C : Cok (cxF P w K mg base ["self", "other"] "Span.__eq__" (defScope (inClass (top 1) 2)) (a_83 K) cdv A outer s H E) (pinG (Gc K w) [] σ) _ (2 * k + 1)) =>
    (ts_one (tr_ret (tr_and (tr_isO 1 C V.oc_Span (tr_var 1) V.n_isinstance V.gc_Span) (tr_and (tr_Eq C (tr_fld 1 0 (tr_var 0) V.cl_Span V.na_low rfl nd_1 rfl) (tr_fld 1 0 (tr_var 1) V.cl_Span V.na_low rfl nd_1 rfl)) (tr_one (tr_Eq C (tr_fld 1 1 (tr_var 0) V.cl_Span V.na_high rfl nd_1 rfl) (tr_fld 1 1 (tr_var 1) V.cl_Span V.na_high rfl nd_1 rfl)))))))
theorem sc_84 : FnScope ["self", "ends"] ["self"] (defScope (inClass (top 1) 3)) := ⟨rfl, rfl, rfl, by decide +kernel, rfl, by decide +kernel, by decide +kernel⟩
theorem ok_84 (V : EV K mg fd w) (IH : OKS P w K mg base fd k) : FnOk P w K mg base (L2N.CX P w) (2 * (k + 1)) (a_84 K) (fd 84) ["self"] (spF (Gc K w) 1 (rf_84 (callF k))) :=
  fn_ok (P := P) (w := w) (G := Gc K w) (mg := mg) (base := base) (k := 2 * k + 1) (N := ["self", "ends"]) (ps := ["self"]) (m := mb_84 (callF k)) [] V.d_84 sc_84 (by rfl) fun cdv A outer s H E σ (C : Cok (cxF P w K mg base ["self", "ends"] "Span.__str__" (defScope (inClass (top 1) 3)) (a_84 K) cdv A outer s H E) (pinG (Gc K w) [] σ) _ (2 * k + 1)) =>
    (ts_cons (tr_set 1 C (tr_fr (tr_lst (tra_cons (tr_strI V.n_str (tra_cons (tr_fld 1 0 (tr_var 0) V.cl_Span V.na_low rfl nd_1 rfl) tra_nil)) tra_nil)))) (ts_cons (tr_ifS (tt_Gt C (tr_fld 1 1 (tr_var 0) V.cl_Span V.na_high rfl nd_1 rfl) (tr_fld 1 0 (tr_var 0) V.cl_Span V.na_low rfl nd_1 rfl)) (ts_one (tr_set 1 C (tr_fr (tr_Add C (tr_var 1) (tr_lst (tra_cons (tr_strI V.n_str (tra_cons (tr_fld 1 1 (tr_var 0) V.cl_Span V.na_high rfl nd_1 rfl) tra_nil)) tra_nil)))))) ts_nil) (ts_one (tr_ret (tr_join (tr_str [45]) (tr_var 1))))))
theorem sc_223 : FnScope ["self", "pence"] ["self", "pence"] (defScope (inClass (top 1) 4)) := ⟨rfl, rfl, rfl, by decide +kernel, rfl, by decide +kernel, by decide +kernel⟩
theorem ok_223 (V : EV K mg fd w) (IH : OKS P w K mg base fd k) : FnOk P w K mg base (L2N.CX P w) (2 * (k + 1)) (a_223 K) (fd 223) ["self", "pence"] (spF (Gc K w) 2 (rf_223 (callF k))) :=
  fn_ok (P := P) (w := w) (G := Gc K w) (mg := mg) (base := base) (k := 2 * k + 1) (N := ["self", "pence"]) (ps := ["self", "pence"]) (m := mb_223 (callF k)) [] V.d_223 sc_223 (by rfl) fun cdv A outer s H E σ (C : Cok (cxF P w K mg base ["self", "pence"] "Span.holds" (defScope (inClass (top 1) 4)) (a_223 K) cdv A outer s H E) (pinG (Gc K w) [] σ) _ (2 * k + 1)) =>
    (ts_one (tr_ret (tr_LtE_LtE C (tr_fld 1 0 (tr_var 0) V.cl_Span V.na_low rfl nd_1 rfl) (tr_var 1) (tr_fld 1 1 (tr_var 0) V.cl_Span V.na_high rfl nd_1 rfl))))
theorem sc_224 : FnScope ["_law_script", "_law_k", "_law_draws_here", "_law_low", "_law_high", "_law_one", "_law_pairs", "_law_first", "_law_last", "_law_pence", "_law_odd", "_law_other", "_law_same", "_law_found"] ["_law_script"] (defScope (top 5)) := ⟨rfl, rfl, rfl, by decide +kernel, rfl, by decide +kernel, by decide +kernel⟩
theorem ok_224 (V : EV K mg fd w) (IH : OKS P w K mg base fd k) : FnOk P w K mg base (L2N.CX P w) (2 * (k + 1)) (a_224 K) (fd 224) ["_law_script"] (spF (Gc K w) 1 (rf_224 (callF k))) :=
  fn_ok (P := P) (w := w) (G := Gc K w) (mg := mg) (base := base) (k := 2 * k + 1) (N := ["_law_script", "_law_k", "_law_draws_here", "_law_low", "_law_high", "_law_one", "_law_pairs", "_law_first", "_law_last", "_law_pence", "_law_odd", "_law_other", "_law_same", "_law_found"]) (ps := ["_law_script"]) (m := mb_224 (callF k)) [] V.d_224 sc_224 (by rfl) fun cdv A outer s H E σ (C : Cok (cxF P w K mg base ["_law_script", "_law_k", "_law_draws_here", "_law_low", "_law_high", "_law_one", "_law_pairs", "_law_first", "_law_last", "_law_pence", "_law_odd", "_law_other", "_law_same", "_law_found"] "law" (defScope (top 5)) (a_224 K) cdv A outer s H E) (pinG (Gc K w) [] σ) _ (2 * k + 1)) =>
    (ts_cons (tr_for C (ti_range1 (tr_b_max C V.n_max rfl (tra_cons tr_int (tra_cons (tr_b_min C V.n_min rfl (tra_cons tr_int (tra_cons (tr_b_len C V.n_len rfl (tra_cons (tr_var 0) tra_nil)) tra_nil))) tra_nil))) V.n_range) (tg_nm 1 C.nd) (ts_cons (tr_set 2 C (tr_call C (IH.o_6.mono (Nat.le_succ _)) V.g_6 V.d_6.kp (b_6 V) (tar_v (tr_var 0) (tar_v (tr_var 1) tar_nil)))) (ts_cons (tr_set 3 C (tr_fr (tr_Add C tr_int (tr_call C (IH.o_7.mono (Nat.le_succ _)) V.g_7 V.d_7.kp (b_7 V) (tar_b 2 (tar_v (tr_Ix C (tr_lst (tra_cons tr_int (tra_cons (tr_Pow C tr_int tr_int) tra_nil))) (tr_call C (IH.o_7.mono (Nat.le_succ _)) V.g_7 V.d_7.kp (b_7 V) (tar_b 2 (tar_v tr_int tar_nil)))) tar_nil)))))) (ts_cons (tr_set 4 C (tr_b_min C V.n_min rfl (tra_cons (tr_Pow C tr_int tr_int) (tra_cons (tr_Add C (tr_var 3) (tr_Ix C (tr_lst (tra_cons tr_int (tra_cons (tr_call C (IH.o_7.mono (Nat.le_succ _)) V.g_7 V.d_7.kp (b_7 V) (tar_b 2 (tar_v tr_int tar_nil))) (tra_cons (tr_call C (IH.o_7.mono (Nat.le_succ _)) V.g_7 V.d_7.kp (b_7 V) (tar_b 2 (tar_v (tr_Pow C tr_int tr_int) tar_nil))) tra_nil)))) (tr_call C (IH.o_7.mono (Nat.le_succ _)) V.g_7 V.d_7.kp (b_7 V) (tar_b 2 (tar_v tr_int tar_nil))))) tra_nil)))) (ts_cons (tr_set 5 C (tr_fr (tr_make 1 C (Nat.le_refl _) IH.o_81 V.gc_Span V.mk_Span (b_81 V) (tar_v (tr_var 3) (tar_v (tr_var 4) tar_nil))))) (ts_cons (tr_set 6 C (tr_fr (tr_lst (tra_cons (tr_tup (tra_cons (tr_var 3) (tra_cons (tr_var 4) tra_nil))) (tra_cons (tr_tup (tra_cons (tr_Add C (tr_var 3) tr_int) (tra_cons (tr_Add C (tr_var 4) tr_int) tra_nil))) (tra_cons (tr_tup (tra_cons tr_int (tra_cons (tr_var 4) tra_nil))) (tra_cons (tr_tup (tra_cons (tr_var 3) (tra_cons (tr_Add C (tr_var 4) tr_int) tra_nil))) (tra_cons (tr_tup (tra_cons (tr_var 4) (tra_cons (tr_var 4) tra_nil))) tra_nil)))))))) (ts_cons (tr_for C (ti_seq C (tr_var 6)) (tg_tup C (tg_cons (tg_nm 7 C.nd) (tg_cons (tg_nm 8 C.nd) tg_nil))) (ts_cons (tr_set 11 C (tr_fr (tr_make 1 C (Nat.le_refl _) IH.o_81 V.gc_Span V.mk_Span (b_81 V) (tar_v (tr_var 7) (tar_v (tr_var 8) tar_nil))))) (ts_cons (tr_set 12 C (tr_Eq C (tr_tup (tra_cons (tr_var 7) (tra_cons (tr_var 8) tra_nil))) (tr_tup (tra_cons (tr_var 3) (tra_cons (tr_var 4) tra_nil))))) (ts_one (tr_ifS (tt_w (tw_or (tt_NotEq C (tr_eqO 1 C (Nat.le_refl _) IH.o_83 (b_83 V) V.oc_Span (word_of V.me_83) (rc_v (tr_var 5)) (rc_v (tr_var 11)) (by rfl)) (tr_var 12)) (tw_or (tt_Eq C (tr_neO 1 C (Nat.le_refl _) IH.o_83 (b_83 V) V.oc_Span (word_of V.me_83) V.ne_Span (rc_v (tr_var 5)) (rc_v (tr_var 11)) (by rfl)) (tr_var 12)) (tw_or1 (tt_NotEq C (tr_eqO 1 C (Nat.le_refl _) IH.o_83 (b_83 V) V.oc_Span (word_of V.me_83) (rc_v (tr_var 11)) (rc_v (tr_var 5)) (by rfl)) (tr_var 12)))))) (ts_one (tr_ret tr_bl)) ts_nil))))) (ts_cons (tr_ifS (tt_w (tw_or (tt_NotEq C (tr_lenO 1 C (Nat.le_refl _) IH.o_82 (b_82 V) (word_of V.me_82) (tar_v (tr_var 5) tar_nil) V.n_len) (tr_Add C (tr_Sub C (tr_var 4) (tr_var 3)) tr_int)) (tw_or1 (tt_NotEq C (tr_tup (tra_cons (tr_fld 1 0 (tr_var 5) V.cl_Span V.na_low rfl nd_1 rfl) (tra_cons (tr_fld 1 1 (tr_var 5) V.cl_Span V.na_high rfl nd_1 rfl) tra_nil))) (tr_tup (tra_cons (tr_var 3) (tra_cons (tr_var 4) tra_nil))))))) (ts_one (tr_ret tr_bl)) ts_nil) (ts_cons (tr_ifS (tt_NotEq C (tr_strO 1 C (Nat.le_refl _) IH.o_84 (b_84 V) (word_of V.me_84) (tar_v (tr_var 5) tar_nil) V.n_str) (tr_if (tt_Eq C (tr_var 3) (tr_var 4)) (tr_strI V.n_str (tra_cons (tr_var 3) tra_nil)) (tr_Add C (tr_Add C (tr_strI V.n_str (tra_cons (tr_var 3) tra_nil)) (tr_str [45])) (tr_strI V.n_str (tra_cons (tr_var 4) tra_nil))))) (ts_one (tr_ret tr_bl)) ts_nil) (ts_cons (tr_for C (ti_seq C (tr_lst (tra_cons (tr_var 3) (tra_cons (tr_Sub C (tr_var 3) tr_int) (tra_cons (tr_var 4) (tra_cons (tr_Add C (tr_var 4) tr_int) (tra_cons tr_int (tra_cons (tr_neg C tr_int) (tra_cons (tr_Pow C tr_int tr_int) (tra_cons (tr_FloorDiv C (tr_Add C (tr_var 3) (tr_var 4)) tr_int) tra_nil)))))))))) (tg_nm 9 C.nd) (ts_cons (tr_set 13 C (tr_meth 1 C (IH.o_223.mono (Nat.le_succ _)) V.cl_Span V.me_223 (b_223 V) (rc_v (tr_var 5)) (tar_v (tr_var 9) tar_nil) .nil .nil rfl nm_223)) (ts_one (tr_ifS (tt_w (tw_or (tt_not (tt_val (tr_isi .bool C (tr_var 13) V.n_isinstance V.n_bool (by rfl)))) (tw_or1 (tt_NotEq C (tr_var 13) (tr_and (tr_LtE C (tr_var 3) (tr_var 9)) (tr_one (tr_LtE C (tr_var 9) (tr_var 4)))))))) (ts_one (tr_ret tr_bl)) ts_nil)))) (ts_one (tr_for C (ti_seq C (tr_lst (tra_cons (tr_tup (tra_cons (tr_var 3) (tra_cons (tr_var 4) tra_nil))) (tra_cons (tr_lst (tra_cons (tr_var 3) (tra_cons (tr_var 4) tra_nil))) (tra_cons (tr_strO 1 C (Nat.le_refl _) IH.o_84 (b_84 V) (word_of V.me_84) (tar_v (tr_var 5) tar_nil) V.n_str) (tra_cons (tr_var 3) (tra_cons tr_non (tra_cons (tr_Add C (tr_Sub C (tr_var 4) (tr_var 3)) tr_int) tra_nil)))))))) (tg_nm 10 C.nd) (ts_one (tr_ifS (tt_w (tw_or (tt_eqO 1 C (Nat.le_refl _) IH.o_83 (b_83 V) V.oc_Span (word_of V.me_83) (rc_v (tr_var 5)) (rc_v (tr_var 10)) (by rfl)) (tw_or1 (tt_not (tt_neO 1 C (Nat.le_refl _) IH.o_83 (b_83 V) V.oc_Span (word_of V.me_83) V.ne_Span (rc_v (tr_var 5)) (rc_v (tr_var 10)) (by rfl)))))) (ts_one (tr_ret tr_bl)) ts_nil)))))))))))))) (ts_one (tr_ret tr_bl)))
end
end LW

namespace LW
open PySem PySem.Spec PyProof.Rows L2 TB
def d_6 : He.DefD := ⟨("_law_draws", none), "_law_draws", "_law_draws", defArgs (top 3), defBody (top 3), defScope (top 3), [], []⟩
def d_7 : He.DefD := ⟨("_law_draw", none), "_law_draw", "_law_draw", defArgs (top 4), defBody (top 4), defScope (top 4), [], []⟩
def d_81 : He.DefD := ⟨("Span", some "__init__"), "__init__", "Span.__init__", defArgs (inClass (top 1) 0), defBody (inClass (top 1) 0), defScope (inClass (top 1) 0), [], []⟩
def d_82 : He.DefD := ⟨("Span", some "__len__"), "__len__", "Span.__len__", defArgs (inClass (top 1) 1), defBody (inClass (top 1) 1), defScope (inClass (top 1) 1), [], []⟩
def d_83 : He.DefD := ⟨("Span", some "__eq__"), "__eq__", "Span.__eq__", defArgs (inClass (top 1) 2), defBody (inClass (top 1) 2), defScope (inClass (top 1) 2), [], []⟩
def d_84 : He.DefD := ⟨("Span", some "__str__"), "__str__", "Span.__str__", defArgs (inClass (top 1) 3), defBody (inClass (top 1) 3), defScope (inClass (top 1) 3), [], []⟩
def d_223 : He.DefD := ⟨("Span", some "holds"), "holds", "Span.holds", defArgs (inClass (top 1) 4), defBody (inClass (top 1) 4), defScope (inClass (top 1) 4), [], []⟩
def d_224 : He.DefD := ⟨("law", none), "law", "law", defArgs (top 5), defBody (top 5), defScope (top 5), [], []⟩
def fn : List He.DefD := [d_6, d_7, d_81, d_82, d_83, d_84, d_223, d_224]
def fa : List He.Fa := [.glo "_law_draws", .glo "_law_draw", .glo "law", .meth "Span" "__len__", .meth "Span" "__eq__", .meth "Span" "__str__", .meth "Span" "holds", .cls "Span", .glo "Span", .mkr "Span", .noat "Span" "low", .noat "Span" "high", .free "bool", .free "int", .free "isinstance", .free "len", .free "max", .free "min", .free "range", .free "str"]
def ts : List He.Tab := []
def ex (K : PySem.W.Frag) : Bool := (ownClB K (He.ga K "Span"))
def loose0 : List Str := ["__name__", "Span", "_law_draws", "_law_draw"]
def loose : List Str := loose0
abbrev R : PySem.W.OpenRow := PySem.W.OpenLaw.row PySem.Challenge.rw_tuckbook_k31_spans_by_their_own_words
abbrev hk : PySem.W.Hook := He.hookX 5 fa fn ts [] ex
def ob (s : PySem.W.SharedT) : He.AlX := He.obsX 5 fa fn ts [] ex (HandSHeadRun.getT s)
theorem ob_eq (s : PySem.W.SharedT) : ob s = hk.obs s.abs := He.obsX_eq (HandSHeadRun.getT_eq s)
abbrev qv : Program := PySem.W.view R.prog [5]
theorem run (w : World) : HandSHeadRun.RunEq R qv hk ob 9000 loose w := by
  intro os
  kernel_rfl
section
variable {P : Program} {w : World} {K : PySem.W.Frag} {mg : Str → Option Value} {base : Heap} {fd : Nat → FuncData}
theorem fn_zero {a : Addr} {fdv : FuncData} {ps : List Str} {n : Nat} {f : Nat} : FnOk P w K mg base (L2N.CX P w) (2 * 0) a fdv ps (spF (Gc K w) n (callF 0 f)) :=
  ⟨fun vs H Q E ⟨_, _, _, _, _, _, _, _, h⟩ => h.elim, fun _ _ _ _ _ _ _ _ _ _ _ _ _ ⟨_, _, _, _, _, _, _, _, h⟩ => h.elim⟩
theorem ok_all (V : EV K mg fd w) : ∀ k, OKS P w K mg base fd k
  | 0 => ⟨fn_zero, fn_zero, fn_zero, fn_zero, fn_zero, fn_zero, fn_zero, fn_zero⟩
  | k + 1 => have IH := ok_all V k; ⟨ok_6 V IH, ok_7 V IH, ok_81 V IH, ok_82 V IH, ok_83 V IH, ok_84 V IH, ok_223 V IH, ok_224 V IH⟩
end
theorem facts {P : Program} {w : World} {K : PySem.W.Frag} {h : Heap} {mg : Str → Option Value} {f : Addr} (X : K.In h) (G : h.Ns mainGlobals mg) (hfa : mg ("law" : Str) = some (.ref f)) (c : He.SaysX fa fn ts [] ex w h K) :
    ∃ fd : FuncData, (∀ (s : Shared) (v : Value), BindsTo s fd ⟨[v], []⟩ [("_law_script", v)]) ∧ ∀ base : Heap, K.In base → base.Ns mainGlobals mg → FnOk P w K mg base (L2N.CX P w) 80 f fd ["_law_script"] (spF (Gc K w) 1 (callF 40 224)) := by
  have cd := c.t.d
  have cx := c.more
  simp only [ex, Bool.and_eq_true] at cx
  obtain ⟨fd6, F6⟩ := cd.def_ 0 (d := d_6) rfl
  obtain ⟨fd7, F7⟩ := cd.def_ 1 (d := d_7) rfl
  obtain ⟨fd81, F81⟩ := cd.def_ 2 (d := d_81) rfl
  obtain ⟨fd82, F82⟩ := cd.def_ 3 (d := d_82) rfl
  obtain ⟨fd83, F83⟩ := cd.def_ 4 (d := d_83) rfl
  obtain ⟨fd84, F84⟩ := cd.def_ 5 (d := d_84) rfl
  obtain ⟨fd223, F223⟩ := cd.def_ 6 (d := d_223) rfl
  obtain ⟨fd224, F224⟩ := cd.def_ 7 (d := d_224) rfl
  have e := hfa.symm.trans (He.glo_ok X G (cd.fact 2 (f := .glo "law") rfl))
  cases e
  have V : EV K mg (fun | 6 => fd6 | 7 => fd7 | 81 => fd81 | 82 => fd82 | 83 => fd83 | 84 => fd84 | 223 => fd223 | 224 => fd224 | _ => fd6) w := ⟨F6, He.glo_ok X G (cd.fact 0 (f := .glo "_law_draws") rfl), F7, He.glo_ok X G (cd.fact 1 (f := .glo "_law_draw") rfl), F81, F82, He.meth_ok (cd.fact 3 (f := .meth "Span" "__len__") rfl), F83, He.meth_ok (cd.fact 4 (f := .meth "Span" "__eq__") rfl), F84, He.meth_ok (cd.fact 5 (f := .meth "Span" "__str__") rfl), F223, He.meth_ok (cd.fact 6 (f := .meth "Span" "holds") rfl), F224, He.glo_ok X G (cd.fact 2 (f := .glo "law") rfl), He.cls_ok (cd.fact 7 (f := .cls "Span") rfl), He.glo_ok X G (cd.fact 8 (f := .glo "Span") rfl), He.mkr_ok (cd.fact 9 (f := .mkr "Span") rfl), He.noat_ok (cd.fact 10 (f := .noat "Span" "low") rfl), He.noat_ok (cd.fact 11 (f := .noat "Span" "high") rfl), ownClB_ok (He.cls_ok (cd.fact 7 (f := .cls "Span") rfl)) cx, ownClB_ne cx, He.free_ok X G (cd.fact 12 (f := .free "bool") rfl), He.free_ok X G (cd.fact 13 (f := .free "int") rfl), He.free_ok X G (cd.fact 14 (f := .free "isinstance") rfl), He.free_ok X G (cd.fact 15 (f := .free "len") rfl), He.free_ok X G (cd.fact 16 (f := .free "max") rfl), He.free_ok X G (cd.fact 17 (f := .free "min") rfl), He.free_ok X G (cd.fact 18 (f := .free "range") rfl), He.free_ok X G (cd.fact 19 (f := .free "str") rfl)⟩
  have b := FunD.bindsA (ps := ["_law_script"]) F224 fun _ _ _ _ _ _ us hl => match us, hl with | [_], _ => rfl
  exact ⟨fd224, fun s v => b s [v] rfl, fun base _ _ => (ok_all V 40).o_224⟩
theorem sp_law {K : PySem.W.Frag} {w : World} (H : Hp) (a : Addr) (ns : List Int) (hl : ns.length ≤ 63) (hS : SqL K H a (ns.map V.int)) : spF (Gc K w) 1 (LW.callF 40 224) [.ref a] H (fun v _ => v = .bl true) fun _ _ _ => False := by
  refine ⟨H, add nil0 nil0, [(.fz, .scr ns)], rfl, Same.refl H, .cons (.fz (.scr hS)) .nil, fun a => by simp [add, nil0], fun a _ => rfl, ?_⟩
  rw [LW.law_true ns hl]
  intro v F' H' T' f s1 s2 ou o le di
  cases o with
  | fz r => cases r; rfl
end LW
open PySem PySem.W PySem.Calls PyProof.Rows
theorem PySem.Challenge.cw_tuckbook_k31_spans_by_their_own_words_holds : PySem.Challenge.rw_tuckbook_k31_spans_by_their_own_words.Holds := by
  w_on; o_law
  refine HandSHeadRun.head_any (r := LW.R) (q := LW.qv) (H := LW.hk) (ob := LW.ob) (M := 9000) (loose := LW.loose) (d := HandSHeadRun.topDef LW.R.prog 5) (kwd := []) LW.ob_eq
    (by kernel_rfl) (fun s => by kernel_rfl) LW.run (by kernel_rfl) (by kernel_rfl) (by kernel_rfl) (by rfl) (by first | assumption | decide +kernel) (by decide +kernel) ⟨rfl, rfl, rfl, rfl, rfl, by decide +kernel⟩ ?hw ?hc
  case hw => w_witness2
  case hc =>
    refine L2.walk_ofEw (l := PySem.Challenge.rw_tuckbook_k31_spans_by_their_own_words) (n := 63) (k := 80) (x := "_law_script") (CX := fun w => L2N.CX PySem.Challenge.rw_tuckbook_k31_spans_by_their_own_words.prog w) rfl (by decide) (by kernel_rfl) ⟨rfl, by decide, by decide⟩ ?F ?X
    case X =>
      intro w H s e s' z
      obtain ⟨_, _, _, _, _, _, _, _, _, _, _, _, z⟩ := z
      exact z
    intro w mg fa h Y G hmg0
    obtain ⟨K, KX, c⟩ := Y
    have hmg : mg ("law" : PySem.Str) = some (.ref fa) := by
      have e : (HandSHeadRun.topDef LW.R.prog 5).name = ("law" : PySem.Str) := by kernel_rfl
      rw [← e]
      exact hmg0
    obtain ⟨fd, hb, hF⟩ := LW.facts (P := (PySem.Challenge.rw_tuckbook_k31_spans_by_their_own_words).prog) (w := w) KX G hmg c
    exact ⟨K, fd, _, KX, hb, fun H a ns hl hS => LW.sp_law H a ns hl hS, hF⟩

