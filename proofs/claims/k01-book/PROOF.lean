import PyProof.Rows.All
import Wide.All
import OpenK.AllK
import Wide.FinOn
import HandS.ForMost
import HandS.ForExc
import HandS.Walk
import HandS.Wide
import HandS.IsInst
import HandS.TupAny
import HandS.TupMul
import HandS.Style
import HandS.Conv
import HandS.More
import HandS.SortInts
import HandS.Defaults
import KE.KStateDown
import HandS.HeadEnd
import Lean
import HandS.Head0
import HandS.Head1
import HandS.Head2
import HandS.HeadHook1
import HandS.HeadHook2
import PySem.Challenge.RW_tuckbook_k01_what_is_a_book
set_option Elab.async false
set_option linter.all false
set_option maxRecDepth 100000
set_option maxHeartbeats 0
/-! TbM: the mirror. Data, kinds of ownership, slots, the meanings of constructs; core Lean alone. -/
namespace TB

/-- data -/
inductive D where
  | non | bl (b : Bool) | int (i : Int) | str (s : List Nat)
  | scr (xs : List Int) | tup (xs : List D) | lst (xs : List D) | dic (kvs : List (D × D)) | dit (kvs : List (D × D)) | ob (c : Nat) (fs : List D) | fn (k : Nat)
  deriving Inhabited

/-- who may change it: fz nobody; else it is owned by the slot (or the temporary) that holds it -/
inductive Kd where
  | fz | li (k : Kd) | dK (k : Kd) | dT (k : Kd) | ob (ks : List Kd)
  deriving Inhabited

abbrev KD := Kd × D
abbrev Slot := Option KD
/-- an exception: its class, what its field (or its text) is -/
structure Xc where
  c : Nat
  arg : D
inductive R (α : Type) where
  | ok (a : α) (S : List Slot) | exc (x : Xc) (S : List Slot) | bad
abbrev M (α : Type) := List Slot → R α

def R.bind {α β : Type} : R α → (α → M β) → R β
  | .ok a S, f => f a S
  | .exc x S, _ => .exc x S
  | .bad, _ => .bad
def M.pure {α : Type} (a : α) : M α := fun S => .ok a S
def M.bind {α β : Type} (m : M α) (f : α → M β) : M β := fun S => (m S).bind f

/-! ### expressions -/
abbrev E := M KD
/-- a frozen slot -/
def eVar (i : Nat) : E := fun S => match S[i]? with
  | some (some (.fz, d)) => .ok (.fz, d) S
  | _ => .bad
/-- a slot moved out -/
def eMv (i : Nat) : E := fun S => match S[i]? with
  | some (some kd) => .ok kd (S.set i none)
  | _ => .bad
def eCon (d : D) : E := fun S => .ok (.fz, d) S
/-- what is owned is frozen from here on -/
def eFr (e : E) : E := M.bind e fun kd => M.pure (.fz, kd.2)
/-- data without references -/
def D.flat : D → Bool
  | .non => true
  | .bl _ => true
  | .int _ => true
  | .str _ => true
  | _ => false
def frz (s : Slot) : Slot := s.map fun kd => (.fz, kd.2)
/-- a look at owned things that gives flat data -/
def ePeek (e : E) : E := fun S => match e (S.map frz) with
  | .ok (_, d) _ => if d.flat then .ok (.fz, d) S else .bad
  | _ => .bad
/-- frozen data of an expression: what it makes is frozen -/
def eDat (e : E) : M D := M.bind e fun kd => M.pure kd.2
def eAll : List E → M (List D)
  | [] => M.pure []
  | e :: es => M.bind (eDat e) fun d => M.bind (eAll es) fun ds => M.pure (d :: ds)
/-- what an operation gives; no answer: not promised -/
def ofO : Option KD → E
  | some kd => M.pure kd
  | none => fun _ => .bad
def eApp (f : List D → Option KD) (es : List E) : E := M.bind (eAll es) fun ds => ofO (f ds)
def eOp (f : D → D → Option KD) (a b : E) : E := M.bind (eDat a) fun x => M.bind (eDat b) fun y => ofO (f x y)
def eUn (f : D → Option KD) (a : E) : E := M.bind (eDat a) fun x => ofO (f x)
def eBool (e : E) : M Bool := M.bind e fun kd => match kd.2 with
  | .bl b => M.pure b
  | _ => fun _ => .bad
def eAnd (a b : E) : E := M.bind (eBool a) fun c => if c then b else M.pure (.fz, .bl false)
def eOr (a b : E) : E := M.bind (eBool a) fun c => if c then M.pure (.fz, .bl true) else b
def eNot (a : E) : E := M.bind (eBool a) fun c => M.pure (.fz, .bl (!c))
/-! tests -/
abbrev T := M Bool
def tAnd (a b : T) : T := M.bind a fun c => if c then b else M.pure false
def tOr (a b : T) : T := M.bind a fun c => if c then M.pure true else b
def tNot (a : T) : T := M.bind a fun c => M.pure (!c)
/-- a test that looks at owned things -/
def tPeek (c : T) : T := fun S => match c (S.map frz) with
  | .ok b _ => .ok b S
  | _ => .bad
def eIf (c : T) (a b : E) : E := M.bind c fun x => if x then a else b
/-- a < b < c -/
def chain2 (g : D → D → Option KD) (c : E) (y : D) : Option KD → E
  | some (.fz, .bl b) => if b then M.bind (eDat c) fun z => ofO (g y z) else M.pure (.fz, .bl false)
  | _ => fun _ => .bad
def eChain (f g : D → D → Option KD) (a b c : E) : E := M.bind (eDat a) fun x => M.bind (eDat b) fun y => chain2 g c y (f x y)
def sizeMax : Nat := 16777216
def fTup (ds : List D) : Option KD := if ds.length ≤ sizeMax then some (.fz, .tup ds) else none
def fLst (ds : List D) : Option KD := if ds.length ≤ sizeMax then some (.li .fz, .lst ds) else none
/-- the items of what is walked -/
def itemsOf (d : D) : Option (List D) := match d with
  | .lst xs => some xs
  | .tup xs => some xs
  | _ => none
abbrev It := M (List D)
def itSeq (e : E) : It := M.bind (eDat e) fun d => match itemsOf d with
  | some xs => M.pure xs
  | none => fun _ => .bad
/-- a text, sign by sign -/
def itStr (e : E) : It := M.bind (eDat e) fun d => match d with
  | .str s => M.pure (s.map fun c => .str [c])
  | _ => fun _ => .bad
def rangeL (lo : Int) (n : Nat) : List D := (List.range n).map fun (i : Nat) => D.int (lo + (i : Int))
/-- (naturals on the left: what is compared so does not run off by itself) -/
def limN : Nat := 4611686018427387904
def itRange1 (e : E) : It := M.bind (eDat e) fun d => match d with
  | .int j => if j.natAbs < limN then M.pure (rangeL 0 j.toNat) else fun _ => .bad
  | _ => fun _ => .bad
def itRange2 (a b : E) : It := M.bind (eDat a) fun x => M.bind (eDat b) fun y => match x, y with
  | .int i, .int j => if i.natAbs < limN ∧ j.natAbs < limN then M.pure (rangeL i (j - i).toNat) else fun _ => .bad
  | _, _ => fun _ => .bad
/-! targets -/
inductive Tg where
  | nm (i : Nat) | tp (is : List Tg)
mutual
def Tg.put : Tg → D → List Slot → Option (List Slot)
  | .nm i, d, S => if i < S.length then some (S.set i (some (.fz, d))) else none
  | .tp is, d, S => match d with
    | .tup xs => Tg.puts is xs S
    | _ => none
def Tg.puts : List Tg → List D → List Slot → Option (List Slot)
  | [], [], S => some S
  | g :: gs, d :: ds, S => (Tg.put g d S).bind fun S => Tg.puts gs ds S
  | _, _, _ => none
end
/-! ### statements -/
inductive Fl where
  | nx | rt (r : KD) | bk | ct
abbrev St := M Fl
def sNx : St := M.pure .nx
def sSet (i : Nat) (e : E) : St := M.bind e fun kd S => if i < S.length then .ok .nx (S.set i (some kd)) else .bad
/-- a new tuple laid out -/
def sPut (g : Tg) (e : E) : St := M.bind (eDat e) fun d S => match g.put d S with
  | some S' => .ok .nx S'
  | none => .bad
def sSeq (a b : St) : St := M.bind a fun f => match f with
  | .nx => b
  | f => M.pure f
def sRet (e : E) : St := M.bind e fun kd => M.pure (.rt kd)
def sRetN : St := M.pure (.rt (.fz, .non))
def sDrop (e : E) : St := M.bind e fun _ => M.pure .nx
def sIf (c : T) (a b : St) : St := M.bind c fun x => if x then a else b
def sBrk : St := M.pure .bk
def sCont : St := M.pure .ct
def sWhile : Nat → T → St → St
  | 0, _, _ => fun _ => .bad
  | n + 1, c, b => M.bind c fun x => if x then M.bind b fun f => match f with
      | .nx => sWhile n c b
      | .ct => sWhile n c b
      | .bk => M.pure .nx
      | .rt r => M.pure (.rt r)
    else M.pure .nx
def loop (g : Tg) (b : St) : List D → St
  | [] => M.pure .nx
  | d :: ds => fun S => match g.put d S with
    | none => .bad
    | some S => (b S).bind fun f => match f with
      | .nx => loop g b ds
      | .ct => loop g b ds
      | .bk => M.pure .nx
      | .rt r => M.pure (.rt r)
def sFor (it : It) (g : Tg) (b : St) : St := M.bind it fun ds => loop g b ds
/-! comprehensions: vs the block's own slots -/
def wipeS (S : List Slot) : List Nat → List Slot
  | [] => S
  | v :: vs => (wipeS S vs).set v none
/-- the own slots as they were ahead -/
def backS (S0 : List Slot) : List Slot → List Nat → List Slot
  | S, [] => S
  | S, v :: vs => backS S0 (S.set v (S0.getD v none)) vs
def noDup : List Nat → Bool
  | [] => true
  | v :: vs => !vs.contains v && noDup vs
mutual
def Tg.sl : Tg → List Nat
  | .nm i => [i]
  | .tp ts => Tg.sls ts
def Tg.sls : List Tg → List Nat
  | [] => []
  | t :: ts => Tg.sl t ++ Tg.sls ts
end
def cLoop (g : Tg) (vs : List Nat) (c : T) (e : E) : List D → List D → M (List D)
  | [], acc => M.pure acc
  | d :: ds, acc => fun S => match g.put d S with
    | none => .bad
    | some S => (c S).bind fun b => if b then M.bind (eDat e) fun y S => if acc.length < sizeMax then cLoop g vs c e ds (acc ++ [y]) (wipeS S vs) else .bad
      else fun S => cLoop g vs c e ds acc (wipeS S vs)
def fzAt (S : List Slot) (v : Nat) : Bool := match S[v]? with
  | some none => true
  | some (some (.fz, _)) => true
  | _ => false
def eLc (it : It) (g : Tg) (vs : List Nat) (c : T) (e : E) : E := M.bind it fun ds S0 => if (vs.all (fzAt S0) && noDup vs && g.sl.all vs.contains) = true then
    match cLoop g vs c e ds [] (wipeS S0 vs) with
    | .ok acc S => .ok (.li .fz, .lst acc) (backS S0 S vs)
    | _ => .bad
  else .bad
def tTrue : T := M.pure true
def normIx (n : Nat) (i : Int) : Option Nat := if 0 ≤ i then (if i < n then some i.toNat else none) else if -(n : Int) ≤ i then some (i + n).toNat else none
/-! ### operations on data -/
def kz (d : D) : Option KD := some (.fz, d)
def D.toB : Bool → D := .bl
/-- below 2^500 -/
abbrev small (i : Int) : Prop := i.natAbs < 3273390607896141870013189696827599152216642046043064789483291368096133796404674554883270092325904157150886684127560071009217256545885393053328527589376
def fAdd : D → D → Option KD
  | .int i, .int j => kz (.int (i + j))
  | .str a, .str b => if a.length + b.length ≤ sizeMax then kz (.str (a ++ b)) else none
  | .lst a, .lst b => if a.length + b.length ≤ sizeMax then some (.li .fz, .lst (a ++ b)) else none
  | .tup a, .tup b => if a.length + b.length ≤ sizeMax then kz (.tup (a ++ b)) else none
  | _, _ => none
def fSub : D → D → Option KD
  | .int i, .int j => kz (.int (i - j))
  | _, _ => none
def fMul : D → D → Option KD
  | .int i, .int j => if small i ∧ small j then kz (.int (i * j)) else none
  | .tup a, .int j => if a ≠ [] ∧ 2 ≤ j ∧ j.natAbs ≤ 1000 ∧ a.length ≤ 1000 then kz (.tup (List.replicate j.toNat a).flatten) else none
  | .lst a, .int j => if 0 ≤ j ∧ j.natAbs ≤ 1000 ∧ a.length ≤ 1000 then some (.li .fz, .lst (List.replicate j.toNat a).flatten) else none
  | _, _ => none
def fMod : D → D → Option KD
  | .int i, .int j => if 0 < j then kz (.int (i % j)) else none
  | _, _ => none
def fDiv : D → D → Option KD
  | .int i, .int j => if 0 < j ∧ small j then kz (.int (i / j)) else none
  | _, _ => none
def fNeg : D → Option KD
  | .int i => kz (.int (-i))
  | _ => none
def fPow : D → D → Option KD
  | .int i, .int j => if 0 ≤ j ∧ j.natAbs ≤ 1000000 ∧ i.natAbs < 2 ^ 64 then kz (.int (i ^ j.toNat)) else none
  | _, _ => none
def fLt : D → D → Option KD
  | .int i, .int j => kz (.bl (decide (i < j)))
  | .str a, .str b => kz (.bl (decide (a < b)))
  | _, _ => none
def fLe : D → D → Option KD
  | .int i, .int j => kz (.bl (decide (i ≤ j)))
  | .str a, .str b => kz (.bl (!decide (b < a)))
  | _, _ => none
def fGt : D → D → Option KD
  | .int i, .int j => kz (.bl (decide (j < i)))
  | .str a, .str b => kz (.bl (decide (b < a)))
  | _, _ => none
def fGe : D → D → Option KD
  | .int i, .int j => kz (.bl (decide (j ≤ i)))
  | .str a, .str b => kz (.bl (!decide (a < b)))
  | _, _ => none
def fIx : D → D → Option KD
  | .scr xs, .int i => (normIx xs.length i).bind fun n => xs[n]?.bind fun j => kz (.int j)
  | .lst xs, .int i => (normIx xs.length i).bind fun n => xs[n]?.bind kz
  | .tup xs, .int i => (normIx xs.length i).bind fun n => xs[n]?.bind kz
  | .str s, .int i => if s.length ≤ sizeMax then (normIx s.length i).bind fun n => s[n]?.bind fun c => kz (.str [c]) else none
  | _, _ => none
def fLen : List D → Option KD
  | [.scr xs] => kz (.int xs.length)
  | [.lst xs] => kz (.int xs.length)
  | [.tup xs] => kz (.int xs.length)
  | [.str s] => if s.length ≤ sizeMax then kz (.int s.length) else none
  | _ => none
def fIsN : D → D → Option KD
  | x, .non => kz (.bl (match x with | .non => true | _ => false))
  | _, _ => none
def fNotN : D → D → Option KD
  | x, .non => kz (.bl (match x with | .non => false | _ => true))
  | _, _ => none
def fIsB : D → D → Option KD
  | .bl a, .bl b => kz (.bl (decide (a = b)))
  | _, _ => none
def fNotB : D → D → Option KD
  | .bl a, .bl b => kz (.bl (!decide (a = b)))
  | _, _ => none
def fIntB : List D → Option KD
  | [.int i] => kz (.int i)
  | [.bl b] => kz (.int (if b then 1 else 0))
  | _ => none
def fMin2 : List D → Option KD
  | [.int i, .int j] => kz (.int (if j < i then j else i))
  | _ => none
def fMax2 : List D → Option KD
  | [.int i, .int j] => kz (.int (if j > i then j else i))
  | _ => none
def fList : List D → Option KD
  | [.lst xs] => some (.li .fz, .lst xs)
  | [.tup xs] => some (.li .fz, .lst xs)
  | [.dic kvs] => some (.li .fz, .lst (kvs.map (·.1)))
  | _ => none
def fTuple : List D → Option KD
  | [.lst xs] => kz (.tup xs)
  | [.tup xs] => kz (.tup xs)
  | _ => none
def boolsOf : List D → Option (List Bool)
  | [] => some []
  | .bl b :: ds => (boolsOf ds).map (b :: ·)
  | _ => none
def fAllB : List D → Option KD
  | [.lst xs] => (boolsOf xs).bind fun bs => kz (.bl (bs.all id))
  | _ => none
/-- c in a text, c one sign -/
def fInS : D → D → Option KD
  | .str [c], .str s => kz (.bl (decide (c ∈ s)))
  | _, _ => none
def fNotInS : D → D → Option KD
  | .str [c], .str s => kz (.bl (!decide (c ∈ s)))
  | _, _ => none
/-! == of data -/
mutual
def D.eqv : D → D → Bool
  | .non, .non => true
  | .bl a, .bl b => a == b
  | .bl a, .int j => (if a then 1 else 0) == j
  | .int i, .bl b => i == (if b then 1 else 0)
  | .int i, .int j => i == j
  | .str a, .str b => a == b
  | .lst xs, .lst ys => D.eqvs xs ys
  | .tup xs, .tup ys => D.eqvs xs ys
  | _, _ => false
def D.eqvs : List D → List D → Bool
  | [], [] => true
  | x :: xs, y :: ys => D.eqv x y && D.eqvs xs ys
  | _, _ => false
end
mutual
/-- made of numbers, truths, None, texts, lists, tuples, at most n within one another -/
def D.lay : Nat → D → Bool
  | _, .non => true
  | _, .bl _ => true
  | _, .int _ => true
  | _, .str s => s.all (· < 1114112)
  | n + 1, .lst xs => D.lays n xs
  | n + 1, .tup xs => D.lays n xs
  | _, _ => false
def D.lays : Nat → List D → Bool
  | _, [] => true
  | n, x :: xs => D.lay n x && D.lays n xs
end
def eqOk (x y : D) : Bool := (x.flat && y.flat) || (x.lay 60 && y.lay 60)
def fEq (x y : D) : Option KD := if eqOk x y = true then kz (.bl (D.eqv x y)) else none
def fNe (x y : D) : Option KD := if eqOk x y = true then kz (.bl (!D.eqv x y)) else none
/-- x in xs, xs of flat data -/
def fIn (x y : D) : Option KD := match itemsOf y with
  | some ys => if x.flat && ys.all D.flat then kz (.bl (ys.any fun y => D.eqv y x)) else none
  | none => none
def fNotIn (x y : D) : Option KD := match itemsOf y with
  | some ys => if x.flat && ys.all D.flat then kz (.bl (!ys.any fun y => D.eqv y x)) else none
  | none => none
def fOr (f g : D → D → Option KD) (x y : D) : Option KD := match f x y with
  | some a => some a
  | none => g x y
def fInA : D → D → Option KD := fOr fIn fInS
def fNotInA : D → D → Option KD := fOr fNotIn fNotInS
def fIsA : D → D → Option KD := fOr fIsN fIsB
def fIsNotA : D → D → Option KD := fOr fNotN fNotB
/-! isinstance -/
inductive Ty where
  | int | bool | str | list | tuple
def D.isTy : Ty → D → Option Bool
  | .int, .int _ => some true
  | .int, .bl _ => some true
  | .bool, .bl _ => some true
  | .str, .str _ => some true
  | .list, .lst _ => some true
  | .tuple, .tup _ => some true
  | _, .scr _ => none
  | _, .dic _ => none
  | _, .dit _ => none
  | _, .ob _ _ => none
  | _, .fn _ => none
  | _, _ => some false
def fIsi (t : Ty) (d : D) : Option KD := (d.isTy t).bind fun b => kz (.bl b)
def eIsi (t : Ty) (e : E) : E := eUn (fIsi t) e
/-! slices -/
def ixS (n d : Nat) : Option Int → Nat
  | none => d
  | some v => if v < 0 then (v + (n : Int)).toNat else min v.toNat n
def cutL {α : Type} (xs : List α) (lo hi : Option Int) : List α := (xs.drop (ixS xs.length 0 lo)).take (ixS xs.length xs.length hi - ixS xs.length 0 lo)
def fSl (d : D) (lo hi : Option Int) : Option KD := match d with
  | .lst xs => some (.li .fz, .lst (cutL xs lo hi))
  | .tup xs => kz (.tup (cutL xs lo hi))
  | .str s => if s.length ≤ sizeMax then kz (.str (cutL s lo hi)) else none
  | _ => none
def eOpt : Option E → M (Option Int)
  | none => M.pure none
  | some e => M.bind (eDat e) fun d => match d with
    | .int i => M.pure (some i)
    | _ => fun _ => .bad
def eSl (a : E) (lo hi : Option E) : E := M.bind (eDat a) fun x => M.bind (eOpt lo) fun l => M.bind (eOpt hi) fun h => ofO (fSl x l h)
def fRev : D → Option KD
  | .lst xs => some (.li .fz, .lst xs.reverse)
  | _ => none
/-! sorted, join -/
def intsOf : List D → Option (List Int)
  | [] => some []
  | .int i :: ds => (intsOf ds).map (i :: ·)
  | _ => none
def strsOf : List D → Option (List (List Nat))
  | [] => some []
  | .str i :: ds => (strsOf ds).map (i :: ·)
  | _ => none
def sortI (xs : List Int) : List Int := xs.mergeSort fun a b => decide (a ≤ b)
def sortT (xs : List (List Nat)) : List (List Nat) := xs.mergeSort fun a b => !decide (b < a)
def fSorted : List D → Option KD
  | [.lst xs] => match intsOf xs with
    | some is => some (.li .fz, .lst ((sortI is).map D.int))
    | none => match strsOf xs with
      | some ss => if ss.length < 64 then some (.li .fz, .lst ((sortT ss).map D.str)) else none
      | none => none
  | _ => none
def joinD (s : List Nat) : List (List Nat) → List Nat
  | [] => []
  | [p] => p
  | p :: q :: r => p ++ (s ++ joinD s (q :: r))
def fJoin (s : List Nat) (d : D) : Option KD := match d with
  | .lst xs => (strsOf xs).bind fun ss => if (ss.map (·.length)).sum + ss.length * s.length ≤ sizeMax then kz (.str (joinD s ss)) else none
  | _ => none
def eJoin (a b : E) : E := M.bind (eDat a) fun x => match x with
  | .str s => M.bind (eDat b) fun y => ofO (fJoin s y)
  | _ => fun _ => .bad
/-- a look at owned things that gives a new list of flat data -/
def ePeekL (e : E) : E := fun S => match e (S.map frz) with
  | .ok (.li .fz, .lst ds) _ => if ds.all D.flat then .ok (.li .fz, .lst ds) S else .bad
  | _ => .bad
/-- list(range(n)) -/
def eLRg1 (a : E) : E := M.bind (eDat a) fun d => match d with
  | .int j => if j.natAbs ≤ sizeMax then M.pure (.li .fz, .lst (rangeL 0 j.toNat)) else fun _ => .bad
  | _ => fun _ => .bad
/-! ### owned things changed -/
/-- the own list of slot i -/
def ownL (S : List Slot) (i : Nat) : Option (List D) := match S[i]? with
  | some (some (.li .fz, .lst xs)) => some xs
  | _ => none
def hasL (i : Nat) : M Unit := fun S => match ownL S i with
  | some _ => .ok () S
  | none => .bad
/-- the own dict of slot i -/
def ownK (S : List Slot) (i : Nat) : Option (List (D × D)) := match S[i]? with
  | some (some (.dK .fz, .dic xs)) => some xs
  | _ => none
def hasK (i : Nat) : M Unit := fun S => match ownK S i with
  | some _ => .ok () S
  | none => .bad
/-- xs[k] = e -/
def sSetIx (i : Nat) (k e : E) : St := M.bind (eDat e) fun y => M.bind (hasL i) fun _ => M.bind (eDat k) fun x S => match ownL S i, x with
  | some xs, .int j => match normIx xs.length j with
    | some n => .ok .nx (S.set i (some (.li .fz, .lst (xs.set n y))))
    | none => .bad
  | _, _ => .bad
/-- xs[k] of an own list: its items are frozen -/
def eIxO (i : Nat) (k : E) : E := M.bind (hasL i) fun _ => M.bind (eDat k) fun x S => match ownL S i, x with
  | some xs, .int j => match (normIx xs.length j).bind fun n => xs[n]? with
    | some d => .ok (.fz, d) S
    | none => .bad
  | _, _ => .bad
/-- the slot i, frozen where it stands -/
def eFzV (i : Nat) : E := fun S => match S[i]? with
  | some (some (_, d)) => .ok (.fz, d) (S.set i (some (.fz, d)))
  | _ => .bad
/-- xs.m(..): what comes, what becomes of xs -/
def eMth (f : List D → List D → Option (D × List D)) (i : Nat) (es : List E) : E := M.bind (hasL i) fun _ => M.bind (eAll es) fun ds S => match ownL S i with
  | some xs => match f xs ds with
    | some (r, ys) => .ok (.fz, r) (S.set i (some (.li .fz, .lst ys)))
    | none => .bad
  | none => .bad
def fAppend : List D → List D → Option (D × List D)
  | xs, [y] => if xs.length < sizeMax then some (.non, xs ++ [y]) else none
  | _, _ => none
def fPopAt : List D → List D → Option (D × List D)
  | xs, [.int i] => if i.natAbs < limN then (normIx xs.length i).bind fun n => xs[n]?.map fun d => (d, xs.eraseIdx n) else none
  | _, _ => none
def fInsert : List D → List D → Option (D × List D)
  | xs, [.int i, y] => if 0 ≤ i ∧ i.natAbs < limN ∧ xs.length < sizeMax then some (.non, xs.take i.toNat ++ [y] ++ xs.drop i.toNat) else none
  | _, _ => none
/-- xs[a:b] = ys -/
def sSetSl (i : Nat) (a b e : E) : St := M.bind (eDat e) fun y => M.bind (hasL i) fun _ => M.bind (eDat a) fun p => match p with
  | .int l => M.bind (eDat b) fun q => match q with
    | .int h => match y with
      | .lst ys => fun S => match ownL S i with
        | some xs => if 0 ≤ l ∧ l ≤ h ∧ l ≤ xs.length ∧ xs.length + ys.length ≤ sizeMax then .ok .nx (S.set i (some (.li .fz, .lst (xs.take l.toNat ++ ys ++ xs.drop h.toNat)))) else .bad
        | none => .bad
      | _ => fun _ => .bad
    | _ => fun _ => .bad
  | _ => fun _ => .bad
/-- xs[a:b] of an own list -/
def eSlO (i : Nat) (lo hi : Option E) : E := M.bind (hasL i) fun _ => M.bind (eOpt lo) fun l => M.bind (eOpt hi) fun h S => match ownL S i with
  | some xs => .ok (.li .fz, .lst (cutL xs l h)) S
  | none => .bad
/-- {} -/
def eDnew : E := M.pure (.dK .fz, .dic [])
def isKey : D → Bool
  | .int _ => true
  | .str _ => true
  | _ => false
def putD (kvs : List (D × D)) (k v : D) : List (D × D) := if (kvs.any fun p => D.eqv p.1 k) = true then kvs.map (fun p => if D.eqv p.1 k = true then (p.1, v) else p) else kvs ++ [(k, v)]
/-- d[k] = e -/
def sDput (i : Nat) (k e : E) : St := M.bind (eDat e) fun y => M.bind (hasK i) fun _ => M.bind (eDat k) fun x S => match ownK S i with
  | some kvs => if isKey x = true ∧ kvs.length < sizeMax then .ok .nx (S.set i (some (.dK .fz, .dic (putD kvs x y)))) else .bad
  | none => .bad
/-! ### functions -/
inductive FR where
  | ret (r : KD) (outs : List KD) | exc (x : Xc) (outs : List KD) | bad
abbrev Fn := List KD → FR
def Kd.isF : Kd → Bool
  | .fz => true
  | _ => false
/-- what stands in the owned parameters' slots at the end -/
def outsOf : List KD → List Slot → Option (List KD)
  | [], _ => some []
  | (k, _) :: as, s :: S => if k.isF then outsOf as S else match s with
    | some kd => if kd.1.isF then none else (outsOf as S).map (kd :: ·)
    | none => none
  | _ :: _, [] => none
/-- the owned arguments stand in slots that the body leaves to them -/
def pinned (pk : List Nat) : Nat → List KD → Bool
  | _, [] => true
  | i, (k, _) :: as => (k.isF || pk.contains i) && pinned pk (i + 1) as
def frOf (as : List KD) (r : KD) (S : List Slot) : FR := match outsOf as S with
  | some o => .ret r o
  | none => .bad
def runF (n : Nat) (pk : List Nat) (body : St) : Fn := fun as => if pinned pk 0 as = true then match body (as.map some ++ List.replicate (n - as.length) none) with
    | .ok (.rt r) S => frOf as r S
    | .ok .nx S => frOf as (.fz, .non) S
    | .exc x S => (match outsOf as S with | some o => .exc x o | none => .bad)
    | _ => .bad
  else .bad
/-- an argument: frozen data, an owned temporary, a slot lent -/
inductive Ar where
  | v (e : E) | o (e : E) | b (i : Nat)
inductive AV where
  | v (d : D) | o (kd : KD) | b (i : Nat)
def arEv : List Ar → M (List AV)
  | [] => M.pure []
  | .v e :: as => M.bind (eDat e) fun d => M.bind (arEv as) fun r => M.pure (.v d :: r)
  | .o e :: as => M.bind e fun kd => M.bind (arEv as) fun r => if kd.1.isF then fun _ => .bad else M.pure (.o kd :: r)
  | .b i :: as => fun S => match S[i]? with
    | some (some _) => M.bind (arEv as) (fun r => M.pure (.b i :: r)) S
    | _ => .bad
/-- the arguments as the callee has them; lent slots are empty meanwhile -/
def arIn : List AV → List Slot → Option (List KD × List Slot)
  | [], S => some ([], S)
  | .v d :: as, S => (arIn as S).map fun r => ((.fz, d) :: r.1, r.2)
  | .o kd :: as, S => (arIn as S).map fun r => (kd :: r.1, r.2)
  | .b i :: as, S => match S[i]? with
    | some (some kd) => if kd.1.isF then none else (arIn as (S.set i none)).map fun r => (kd :: r.1, r.2)
    | _ => none
/-- lent slots come back -/
def arOut : List AV → List KD → List Slot → Option (List Slot)
  | [], [], S => some S
  | .v _ :: as, os, S => arOut as os S
  | .o _ :: as, _ :: os, S => arOut as os S
  | .b i :: as, o :: os, S => arOut as os (S.set i (some o))
  | _, _, _ => none
def eCall (F : Fn) (as : List Ar) : E := M.bind (arEv as) fun vs S => match arIn vs S with
  | none => .bad
  | some (ks, S1) => match F ks with
    | .ret r os => (match arOut vs os S1 with | some S2 => .ok r S2 | none => .bad)
    | .exc x os => (match arOut vs os S1 with | some S2 => .exc x S2 | none => .bad)
    | .bad => .bad
end TB

/-! TbS: the mirror is kept by the machine: what a value stands for, ownership, the state between two steps. -/
namespace TB
open PySem L2

/-- what the top has written, by numbers: classes, their fields, constants -/
structure Cfg where
  K : PySem.W.Frag
  ca : Nat → Addr
  cn : Nat → List PySem.Str
  fa : Nat → Addr
/-- .. and of one body: the slots that stay as they were at the start -/
structure Cfgx extends Cfg where
  pk : List Nat
  pv : Nat → Option V
instance : Coe Cfgx Cfg := ⟨Cfgx.toCfg⟩
def keyD : Key → D
  | .inl i => .int i
  | .inr z => .str z.cps.toList

mutual
inductive Rep (G : Cfg) (F : Hp) : V → D → Prop
  | non : Rep G F .non .non
  | bl (b : Bool) : Rep G F (.bl b) (.bl b)
  | int (i : Int) : Rep G F (.int i) (.int i)
  | str (z : PySem.Str) : Rep G F (.str z) (.str z.cps.toList)
  | tup {a : Addr} {vs : List V} {ds : List D} : SqT G.K F a vs → Reps G F vs ds → Rep G F (.ref a) (.tup ds)
  | scr {a : Addr} {ns : List Int} : SqL G.K F a (ns.map V.int) → Rep G F (.ref a) (.scr ns)
  | lst {a : Addr} {vs : List V} {ds : List D} : F a = some (.lst vs) → Reps G F vs ds → Rep G F (.ref a) (.lst ds)
  | dK {a : Addr} {kvs : List (Key × V)} {kds : List (D × D)} : F a = some (.dK kvs) → kds.map (·.1) = kvs.map (fun p => keyD p.1) → Reps G F (kvs.map (·.2)) (kds.map (·.2)) → Rep G F (.ref a) (.dic kds)
  | dT {a : Addr} {kvs : List (List Key × V)} {kds : List (D × D)} : F a = some (.dT kvs) → kds.map (·.1) = kvs.map (fun p => D.tup (p.1.map keyD)) → Reps G F (kvs.map (·.2)) (kds.map (·.2)) → Rep G F (.ref a) (.dit kds)
  | ob {a dx : Addr} {c : Nat} {fs : List (PySem.Str × V)} {ds : List D} : F a = some (.ins (G.ca c) dx fs) → fs.map (·.1) = (G.cn c).take ds.length → Reps G F (fs.map (·.2)) ds → Rep G F (.ref a) (.ob c ds)
  | fn (k : Nat) : Rep G F (.ref (G.fa k)) (.fn k)
inductive Reps (G : Cfg) (F : Hp) : List V → List D → Prop
  | nil : Reps G F [] []
  | cons {v : V} {d : D} {vs : List V} {ds : List D} : Rep G F v d → Reps G F vs ds → Reps G F (v :: vs) (d :: ds)
end

/-- how often an address is owned -/
abbrev Cnt := Addr → Nat
def one (a : Addr) : Cnt := fun b => if b = a then 1 else 0
def nil0 : Cnt := fun _ => 0
def add (f g : Cnt) : Cnt := fun a => f a + g a

mutual
inductive Own (G : Cfg) (F H : Hp) : Kd → V → D → Cnt → Prop
  | fz {v : V} {d : D} : Rep G F v d → Own G F H .fz v d nil0
  | li {k : Kd} {a : Addr} {vs : List V} {ds : List D} {g : Cnt} : H a = some (.lst vs) → Owns G F H k vs ds g → Own G F H (.li k) (.ref a) (.lst ds) (add (one a) g)
  | dK {k : Kd} {a : Addr} {kvs : List (Key × V)} {kds : List (D × D)} {g : Cnt} : H a = some (.dK kvs) → kds.map (·.1) = kvs.map (fun p => keyD p.1) → Owns G F H k (kvs.map (·.2)) (kds.map (·.2)) g → Own G F H (.dK k) (.ref a) (.dic kds) (add (one a) g)
  | dT {k : Kd} {a : Addr} {kvs : List (List Key × V)} {kds : List (D × D)} {g : Cnt} : H a = some (.dT kvs) → kds.map (·.1) = kvs.map (fun p => D.tup (p.1.map keyD)) → Owns G F H k (kvs.map (·.2)) (kds.map (·.2)) g → Own G F H (.dT k) (.ref a) (.dit kds) (add (one a) g)
  | ob {ks : List Kd} {a dx : Addr} {c : Nat} {fs : List (PySem.Str × V)} {ds : List D} {g : Cnt} : H a = some (.ins (G.ca c) dx fs) → fs.map (·.1) = (G.cn c).take ds.length → OwnL G F H ks (fs.map (·.2)) ds g → Own G F H (.ob ks) (.ref a) (.ob c ds) (add (one a) g)
inductive Owns (G : Cfg) (F H : Hp) : Kd → List V → List D → Cnt → Prop
  | nil {k : Kd} : Owns G F H k [] [] nil0
  | cons {k : Kd} {v : V} {d : D} {vs : List V} {ds : List D} {f g : Cnt} : Own G F H k v d f → Owns G F H k vs ds g → Owns G F H k (v :: vs) (d :: ds) (add f g)
inductive OwnL (G : Cfg) (F H : Hp) : List Kd → List V → List D → Cnt → Prop
  | nil : OwnL G F H [] [] [] nil0
  | cons {k : Kd} {ks : List Kd} {v : V} {d : D} {vs : List V} {ds : List D} {f g : Cnt} : Own G F H k v d f → OwnL G F H ks vs ds g → OwnL G F H (k :: ks) (v :: vs) (d :: ds) (add f g)
end

theorem same_rd {F F' : Hp} {a : Addr} {u : HO} (e : Same F F') (h : Rd F a u) : Rd F' a u := by
  rcases h with h | ⟨o, h⟩
  · exact .inl (e _ _ h)
  · exact .inr ⟨o, e _ _ h⟩
theorem same_t {K : PySem.W.Frag} {F F' : Hp} {a : Addr} {xs : List V} (e : Same F F') (h : SqT K F a xs) : SqT K F' a xs := h.elim (fun h => .inl (same_rd e h)) .inr
theorem same_l {K : PySem.W.Frag} {F F' : Hp} {a : Addr} {xs : List V} (e : Same F F') (h : SqL K F a xs) : SqL K F' a xs := h.elim (fun h => .inl (same_rd e h)) .inr

section
variable {G : Cfg} {F F' H H' : Hp}
mutual
theorem Rep.mono (e : Same F F') : ∀ {v : V} {d : D}, Rep G F v d → Rep G F' v d
  | _, _, .non => .non
  | _, _, .bl b => .bl b
  | _, _, .int i => .int i
  | _, _, .str z => .str z
  | _, _, .tup h r => .tup (same_t e h) (Reps.mono e r)
  | _, _, .scr h => .scr (same_l e h)
  | _, _, .lst h r => .lst (e _ _ h) (Reps.mono e r)
  | _, _, .dK h k r => .dK (e _ _ h) k (Reps.mono e r)
  | _, _, .dT h k r => .dT (e _ _ h) k (Reps.mono e r)
  | _, _, .ob h k r => .ob (e _ _ h) k (Reps.mono e r)
  | _, _, .fn k => .fn k
theorem Reps.mono (e : Same F F') : ∀ {vs : List V} {ds : List D}, Reps G F vs ds → Reps G F' vs ds
  | _, _, .nil => .nil
  | _, _, .cons h r => .cons (Rep.mono e h) (Reps.mono e r)
end
mutual
theorem Own.mono (e : Same F F') : ∀ {k : Kd} {v : V} {d : D} {f : Cnt}, Own G F H k v d f → (∀ a o, f a ≠ 0 → H a = some o → H' a = some o) → Own G F' H' k v d f
  | _, _, _, _, .fz h, _ => .fz (Rep.mono e h)
  | _, _, _, _, .li (g := g) h r, m => .li (m _ _ (by simp [add, one]) h) (Owns.mono e r fun a o n => m a o (by simp only [add]; omega))
  | _, _, _, _, .dK (g := g) h k r, m => .dK (m _ _ (by simp [add, one]) h) k (Owns.mono e r fun a o n => m a o (by simp only [add]; omega))
  | _, _, _, _, .dT (g := g) h k r, m => .dT (m _ _ (by simp [add, one]) h) k (Owns.mono e r fun a o n => m a o (by simp only [add]; omega))
  | _, _, _, _, .ob (g := g) h k r, m => .ob (m _ _ (by simp [add, one]) h) k (OwnL.mono e r fun a o n => m a o (by simp only [add]; omega))
theorem Owns.mono (e : Same F F') : ∀ {k : Kd} {vs : List V} {ds : List D} {f : Cnt}, Owns G F H k vs ds f → (∀ a o, f a ≠ 0 → H a = some o → H' a = some o) → Owns G F' H' k vs ds f
  | _, _, _, _, .nil, _ => .nil
  | _, _, _, _, .cons h r, m => .cons (Own.mono e h fun a o n => m a o (by simp only [add]; omega)) (Owns.mono e r fun a o n => m a o (by simp only [add]; omega))
theorem OwnL.mono (e : Same F F') : ∀ {k : List Kd} {vs : List V} {ds : List D} {f : Cnt}, OwnL G F H k vs ds f → (∀ a o, f a ≠ 0 → H a = some o → H' a = some o) → OwnL G F' H' k vs ds f
  | _, _, _, _, .nil, _ => .nil
  | _, _, _, _, .cons h r, m => .cons (Own.mono e h fun a o n => m a o (by simp only [add]; omega)) (OwnL.mono e r fun a o n => m a o (by simp only [add]; omega))
end
mutual
/-- what is owned, looked at as frozen -/
theorem Own.rep (e : Same F H) : ∀ {k : Kd} {v : V} {d : D} {f : Cnt}, Own G F H k v d f → Rep G H v d
  | _, _, _, _, .fz h => Rep.mono e h
  | _, _, _, _, .li h r => .lst h (Owns.rep e r)
  | _, _, _, _, .dK h k r => .dK h k (Owns.rep e r)
  | _, _, _, _, .dT h k r => .dT h k (Owns.rep e r)
  | _, _, _, _, .ob h k r => .ob h k (OwnL.rep e r)
theorem Owns.rep (e : Same F H) : ∀ {k : Kd} {vs : List V} {ds : List D} {f : Cnt}, Owns G F H k vs ds f → Reps G H vs ds
  | _, _, _, _, .nil => .nil
  | _, _, _, _, .cons h r => .cons (Own.rep e h) (Owns.rep e r)
theorem OwnL.rep (e : Same F H) : ∀ {k : List Kd} {vs : List V} {ds : List D} {f : Cnt}, OwnL G F H k vs ds f → Reps G H vs ds
  | _, _, _, _, .nil => .nil
  | _, _, _, _, .cons h r => .cons (Own.rep e h) (OwnL.rep e r)
end
mutual
theorem Own.there : ∀ {k : Kd} {v : V} {d : D} {f : Cnt}, Own G F H k v d f → ∀ a, f a ≠ 0 → H a ≠ none
  | _, _, _, _, .fz _, _, n => absurd rfl n
  | _, _, _, _, .li (a := b) (g := g) h r, a, n => by
    by_cases q : a = b
    · rw [q, h]; simp
    · exact Owns.there r a (by simp only [add, one, if_neg q] at n; omega)
  | _, _, _, _, .dK (a := b) (g := g) h _ r, a, n => by
    by_cases q : a = b
    · rw [q, h]; simp
    · exact Owns.there r a (by simp only [add, one, if_neg q] at n; omega)
  | _, _, _, _, .dT (a := b) (g := g) h _ r, a, n => by
    by_cases q : a = b
    · rw [q, h]; simp
    · exact Owns.there r a (by simp only [add, one, if_neg q] at n; omega)
  | _, _, _, _, .ob (a := b) (g := g) h _ r, a, n => by
    by_cases q : a = b
    · rw [q, h]; simp
    · exact OwnL.there r a (by simp only [add, one, if_neg q] at n; omega)
theorem Owns.there : ∀ {k : Kd} {vs : List V} {ds : List D} {f : Cnt}, Owns G F H k vs ds f → ∀ a, f a ≠ 0 → H a ≠ none
  | _, _, _, _, .nil, _, n => absurd rfl n
  | _, _, _, _, .cons (f := f) (g := g) h r, a, n => by
    by_cases q : f a = 0
    · exact Owns.there r a (by simp only [add] at n; omega)
    · exact Own.there h a q
theorem OwnL.there : ∀ {k : List Kd} {vs : List V} {ds : List D} {f : Cnt}, OwnL G F H k vs ds f → ∀ a, f a ≠ 0 → H a ≠ none
  | _, _, _, _, .nil, _, n => absurd rfl n
  | _, _, _, _, .cons (f := f) (g := g) h r, a, n => by
    by_cases q : f a = 0
    · exact OwnL.there r a (by simp only [add] at n; omega)
    · exact Own.there h a q
end
end
end TB

namespace TB
open PySem L2

inductive SlotOk (G : Cfg) (F H : Hp) : Option V → Slot → Cnt → Prop
  | no (v : Option V) : SlotOk G F H v none nil0
  | yes {k : Kd} {v : V} {d : D} {f : Cnt} : Own G F H k v d f → SlotOk G F H (some v) (some (k, d)) f
inductive Slots (G : Cfg) (F H : Hp) : L2.St → List Slot → Cnt → Prop
  | nil : Slots G F H [] [] nil0
  | cons {v : Option V} {s : Slot} {f g : Cnt} {σ : L2.St} {S : List Slot} : SlotOk G F H v s f → Slots G F H σ S g → Slots G F H (v :: σ) (s :: S) (add f g)

section
variable {G : Cfg} {F F' H H' : Hp} {σ : L2.St} {S : List Slot} {T T' : Cnt}
theorem SlotOk.mono (e : Same F F') {v : Option V} {s : Slot} {f : Cnt} (h : SlotOk G F H v s f) (m : ∀ a o, f a ≠ 0 → H a = some o → H' a = some o) : SlotOk G F' H' v s f := by
  cases h with
  | no v => exact .no v
  | yes h => exact .yes (h.mono e m)
theorem Slots.mono (e : Same F F') (h : Slots G F H σ S T) (m : ∀ a o, T a ≠ 0 → H a = some o → H' a = some o) : Slots G F' H' σ S T := by
  induction h with
  | nil => exact .nil
  | cons h _ ih => exact .cons (h.mono e fun a o n => m a o (by simp only [add]; omega)) (ih fun a o n => m a o (by simp only [add]; omega))
theorem Slots.cast (h : Slots G F H σ S T) (e : ∀ a, T a = T' a) : Slots G F H σ S T' := (show T = T' from funext e) ▸ h
theorem Own.cast {k : Kd} {v : V} {d : D} {f f' : Cnt} (h : Own G F H k v d f) (e : ∀ a, f a = f' a) : Own G F H k v d f' := (show f = f' from funext e) ▸ h
theorem Slots.len (h : Slots G F H σ S T) : σ.length = S.length := by
  induction h with
  | nil => rfl
  | cons _ _ ih => simp [ih]
theorem SlotOk.there {v : Option V} {s : Slot} {f : Cnt} (h : SlotOk G F H v s f) (a : Addr) (n : f a ≠ 0) : H a ≠ none := by
  cases h with
  | no v => exact absurd rfl n
  | yes h => exact h.there a n
theorem Slots.there (h : Slots G F H σ S T) (a : Addr) (n : T a ≠ 0) : H a ≠ none := by
  induction h with
  | nil => exact absurd rfl n
  | @cons _ _ f g _ _ h _ ih =>
    by_cases q : f a = 0
    · exact ih (by simp only [add] at n; omega)
    · exact h.there a q
/-- one slot taken out, another one put there -/
theorem Slots.at {i : Nat} {s : Slot} (h : Slots G F H σ S T) (e : S[i]? = some s) : ∃ v f T0, (∀ a, T a = f a + T0 a) ∧ σ[i]? = some v ∧ SlotOk G F H v s f ∧
    ∀ F' H' v' s' f', Same F F' → (∀ a o, T0 a ≠ 0 → H a = some o → H' a = some o) → SlotOk G F' H' v' s' f' → Slots G F' H' (σ.set i v') (S.set i s') (add f' T0) := by
  induction h generalizing i with
  | nil => simp at e
  | @cons v s1 f g σ S h r ih =>
    cases i with
    | zero =>
      have e1 : s1 = s := by simpa using e
      subst e1
      exact ⟨v, f, g, fun a => rfl, rfl, h, fun F' H' v' s' f' sf m h' => .cons h' (r.mono sf m)⟩
    | succ i =>
      have e1 : S[i]? = some s := by simpa using e
      obtain ⟨v2, f2, T0, ht, hv, ho, k⟩ := ih e1
      refine ⟨v2, f2, add f T0, fun a => by simp only [add]; have := ht a; omega, by simpa using hv, ho, fun F' H' v' s' f' sf m h' => ?_⟩
      have q := k F' H' v' s' f' sf (fun a o n => m a o (by simp only [add]; omega)) h'
      have q2 : Slots G F' H' (v :: σ.set i v') (s1 :: S.set i s') (add f (add f' T0)) := .cons (h.mono sf fun a o n => m a o (by simp only [add]; omega)) q
      have e3 : add f (add f' T0) = add f' (add f T0) := by funext a; simp only [add]; omega
      rw [e3] at q2
      simpa using q2
theorem Slots.var {i : Nat} {k : Kd} {d : D} (h : Slots G F H σ S T) (e : S[i]? = some (some (k, d))) : ∃ v f, σ[i]? = some (some v) ∧ Own G F H k v d f ∧ ∀ a, f a ≤ T a := by
  obtain ⟨v, f, T0, ht, hv, ho, _⟩ := h.at e
  cases ho with
  | yes ho => exact ⟨_, f, hv, ho, fun a => by have := ht a; omega⟩
end

/-- the state between two steps: F the frozen part of the heap, T what the slots own -/
structure St' (G : Cfgx) (F H : Hp) (σ : L2.St) (S : List Slot) (T : Cnt) : Prop where
  pi : ∀ i, i ∈ G.pk → σ[i]? = some (G.pv i)
  sub : Same F H
  sl : Slots G F H σ S T
  le : ∀ a, T a ≤ 1
  di : ∀ a, F a ≠ none → T a = 0
/-- what a step may do to the heap -/
structure Step (F H : Hp) (T : Cnt) (F' H' : Hp) (T' : Cnt) : Prop where
  sF : Same F F'
  fr : ∀ a o, T a = 0 → H a = some o → H' a = some o
  nT : ∀ a, T' a ≠ 0 → T a ≠ 0 ∨ H a = none
  nF : ∀ a, F a = none → F' a ≠ none → H a = none ∨ T a ≠ 0
  tl : ∀ a, H a ≠ none → H' a ≠ none
theorem Step.refl (F H : Hp) (T : Cnt) : Step F H T F H T := ⟨Same.refl F, fun _ _ _ h => h, fun _ h => .inl h, fun _ h n => absurd h n, fun _ h => h⟩
theorem Step.trans {F H F1 H1 F2 H2 : Hp} {T T1 T2 : Cnt} (a : Step F H T F1 H1 T1) (b : Step F1 H1 T1 F2 H2 T2) : Step F H T F2 H2 T2 := by
  refine ⟨a.sF.trans b.sF, fun x o t h => ?_, fun x n => ?_, fun x h n => ?_, fun x h => b.tl x (a.tl x h)⟩
  · have h1 := a.fr x o t h
    refine b.fr x o ?_ h1
    by_cases q : T1 x = 0
    · exact q
    · rcases a.nT x q with z | z
      · exact absurd t z
      · rw [h] at z; cases z
  · rcases b.nT x n with z | z
    · exact a.nT x z
    · by_cases q : H x = none
      · exact .inr q
      · exact absurd z (a.tl x q)
  · by_cases q : F1 x = none
    · rcases b.nF x q n with z | z
      · by_cases q2 : H x = none
        · exact .inl q2
        · exact absurd z (a.tl x q2)
      · rcases a.nT x z with y | y
        · exact .inr y
        · exact .inl y
    · exact a.nF x h q
theorem Step.castL {F H F1 H1 : Hp} {T T' T1 : Cnt} (a : Step F H T F1 H1 T1) (e : ∀ x, T x = T' x) : Step F H T' F1 H1 T1 := (show T = T' from funext e) ▸ a
theorem Step.castR {F H F1 H1 : Hp} {T T1 T1' : Cnt} (a : Step F H T F1 H1 T1) (e : ∀ x, T1 x = T1' x) : Step F H T F1 H1 T1' := (show T1 = T1' from funext e) ▸ a
/-- less is owned afterwards -/
theorem Step.less {F H F1 H1 : Hp} {T T1 T2 : Cnt} (a : Step F H T F1 H1 T1) (e : ∀ x, T2 x ≤ T1 x) : Step F H T F1 H1 T2 := ⟨a.sF, a.fr, fun x n => a.nT x (by have := e x; omega), a.nF, a.tl⟩
/-- a part that is owned besides stays as it is -/
theorem Step.frame {F H F1 H1 : Hp} {T T1 R : Cnt} (a : Step F H T F1 H1 T1) (hT : ∀ x, T x + R x ≤ 1) (hR : ∀ x, R x ≠ 0 → H x ≠ none) : Step F H (add T R) F1 H1 (add T1 R) ∧ (∀ x, R x ≠ 0 → T1 x = 0) ∧ (∀ x o, R x ≠ 0 → H x = some o → H1 x = some o) := by
  have d : ∀ x, R x ≠ 0 → T x = 0 := fun x n => by have := hT x; omega
  refine ⟨⟨a.sF, fun x o t h => a.fr x o (by simp only [add] at t; omega) h, fun x n => ?_, fun x h n => (a.nF x h n).imp id (fun z => by simp only [add]; omega), a.tl⟩, fun x n => ?_, fun x o n h => a.fr x o (d x n) h⟩
  · by_cases q : T1 x = 0
    · exact .inl (by simp only [add] at n ⊢; omega)
    · exact (a.nT x q).imp (fun z => by simp only [add]; omega) id
  · by_cases q : T1 x = 0
    · exact q
    · rcases a.nT x q with z | z
      · exact absurd (d x n) z
      · exact absurd z (hR x n)
section
variable {G : Cfgx} {F F' H H' : Hp} {σ : L2.St} {S : List Slot} {T T' : Cnt}
theorem St'.there (s : St' G F H σ S T) (a : Addr) (n : T a ≠ 0) : H a ≠ none := s.sl.there a n
theorem St'.cast (s : St' G F H σ S T) (e : ∀ a, T a = T' a) : St' G F H σ S T' := (show T = T' from funext e) ▸ s
/-- a new object that nobody owns is frozen -/
theorem Step.newF {p : Addr} {o : HO} (hp : H p = none) (sub : Same F H) (nt : T p = 0) : Step F H T (upd F p o) (upd H p o) T := by
  have hf : F p = none := sub.free hp
  refine ⟨fun a u e => ?_, fun a u _ e => ?_, fun _ n => .inl n, fun a h n => ?_, fun a h => ?_⟩
  · rw [upd_ne (ne_of_none e hf)]; exact e
  · rw [upd_ne (ne_of_none e hp)]; exact e
  · by_cases q : a = p
    · rw [q]; exact .inl hp
    · rw [upd_ne q] at n; exact absurd h n
  · by_cases q : a = p
    · rw [q, upd_same]; simp
    · rw [upd_ne q]; exact h
/-- a new object, owned -/
theorem Step.newT {p : Addr} {o : HO} (hp : H p = none) : Step F H T F (upd H p o) (add T (one p)) := by
  refine ⟨Same.refl F, fun a u _ e => ?_, fun a n => ?_, fun a h n => absurd h n, fun a h => ?_⟩
  · rw [upd_ne (ne_of_none e hp)]; exact e
  · by_cases q : a = p
    · rw [q]; exact .inr hp
    · exact .inl (by simp only [add, one, if_neg q] at n; omega)
  · by_cases q : a = p
    · rw [q, upd_same]; simp
    · rw [upd_ne q]; exact h
/-- an owned object changed -/
theorem Step.put {p : Addr} {o : HO} (hp : T p ≠ 0) : Step F H T F (upd H p o) T := by
  refine ⟨Same.refl F, fun a u t e => ?_, fun a n => .inl n, fun a h n => absurd h n, fun a h => ?_⟩
  · rw [upd_ne (fun (q : a = p) => hp (by rw [← q]; exact t))]; exact e
  · by_cases q : a = p
    · rw [q, upd_same]; simp
    · rw [upd_ne q]; exact h
theorem St'.newF {p : Addr} {o : HO} (s : St' G F H σ S T) (hp : H p = none) : St' G (upd F p o) (upd H p o) σ S T ∧ Step F H T (upd F p o) (upd H p o) T := by
  have nt : T p = 0 := Decidable.byContradiction fun n => s.there p n hp
  have st := Step.newF (o := o) hp s.sub nt
  refine ⟨⟨s.pi, fun a u e => ?_, s.sl.mono st.sF fun a u n e => by rw [upd_ne (ne_of_none e hp)]; exact e, s.le, fun a n => ?_⟩, st⟩
  · by_cases q : a = p
    · rw [q, upd_same] at e ⊢; exact e
    · rw [upd_ne q] at e ⊢; exact s.sub _ _ e
  · by_cases q : a = p
    · rw [q]; exact nt
    · rw [upd_ne q] at n; exact s.di a n
theorem St'.newT {p : Addr} {o : HO} (s : St' G F H σ S T) (hp : H p = none) : St' G F (upd H p o) σ S T ∧ Step F H T F (upd H p o) (add T (one p)) ∧ (∀ a, T a + one p a ≤ 1) ∧ F p = none := by
  have nt : T p = 0 := Decidable.byContradiction fun n => s.there p n hp
  refine ⟨⟨s.pi, fun a u e => ?_, s.sl.mono (Same.refl F) fun a u n e => by rw [upd_ne (ne_of_none e hp)]; exact e, s.le, s.di⟩, Step.newT hp, fun a => ?_, s.sub.free hp⟩
  · rw [upd_ne (ne_of_none (s.sub _ _ e) hp)]; exact s.sub _ _ e
  · have := s.le a
    unfold one
    split
    · rename_i q; rw [q, nt]; omega
    · omega
end
end TB

namespace TB
open PySem L2

/-- an exception as it lies: no field, or a dict of its own with one number -/
def ExcR (G : Cfg) (x : Xc) (cls : Value) (dx : Option Addr) (H : Hp) : Prop :=
  cls = .ref (G.ca x.c) ∧ ((x.arg = .non ∧ dx = none) ∨ ∃ d i, x.arg = .int i ∧ dx = some d ∧ H d = some (.xd ((G.cn x.c).map fun n => (n, V.int i))))
def PX (G : Cfgx) (W : WX) (F H : Hp) (σ : L2.St) (T : Cnt) (x : Xc) (S' : List Slot) : Prop :=
  ∀ cls dx F' H' T', Step F H T F' H' T' → St' G F' H' σ S' T' → ExcR G x cls dx H' → W cls dx σ H'
def PR {α : Type} (G : Cfgx) (W : WX) (F H : Hp) (σ : L2.St) (T : Cnt) (K : α → List Slot → Prop) : R α → Prop
  | .ok a S => K a S
  | .exc x S => PX G W F H σ T x S
  | .bad => False
def KE (G : Cfgx) (F H : Hp) (σ : L2.St) (T : Cnt) (Q : VK) (kd : KD) (S' : List Slot) : Prop :=
  ∀ v F' H' T' f, Step F H T F' H' (add T' f) → St' G F' H' σ S' T' → Own G F' H' kd.1 v kd.2 f → (∀ a, T' a + f a ≤ 1) → (∀ a, F' a ≠ none → f a = 0) → Q v H'
def KDt (G : Cfgx) (F H : Hp) (σ : L2.St) (T : Cnt) (Q : VK) (d : D) (S' : List Slot) : Prop :=
  ∀ v F' H' T', Step F H T F' H' T' → St' G F' H' σ S' T' → Rep G F' v d → Q v H'
def KB (G : Cfgx) (F H : Hp) (σ : L2.St) (T : Cnt) (Q : Bool → Hp → Prop) (b : Bool) (S' : List Slot) : Prop :=
  ∀ F' H' T', Step F H T F' H' T' → St' G F' H' σ S' T' → Q b H'
def KL (G : Cfgx) (F H : Hp) (σ : L2.St) (T : Cnt) (Q : List V → Hp → Prop) (ds : List D) (S' : List Slot) : Prop :=
  ∀ vs F' H' T', Step F H T F' H' T' → St' G F' H' σ S' T' → Reps G F' vs ds → Q vs H'
section
variable {G : Cfgx} {W : WX} {F H F1 H1 : Hp} {σ : L2.St} {T T1 : Cnt} {α β : Type}
theorem PX.re {x : Xc} {S : List Slot} (s : Step F H T F1 H1 T1) (h : PX G W F H σ T x S) : PX G W F1 H1 σ T1 x S := fun cls dx F' H' T' s' st e => h cls dx F' H' T' (s.trans s') st e
theorem PR.bind {K1 : α → List Slot → Prop} {K2 : β → List Slot → Prop} {r : R α} {f : α → M β} (h : PR G W F H σ T K2 (r.bind f)) (k : ∀ a S, PR G W F H σ T K2 (f a S) → K1 a S) : PR G W F H σ T K1 r := by
  cases r with
  | ok a S => exact k a S h
  | exc x S => exact h
  | bad => exact h
theorem PR.re {K1 K2 : α → List Slot → Prop} {r : R α} (s : Step F H T F1 H1 T1) (k : ∀ a S, K1 a S → K2 a S) (h : PR G W F H σ T K1 r) : PR G W F1 H1 σ T1 K2 r := by
  cases r with
  | ok a S => exact k a S h
  | exc x S => exact PX.re s h
  | bad => exact h
theorem PR.imp {K1 K2 : α → List Slot → Prop} {r : R α} (k : ∀ a S, K1 a S → K2 a S) (h : PR G W F H σ T K1 r) : PR G W F H σ T K2 r := PR.re (Step.refl F H T) k h
theorem KE.re {Q : VK} {kd : KD} {S : List Slot} (s : Step F H T F1 H1 T1) (h : KE G F H σ T Q kd S) : KE G F1 H1 σ T1 Q kd S := fun v F' H' T' f s' st o l d => h v F' H' T' f (s.trans s') st o l d
theorem KDt.re {Q : VK} {d : D} {S : List Slot} (s : Step F H T F1 H1 T1) (h : KDt G F H σ T Q d S) : KDt G F1 H1 σ T1 Q d S := fun v F' H' T' s' st o => h v F' H' T' (s.trans s') st o
theorem KB.re {Q : Bool → Hp → Prop} {d : Bool} {S : List Slot} (s : Step F H T F1 H1 T1) (h : KB G F H σ T Q d S) : KB G F1 H1 σ T1 Q d S := fun F' H' T' s' st => h F' H' T' (s.trans s') st
theorem KL.re {Q : List V → Hp → Prop} {d : List D} {S : List Slot} (s : Step F H T F1 H1 T1) (h : KL G F H σ T Q d S) : KL G F1 H1 σ T1 Q d S := fun v F' H' T' s' st o => h v F' H' T' (s.trans s') st o
theorem PR.reE {Q : VK} {r : R KD} (s : Step F H T F1 H1 T1) (h : PR G W F H σ T (KE G F H σ T Q) r) : PR G W F1 H1 σ T1 (KE G F1 H1 σ T1 Q) r := PR.re s (fun _ _ => KE.re s) h
/-! what a step gives -/
/-- data as it is, nothing changed -/
theorem KE.val {Q : VK} {d : D} {S : List Slot} {v : V} (h : KE G F H σ T Q (.fz, d) S) (st : St' G F H σ S T) (r : Rep G F v d) : Q v H :=
  h v F H T nil0 ((Step.refl F H T).castR fun a => rfl) st (.fz r) (fun a => st.le a) fun _ _ => rfl
/-- a new frozen object -/
theorem KE.newF {Q : VK} {d : D} {S : List Slot} {o : HO} (h : KE G F H σ T Q (.fz, d) S) (st : St' G F H σ S T) (r : ∀ p, Rep G (upd F p o) (.ref p) d ∨ F p ≠ none) (p : Addr) (hp : H p = none) : Q (.ref p) (upd H p o) := by
  obtain ⟨st2, s⟩ := st.newF (o := o) hp
  have hf : F p = none := st.sub.free hp
  exact h (.ref p) _ _ T nil0 (s.castR fun a => rfl) st2 (.fz ((r p).resolve_right fun n => n hf)) (fun a => st2.le a) fun _ _ => rfl
/-- a new list, owned -/
theorem KE.newL {Q : VK} {vs : List V} {ds : List D} {S : List Slot} (h : KE G F H σ T Q (.li .fz, .lst ds) S) (st : St' G F H σ S T) (r : Reps G F vs ds) (p : Addr) (hp : H p = none) : Q (.ref p) (upd H p (.lst vs)) := by
  obtain ⟨st2, s, le, fp⟩ := st.newT (o := .lst vs) hp
  have ow : ∀ {vs : List V} {ds : List D}, Reps G F vs ds → Owns G F (upd H p (.lst vs)) .fz vs ds nil0 ∧ ∀ H', Owns G F H' .fz vs ds nil0 := by
    intro vs ds r
    induction vs generalizing ds with
    | nil => cases r; exact ⟨.nil, fun _ => .nil⟩
    | cons v vs ih =>
      cases r with
      | cons r1 r2 => exact ⟨.cons (.fz r1) ((ih r2).2 _), fun H' => .cons (.fz r1) ((ih r2).2 H')⟩
  refine h (.ref p) F _ T (add (one p) nil0) (s.castR fun a => rfl) st2 (.li upd_same ((ow r).2 _)) (fun a => le a) fun a n => ?_
  show one p a + 0 = 0
  unfold one
  split
  · rename_i q; rw [q, fp] at n; exact absurd rfl n
  · rfl
theorem owns_fz {vs : List V} {ds : List D} (r : Reps G F vs ds) : Owns G F H .fz vs ds nil0 := by
  induction vs generalizing ds with
  | nil => cases r; exact .nil
  | cons v vs ih =>
    cases r with
    | cons r1 r2 => exact .cons (.fz r1) (ih r2)
theorem reps_fz {vs : List V} {ds : List D} {f : Cnt} (r : Owns G F H .fz vs ds f) : Reps G F vs ds ∧ f = nil0 := by
  induction vs generalizing ds f with
  | nil => cases r; exact ⟨.nil, rfl⟩
  | cons v vs ih =>
    cases r with
    | cons r1 r2 =>
      cases r1 with
      | fz r1 =>
        obtain ⟨a, b⟩ := ih r2
        subst b
        exact ⟨.cons r1 a, rfl⟩
end

/-! ### judgements -/
def DenE (G : Cfgx) (W : WX) (t : TE) (m : E) : Prop := ∀ F H σ S T Q, St' G F H σ S T → PR G W F H σ T (KE G F H σ T Q) (m S) → t σ H Q
def DenD (G : Cfgx) (W : WX) (t : TE) (m : M D) : Prop := ∀ F H σ S T Q, St' G F H σ S T → PR G W F H σ T (KDt G F H σ T Q) (m S) → t σ H Q
def DenT (G : Cfgx) (W : WX) (t : TT) (m : T) : Prop := ∀ F H σ S T Q, St' G F H σ S T → PR G W F H σ T (KB G F H σ T Q) (m S) → t σ H Q
def DenA (G : Cfgx) (W : WX) (t : TA) (m : M (List D)) : Prop := ∀ F H σ S T Q, St' G F H σ S T → PR G W F H σ T (KL G F H σ T Q) (m S) → t σ H Q
def TrE (X : Cx) (G : Cfgx) (W : WX) (e : Expr) (m : E) : Prop := ∃ t, PE X e t ∧ DenE G W t m
def TrT (X : Cx) (G : Cfgx) (W : WX) (e : Expr) (m : T) : Prop := ∃ t, PT X e t ∧ DenT G W t m
def TrW (X : Cx) (G : Cfgx) (W : WX) (e : Expr) (m : T) : Prop := ∃ t, PW X e t ∧ DenT G W t m
def TrA (X : Cx) (G : Cfgx) (W : WX) (es : List Expr) (ms : List E) : Prop := ∃ t, PA X es t ∧ DenA G W t (eAll ms)
/-- the context of a body -/
structure Cok (X : Cx) (G : Cfgx) (W : WX) (k : Nat) : Prop where
  hK : X.K = G.K
  tk : Takes X W
  po : PassesOwn (model X.prog X.w) X.A X.env X.xe
  calm : X.calm = true
  room : Room k X.A
  nd : X.N.Nodup
/-- an operation on two values -/
def S2 (G : Cfgx) (r : R2) (f : D → D → Option KD) : Prop := ∀ F H σ S T x y dx dy kd Q, St' G F H σ S T → Rep G F x dx → Rep G F y dy → f dx dy = some kd → KE G F H σ T Q kd S → r x y H Q
def S1 (G : Cfgx) (r : V → Hp → VK → Prop) (f : D → Option KD) : Prop := ∀ F H σ S T x dx kd Q, St' G F H σ S T → Rep G F x dx → f dx = some kd → KE G F H σ T Q kd S → r x H Q
def SN (G : Cfgx) (r : List V → Hp → VK → Prop) (f : List D → Option KD) : Prop := ∀ F H σ S T xs dxs kd Q, St' G F H σ S T → Reps G F xs dxs → f dxs = some kd → KE G F H σ T Q kd S → r xs H Q

/-- what a temporary owns becomes frozen -/
theorem freeze_core {G : Cfgx} {F H F' H' : Hp} {σ : L2.St} {S : List Slot} {T T' f : Cnt} {k : Kd} {v : V} {d : D} (s' : Step F H T F' H' (add T' f)) (st' : St' G F' H' σ S T') (o : Own G F' H' k v d f) (le : ∀ a, T' a + f a ≤ 1) (di : ∀ a, F' a ≠ none → f a = 0) :
    ∃ F2, Step F H T F2 H' T' ∧ St' G F2 H' σ S T' ∧ Rep G F2 v d ∧ Same F' F2 := by
  have hO : Same F' H' := st'.sub
  let F2 : Hp := fun a => if f a = 0 then F' a else H' a
  have sf : Same F' F2 := fun a o e => by
    show (if f a = 0 then F' a else H' a) = some o
    rw [if_pos (di a (by rw [e]; simp))]; exact e
  have sub2 : Same F2 H' := fun a o e => by
    have e : (if f a = 0 then F' a else H' a) = some o := e
    by_cases z : f a = 0
    · rw [if_pos z] at e; exact hO _ _ e
    · rw [if_neg z] at e; exact e
  have ff : ∀ a, f a ≠ 0 → F2 a = H' a := fun a n => if_neg n
  have rp : ∀ {k : Kd} {v : V} {d : D} {g : Cnt}, Own G F' H' k v d g → (∀ a, g a ≤ f a) → Own G F2 F2 k v d g := fun o l => o.mono sf fun a u n e => by
    rw [ff a (by have := l a; omega)]; exact e
  have r2 : Rep G F2 v d := (rp o fun a => Nat.le_refl _).rep (Same.refl F2)
  refine ⟨F2, ⟨s'.sF.trans sf, s'.fr, fun a n => s'.nT a (by simp only [add]; omega), fun a h n => ?_, s'.tl⟩, ⟨st'.pi, sub2, st'.sl.mono sf fun _ _ _ h => h, st'.le, fun a n => ?_⟩, r2, sf⟩
  · by_cases z : f a = 0
    · refine s'.nF a h ?_
      have n : (if f a = 0 then F' a else H' a) ≠ none := n
      rwa [if_pos z] at n
    · exact (s'.nT a (by simp only [add]; omega)).symm
  · have n : (if f a = 0 then F' a else H' a) ≠ none := n
    by_cases z : f a = 0
    · rw [if_pos z] at n; exact st'.di a n
    · have := le a; omega
theorem KDt.freeze {G : Cfgx} {F H : Hp} {σ : L2.St} {T : Cnt} {Q : VK} {kd : KD} {S : List Slot} (q : KDt G F H σ T Q kd.2 S) : KE G F H σ T Q kd S := fun v F' H' T' f s' st' o le di => by
  obtain ⟨F2, s2, st2, r2, _⟩ := freeze_core s' st' o le di
  exact q v F2 H' T' s2 st2 r2
section
variable {X : Cx} {G : Cfgx} {W : WX} {k : Nat}
theorem DenE.dat {t : TE} {m : E} (h : DenE G W t m) : DenD G W t (eDat m) := fun F H σ S T Q st p =>
  h F H σ S T Q st (PR.bind (f := fun kd => M.pure kd.2) p fun kd S1 q => KDt.freeze (show KDt G F H σ T Q kd.2 S1 from q))
theorem tr_var (i : Nat) {x : PySem.Str} {pos : Pos} (hN : X.N[i]? = some x := by rfl) (hv : Vis X.env.scope x := by first | exact Or.inl rfl | exact Or.inr (Or.inl rfl) | exact Or.inr (Or.inr rfl)) (hd : (x == ("__debug__" : PySem.Str)) = false := by decide)
    (hcd : (x == ("__classdict__" : PySem.Str)) = false := by decide) : TrE X G W (.Name x pos) (eVar i) := by
  refine ⟨_, pe_var hN hv hd hcd, fun F H σ S T Q st p => ?_⟩
  unfold eVar at p
  cases e : S[i]? with
  | none => rw [e] at p; exact p.elim
  | some s =>
    rw [e] at p
    cases s with
    | none => exact p.elim
    | some kd =>
      obtain ⟨kk, d⟩ := kd
      cases kk with
      | fz =>
        obtain ⟨v, f, hv, o, _⟩ := st.sl.var e
        cases o with
        | fz r => exact ⟨v, hv, KE.val p st r⟩
      | _ => exact p.elim
theorem tr_mv (i : Nat) {x : PySem.Str} {pos : Pos} (hN : X.N[i]? = some x := by rfl) (hv : Vis X.env.scope x := by first | exact Or.inl rfl | exact Or.inr (Or.inl rfl) | exact Or.inr (Or.inr rfl)) (hd : (x == ("__debug__" : PySem.Str)) = false := by decide)
    (hcd : (x == ("__classdict__" : PySem.Str)) = false := by decide) : TrE X G W (.Name x pos) (eMv i) := by
  refine ⟨_, pe_var hN hv hd hcd, fun F H σ S T Q st p => ?_⟩
  unfold eMv at p
  cases e : S[i]? with
  | none => rw [e] at p; exact p.elim
  | some s =>
    rw [e] at p
    cases s with
    | none => exact p.elim
    | some kd =>
      obtain ⟨kk, d⟩ := kd
      obtain ⟨v, f, T0, ht, hv, ho, back⟩ := st.sl.at e
      cases ho with
      | @yes k1 v1 d1 f1 o =>
        refine ⟨v1, hv, p v1 F H T0 f ((Step.refl F H T).castR fun a => by simp only [add]; have := ht a; omega) ⟨st.pi, st.sub, ?_, fun a => by have := ht a; have := st.le a; omega, fun a n => by have := ht a; have := st.di a n; omega⟩ o (fun a => by have := ht a; have := st.le a; omega) fun a n => by have := ht a; have := st.di a n; omega⟩
        have q := back F H (some v1) none nil0 (Same.refl F) (fun _ _ _ h => h) (.no _)
        have e2 : σ.set i (some v1) = σ := by
          obtain ⟨hi, q1⟩ := List.getElem?_eq_some_iff.mp hv
          rw [← q1, List.set_getElem_self]
        rw [e2] at q
        exact q.cast fun a => by simp [add, nil0]
theorem tr_int {i : Int} {j} {pos : Pos} : TrE X G W (.Constant (.int i) j pos) (eCon (.int i)) := ⟨_, pe_int, fun F H σ S T Q st p => KE.val p st (.int i)⟩
theorem tr_bl {b : Bool} {j} {pos : Pos} : TrE X G W (.Constant (.bool b) j pos) (eCon (.bl b)) := ⟨_, pe_bl, fun F H σ S T Q st p => KE.val p st (.bl b)⟩
theorem tr_non {j} {pos : Pos} : TrE X G W (.Constant .none j pos) (eCon .non) := ⟨_, pe_non, fun F H σ S T Q st p => KE.val p st .non⟩
theorem tr_str {z : PySem.Str} {j} {pos : Pos} (s : List Nat) (hs : z.cps.toList = s := by rfl) : TrE X G W (.Constant (.str z) j pos) (eCon (.str s)) := ⟨_, pe_str, fun F H σ S T Q st p => KE.val p st (hs ▸ .str z)⟩
/-- a constant of the module -/
theorem tr_glob {x : PySem.Str} {v : V} {u : Value} {pos : Pos} {d : D} (hm : X.mg x = some u) (r : RelV v u) (rep : ∀ F, Rep G F v d) (hg : Gl X x := by rfl) (hd : (x == ("__debug__" : PySem.Str)) = false := by decide) : TrE X G W (.Name x pos) (eCon d) :=
  ⟨_, pe_glob hg hm r hd, fun F H σ S T Q st p => KE.val p st (rep F)⟩
theorem tr_fr {e : Expr} {m : E} (h : TrE X G W e m) : TrE X G W e (eFr m) := by
  obtain ⟨t, hp, hd⟩ := h
  refine ⟨t, hp, fun F H σ S T Q st p => ?_⟩
  refine hd F H σ S T Q st (PR.bind (f := fun kd => M.pure ((.fz, kd.2) : KD)) p fun kd S1 q => KDt.freeze fun v F' H' T' s' st' r => ?_)
  exact (show KE G F H σ T Q (.fz, kd.2) S1 from q) v F' H' T' nil0 (s'.castR fun a => rfl) st' (.fz r) (fun a => st'.le a) fun _ _ => rfl
/-- a look at owned things -/
theorem flat_rep {F : Hp} {v : V} {d : D} (h : d.flat = true) (r : Rep G F v d) (F' : Hp) : Rep G F' v d := by
  cases r with
  | non => exact .non
  | bl b => exact .bl b
  | int i => exact .int i
  | str z => exact .str z
  | _ => cases h
theorem slots_frz {F H : Hp} {σ : L2.St} {S : List Slot} {T : Cnt} (e : Same F H) (h : Slots G F H σ S T) : Slots G H H σ (S.map frz) nil0 := by
  induction h with
  | nil => exact .nil
  | @cons v s f g σ S h r ih =>
    have : Slots G H H (v :: σ) (frz s :: S.map frz) (add nil0 nil0) := by
      refine .cons ?_ ih
      cases h with
      | no v => exact .no v
      | yes o => exact .yes (.fz (o.rep e))
    exact this
theorem tr_peek {e : Expr} {m : E} {W' : WX} (h : TrE X G W' e m) : TrE X G W e (ePeek m) := by
  obtain ⟨t, hp, hd⟩ := h
  refine ⟨t, hp, fun F H σ S T Q st p => ?_⟩
  have st2 : St' G H H σ (S.map frz) nil0 := ⟨st.pi, Same.refl H, slots_frz st.sub st.sl, fun _ => Nat.zero_le _, fun _ _ => rfl⟩
  unfold ePeek at p
  refine hd H H σ (S.map frz) nil0 Q st2 ?_
  cases e : m (S.map frz) with
  | exc x S => rw [e] at p; exact p.elim
  | bad => rw [e] at p; exact p.elim
  | ok kd S1 =>
    rw [e] at p
    obtain ⟨kk, d⟩ := kd
    have p : PR G W F H σ T (KE G F H σ T Q) (if d.flat then .ok (.fz, d) S else .bad) := p
    cases fl : d.flat with
    | false => rw [fl] at p; exact p.elim
    | true =>
      rw [fl] at p
      have p : KE G F H σ T Q (.fz, d) S := p
      intro v F' H' T' f s' st' o le di
      have sHH : Same H H' := fun a u e => s'.fr a u rfl e
      have rep := o.rep st'.sub
      refine p v F H' T nil0 ⟨Same.refl F, fun a u _ e => sHH a u e, fun a n => .inl n, fun a h n => absurd h n, s'.tl⟩ ⟨st.pi, fun a u e => sHH _ _ (st.sub _ _ e), st.sl.mono (Same.refl F) fun a u _ e => sHH a u e, st.le, st.di⟩ (.fz (flat_rep fl rep F)) (fun a => st.le a) fun _ _ => rfl
/-! argument lists -/
theorem tra_nil : TrA X G W [] [] := ⟨_, pa_nil, fun F H σ S T Q st p => by
  have p : KL G F H σ T Q [] S := p
  exact p [] F H T (Step.refl F H T) st .nil⟩
theorem tra_cons {e : Expr} {es : List Expr} {m : E} {ms : List E} (h : TrE X G W e m) (r : TrA X G W es ms) (hs : starEach (e :: es) X.env = (false, eval e X.env) :: starEach es X.env := by rfl) : TrA X G W (e :: es) (m :: ms) := by
  obtain ⟨t, hp, hd⟩ := h
  obtain ⟨u, hq, hu⟩ := r
  refine ⟨_, pa_cons hp hq hs, fun F H σ S T Q st p => ?_⟩
  refine DenE.dat hd F H σ S T _ st (PR.bind p fun d S1 q => ?_)
  intro v F1 H1 T1 s1 st1 r1
  refine hu F1 H1 σ S1 T1 _ st1 (PR.bind (PR.re s1 (fun _ _ h => h) q) fun ds S2 q2 => ?_)
  intro vs F2 H2 T2 s2 st2 r2
  have q2 : KL G F H σ T Q (d :: ds) S2 := q2
  exact q2 (v :: vs) F2 H2 T2 (s1.trans s2) st2 (.cons (r1.mono s2.sF) r2)
end
end TB

namespace TB
open PySem L2
theorem Reps.len {G : Cfg} {F : Hp} : ∀ {vs : List V} {ds : List D}, Reps G F vs ds → vs.length = ds.length
  | _, _, .nil => rfl
  | _, _, .cons _ r => by simp [Reps.len r]
section
variable {X : Cx} {G : Cfgx} {W : WX} {k : Nat}
/-! ### displays -/
theorem tr_tup {es : List Expr} {ms : List E} {c} {pos : Pos} (h : TrA X G W es ms) : TrE X G W (.Tuple es c pos) (eApp fTup ms) := by
  obtain ⟨t, hp, hd⟩ := h
  refine ⟨_, pe_tup hp, fun F H σ S T Q st p => hd F H σ S T _ st (PR.bind p fun ds S1 q => ?_)⟩
  intro vs F1 H1 T1 s1 st1 r1
  have hl : vs.length = ds.length := r1.len
  have q : PR G W F H σ T (KE G F H σ T Q) (ofO (fTup ds) S1) := q
  unfold fTup at q
  by_cases z : ds.length ≤ sizeMax
  · rw [if_pos z] at q
    have q : KE G F H σ T Q (.fz, .tup ds) S1 := q
    exact ⟨by rw [hl]; exact z, fun x hx => KE.newF (q.re s1) st1 (fun x => by
      by_cases n : F1 x = none
      · exact .inl (.tup (.inl (.inl upd_same)) (r1.mono fun a u e => by rw [upd_ne (ne_of_none e n)]; exact e))
      · exact .inr n) x hx⟩
  · rw [if_neg z] at q; exact q.elim
theorem tr_lst {es : List Expr} {ms : List E} {pos : Pos} (h : TrA X G W es ms) : TrE X G W (.List es pos) (eApp fLst ms) := by
  obtain ⟨t, hp, hd⟩ := h
  refine ⟨_, pe_lst hp, fun F H σ S T Q st p => hd F H σ S T _ st (PR.bind p fun ds S1 q => ?_)⟩
  intro vs F1 H1 T1 s1 st1 r1
  have hl : vs.length = ds.length := r1.len
  have q : PR G W F H σ T (KE G F H σ T Q) (ofO (fLst ds) S1) := q
  unfold fLst at q
  by_cases z : ds.length ≤ sizeMax
  · rw [if_pos z] at q
    have q : KE G F H σ T Q (.li .fz, .lst ds) S1 := q
    exact ⟨by rw [hl]; exact z, fun x hx => KE.newL (q.re s1) st1 r1 x hx⟩
  · rw [if_neg z] at q; exact q.elim
/-! ### operations -/
theorem den_op {r : R2} {f : D → D → Option KD} (hs : S2 G r f) {ta tb : TE} {a b : E} (ha : DenE G W ta a) (hb : DenE G W tb b) : DenE G W (tOp r ta tb) (eOp f a b) := fun F H σ S T Q st p => by
  refine ha.dat F H σ S T _ st (PR.bind p fun dx S1 q => ?_)
  intro v F1 H1 T1 s1 st1 r1
  refine hb.dat F1 H1 σ S1 T1 _ st1 (PR.bind (PR.re s1 (fun _ _ h => h) q) fun dy S2 q2 => ?_)
  intro u F2 H2 T2 s2 st2 r2
  cases e : f dx dy with
  | none => rw [e] at q2; exact q2.elim
  | some d =>
    rw [e] at q2
    have q2 : KE G F H σ T Q d S2 := q2
    exact hs F2 H2 σ S2 T2 v u dx dy d Q st2 (r1.mono s2.sF) r2 e (q2.re (s1.trans s2))
theorem den_un {r : V → Hp → VK → Prop} {f : D → Option KD} (hs : S1 G r f) {ta : TE} {a : E} (ha : DenE G W ta a) : DenE G W (tUn r ta) (eUn f a) := fun F H σ S T Q st p => by
  refine ha.dat F H σ S T _ st (PR.bind p fun dx S1 q => ?_)
  intro v F1 H1 T1 s1 st1 r1
  cases e : f dx with
  | none => rw [e] at q; exact q.elim
  | some d =>
    rw [e] at q
    have q : KE G F H σ T Q d S1 := q
    exact hs F1 H1 σ S1 T1 v dx d Q st1 r1 e (q.re s1)
theorem den_app {r : List V → Hp → VK → Prop} {f : List D → Option KD} (hs : SN G r f) {ta : TA} {ms : List E} (ha : DenA G W ta (eAll ms)) : DenE G W (tCB r ta) (eApp f ms) := fun F H σ S T Q st p => by
  refine ha F H σ S T _ st (PR.bind p fun dx S1 q => ?_)
  intro v F1 H1 T1 s1 st1 r1
  cases e : f dx with
  | none => rw [e] at q; exact q.elim
  | some d =>
    rw [e] at q
    have q : KE G F H σ T Q d S1 := q
    exact hs F1 H1 σ S1 T1 v dx d Q st1 r1 e (q.re s1)
theorem tr_op {op : Operator} {r : R2} {f : D → D → Option KD} {a b : Expr} {ma mb : E} {pos : Pos} (ho : OpR X (binaryOp op) r) (hs : S2 G r f) (ha : TrE X G W a ma) (hb : TrE X G W b mb) : TrE X G W (.BinOp a op b pos) (eOp f ma mb) := by
  obtain ⟨ta, pa, da⟩ := ha
  obtain ⟨tb, pb, db⟩ := hb
  exact ⟨_, pe_op ho pa pb, den_op hs da db⟩
theorem tr_un {op : UnaryOp} {r : V → Hp → VK → Prop} {f : D → Option KD} {a : Expr} {ma : E} {pos : Pos} (ho : UnR X (unaryOp op) r) (hs : S1 G r f) (ha : TrE X G W a ma) : TrE X G W (.UnaryOp op a pos) (eUn f ma) := by
  obtain ⟨ta, pa, da⟩ := ha
  exact ⟨_, pe_un ho pa, den_un hs da⟩
theorem tr_cmp {op : CmpOp} {r : R2} {f : D → D → Option KD} {a b : Expr} {ma mb : E} {pos : Pos} (ho : OpR X (compareOp op) r) (hs : S2 G r f) (ha : TrE X G W a ma) (hb : TrE X G W b mb) (hm : behindInMarks op b = false) : TrE X G W (.Compare a [op] [b] pos) (eOp f ma mb) := by
  obtain ⟨ta, pa, da⟩ := ha
  obtain ⟨tb, pb, db⟩ := hb
  exact ⟨_, pe_cmpR ho pa pb hm, den_op hs da db⟩
theorem tr_ix {r : R2} {f : D → D → Option KD} {a b : Expr} {ma mb : E} {pos : Pos} (ho : IxR X r) (hs : S2 G r f) (ha : TrE X G W a ma) (hb : TrE X G W b mb) (hp : PlainIx b := by exact fun _ _ => rfl) : TrE X G W (.Subscript a b pos) (eOp f ma mb) := by
  obtain ⟨ta, pa, da⟩ := ha
  obtain ⟨tb, pb, db⟩ := hb
  exact ⟨_, pe_ix ho pa pb hp, den_op hs da db⟩
theorem den_test {t : TE} {m : E} (h : DenE G W t m) : DenT G W (tTest t) (eBool m) := fun F H σ S T Q st p => by
  refine h F H σ S T _ st (PR.bind p fun kd S1 q => ?_)
  obtain ⟨kk, d⟩ := kd
  intro v F' H' T' f s' st' o le di
  cases d with
  | bl b =>
    have q : KB G F H σ T Q b S1 := q
    cases o with
    | fz r => cases r; exact ⟨b, rfl, q F' H' T' (s'.castR fun a => rfl) st'⟩
  | _ => exact q.elim
theorem tt_cmp {op : CmpOp} {r : R2} {f : D → D → Option KD} {a b : Expr} {ma mb : E} {pos : Pos} (ho : OpR X (compareOp op) r) (hs : S2 G r f) (ha : TrE X G W a ma) (hb : TrE X G W b mb) (hm : behindInMarks op b = false) : TrT X G W (.Compare a [op] [b] pos) (eBool (eOp f ma mb)) := by
  obtain ⟨ta, pa, da⟩ := ha
  obtain ⟨tb, pb, db⟩ := hb
  exact ⟨_, pt_cmpR ho pa pb hm, den_test (den_op hs da db)⟩
theorem tt_val {e : Expr} {m : E} (h : TrE X G W e m) (he : ∀ whole, isTrue e X.env whole = (do let v ← whole; standAt e.pos; holding [v] (truthy v)) := by intro _; rfl) : TrT X G W e (eBool m) := by
  obtain ⟨t, pa, da⟩ := h
  exact ⟨_, pt_val pa he, den_test da⟩
theorem tt_peek {e : Expr} {m : T} {W' : WX} (h : TrT X G W' e m) : TrT X G W e (tPeek m) := by
  obtain ⟨t, hp, hd⟩ := h
  refine ⟨t, hp, fun F H σ S T Q st p => ?_⟩
  have st2 : St' G H H σ (S.map frz) nil0 := ⟨st.pi, Same.refl H, slots_frz st.sub st.sl, fun _ => Nat.zero_le _, fun _ _ => rfl⟩
  unfold tPeek at p
  refine hd H H σ (S.map frz) nil0 Q st2 ?_
  cases e : m (S.map frz) with
  | exc x S => rw [e] at p; exact p.elim
  | bad => rw [e] at p; exact p.elim
  | ok b S1 =>
    rw [e] at p
    have p : KB G F H σ T Q b S := p
    intro F' H' T' s' st'
    have sHH : Same H H' := fun a u e => s'.fr a u rfl e
    exact p F H' T ⟨Same.refl F, fun a u _ e => sHH a u e, fun a n => .inl n, fun a h n => absurd h n, s'.tl⟩ ⟨st.pi, fun a u e => sHH _ _ (st.sub _ _ e), st.sl.mono (Same.refl F) fun a u _ e => sHH a u e, st.le, st.di⟩
/-! and, or, not -/
theorem den_bind {t : TT} {m : T} (h : DenT G W t m) {Q : Hp → Prop} : True := trivial
theorem tw_and1 {a : Expr} {ma : T} {pos : Pos} (ha : TrT X G W a ma) : TrW X G W (.BoolOp .And [a] pos) ma := by
  obtain ⟨t, p, d⟩ := ha
  exact ⟨_, pw_and1 p, d⟩
theorem tw_or1 {a : Expr} {ma : T} {pos : Pos} (ha : TrT X G W a ma) : TrW X G W (.BoolOp .Or [a] pos) ma := by
  obtain ⟨t, p, d⟩ := ha
  exact ⟨_, pw_or1 p, d⟩
theorem tw_and {a b : Expr} {rest : List Expr} {ma mb : T} {pos : Pos} (ha : TrT X G W a ma) (hb : TrW X G W (.BoolOp .And (b :: rest) pos) mb) : TrW X G W (.BoolOp .And (a :: b :: rest) pos) (tAnd ma mb) := by
  obtain ⟨t, p, d⟩ := ha
  obtain ⟨u, q, e⟩ := hb
  refine ⟨_, pw_and p q, fun F H σ S T Q st z => d F H σ S T _ st (PR.bind z fun c S1 y => ?_)⟩
  intro F1 H1 T1 s1 st1
  cases c with
  | true => exact e F1 H1 σ S1 T1 Q st1 (PR.re s1 (fun _ _ => KB.re s1) y)
  | false => exact (show KB G F H σ T Q false S1 from y) F1 H1 T1 s1 st1
theorem tw_or {a b : Expr} {rest : List Expr} {ma mb : T} {pos : Pos} (ha : TrT X G W a ma) (hb : TrW X G W (.BoolOp .Or (b :: rest) pos) mb) : TrW X G W (.BoolOp .Or (a :: b :: rest) pos) (tOr ma mb) := by
  obtain ⟨t, p, d⟩ := ha
  obtain ⟨u, q, e⟩ := hb
  refine ⟨_, pw_or p q, fun F H σ S T Q st z => d F H σ S T _ st (PR.bind z fun c S1 y => ?_)⟩
  intro F1 H1 T1 s1 st1
  cases c with
  | false => exact e F1 H1 σ S1 T1 Q st1 (PR.re s1 (fun _ _ => KB.re s1) y)
  | true => exact (show KB G F H σ T Q true S1 from y) F1 H1 T1 s1 st1
theorem tt_w {e : Expr} {m : T} (h : TrW X G W e m) : TrT X G W e m := by
  obtain ⟨t, p, d⟩ := h
  exact ⟨t, p.pt, d⟩
theorem tt_not {a : Expr} {ma : T} {pos : Pos} (ha : TrT X G W a ma) : TrT X G W (.UnaryOp .Not a pos) (tNot ma) := by
  obtain ⟨t, p, d⟩ := ha
  refine ⟨_, pt_not p, fun F H σ S T Q st z => d F H σ S T _ st (PR.bind z fun c S1 y => ?_)⟩
  intro F1 H1 T1 s1 st1
  exact (show KB G F H σ T Q (!c) S1 from y) F1 H1 T1 s1 st1
theorem den_boolE {t : TE} {m : E} (h : DenE G W t m) : ∀ F H σ S T (Q : V → Hp → Prop), St' G F H σ S T → PR G W F H σ T (fun b S' => ∀ F' H' T', Step F H T F' H' T' → St' G F' H' σ S' T' → Q (.bl b) H') (eBool m S) → t σ H Q := fun F H σ S T Q st p => by
  refine h F H σ S T _ st (PR.bind p fun kd S1 q => ?_)
  obtain ⟨kk, d⟩ := kd
  intro v F' H' T' f s' st' o le di
  cases d with
  | bl b =>
    have q : ∀ F' H' T', Step F H T F' H' T' → St' G F' H' σ S1 T' → Q (.bl b) H' := q
    cases o with
    | fz r => cases r; exact q F' H' T' (s'.castR fun a => rfl) st'
  | _ => exact q.elim
theorem tr_one {op} {a : Expr} {m : E} {pos : Pos} (h : TrE X G W a m) : TrE X G W (.BoolOp op [a] pos) m := by
  obtain ⟨t, p, d⟩ := h
  exact ⟨t, pe_one p, d⟩
theorem tr_and {a b : Expr} {rest : List Expr} {ma mb : E} {pos : Pos} (ha : TrE X G W a ma) (hb : TrE X G W (.BoolOp .And (b :: rest) pos) mb) : TrE X G W (.BoolOp .And (a :: b :: rest) pos) (eAnd ma mb) := by
  obtain ⟨t, p, d⟩ := ha
  obtain ⟨u, q, e⟩ := hb
  refine ⟨_, pe_and p q, fun F H σ S T Q st z => den_boolE d F H σ S T _ st (PR.bind z fun c S1 y => ?_)⟩
  intro F1 H1 T1 s1 st1
  refine ⟨c, rfl, ?_⟩
  cases c with
  | true => exact e F1 H1 σ S1 T1 Q st1 (PR.reE s1 y)
  | false => exact KE.val (KE.re s1 (show KE G F H σ T Q (.fz, .bl false) S1 from y)) st1 (.bl false)
theorem tr_or {a b : Expr} {rest : List Expr} {ma mb : E} {pos : Pos} (ha : TrE X G W a ma) (hb : TrE X G W (.BoolOp .Or (b :: rest) pos) mb) : TrE X G W (.BoolOp .Or (a :: b :: rest) pos) (eOr ma mb) := by
  obtain ⟨t, p, d⟩ := ha
  obtain ⟨u, q, e⟩ := hb
  refine ⟨_, pe_or p q, fun F H σ S T Q st z => den_boolE d F H σ S T _ st (PR.bind z fun c S1 y => ?_)⟩
  intro F1 H1 T1 s1 st1
  refine ⟨c, rfl, ?_⟩
  cases c with
  | false => exact e F1 H1 σ S1 T1 Q st1 (PR.reE s1 y)
  | true => exact KE.val (KE.re s1 (show KE G F H σ T Q (.fz, .bl true) S1 from y)) st1 (.bl true)
theorem tr_not {a : Expr} {ma : E} {pos : Pos} (ha : TrE X G W a ma) : TrE X G W (.UnaryOp .Not a pos) (eNot ma) := by
  obtain ⟨t, p, d⟩ := ha
  refine ⟨_, pe_not p, fun F H σ S T Q st z => den_boolE d F H σ S T _ st (PR.bind z fun c S1 y => ?_)⟩
  intro F1 H1 T1 s1 st1
  exact ⟨c, rfl, KE.val (KE.re s1 (show KE G F H σ T Q (.fz, .bl (!c)) S1 from y)) st1 (.bl (!c))⟩
theorem tr_if {c a b : Expr} {mc : T} {ma mb : E} {pos : Pos} (hc : TrT X G W c mc) (ha : TrE X G W a ma) (hb : TrE X G W b mb) : TrE X G W (.IfExp c a b pos) (eIf mc ma mb) := by
  obtain ⟨t, p, d⟩ := hc
  obtain ⟨u, q, e⟩ := ha
  obtain ⟨w, r, g⟩ := hb
  refine ⟨_, pe_ifExp p q r, fun F H σ S T Q st z => d F H σ S T _ st (PR.bind z fun x S1 y => ?_)⟩
  intro F1 H1 T1 s1 st1
  cases x with
  | true => exact e F1 H1 σ S1 T1 Q st1 (PR.reE s1 y)
  | false => exact g F1 H1 σ S1 T1 Q st1 (PR.reE s1 y)
theorem den_chain {r r' : R2} {f g : D → D → Option KD} (hs : S2 G r f) (hs' : S2 G r' g) {ta tb tc : TE} {a b c : E} (ha : DenE G W ta a) (hb : DenE G W tb b) (hc : DenE G W tc c) : DenE G W (tChain r r' ta tb tc) (eChain f g a b c) := fun F H σ S T Q st p => by
  refine ha.dat F H σ S T _ st (PR.bind p fun dx S1 q => ?_)
  intro v F1 H1 T1 s1 st1 r1
  refine hb.dat F1 H1 σ S1 T1 _ st1 (PR.bind (PR.re s1 (fun _ _ h => h) q) fun dy S2 q2 => ?_)
  intro u F2 H2 T2 s2 st2 r2
  cases e : f dx dy with
  | none => rw [e] at q2; exact q2.elim
  | some d =>
    rw [e] at q2
    refine hs F2 H2 σ S2 T2 v u dx dy d _ st2 (r1.mono s2.sF) r2 e ?_
    intro z F3 H3 T3 f3 s3 st3 o le di
    obtain ⟨kk, d⟩ := d
    cases kk with
    | fz =>
      cases d with
      | bl bb =>
        cases o with
        | fz rr =>
          cases rr
          refine ⟨bb, rfl, ?_⟩
          have s03 : Step F H T F3 H3 T3 := (s1.trans s2).trans (s3.castR fun a => rfl)
          cases bb with
          | false => exact KE.val (KE.re s03 (show KE G F H σ T Q (.fz, .bl false) S2 from q2)) st3 (.bl false)
          | true =>
            show tc σ H3 _
            have q2 : PR G W F1 H1 σ T1 (KE G F H σ T Q) (M.bind (eDat c) (fun z => ofO (g dy z)) S2) := q2
            refine hc.dat F3 H3 σ S2 T3 _ st3 (PR.bind (PR.re (s2.trans (s3.castR fun a => rfl)) (fun _ _ h => h) q2) fun dz S4 q4 => ?_)
            intro w F4 H4 T4 s4 st4 r4
            cases e4 : g dy dz with
            | none => rw [e4] at q4; exact q4.elim
            | some d4 =>
              rw [e4] at q4
              have q4 : KE G F H σ T Q d4 S4 := q4
              exact hs' F4 H4 σ S4 T4 u w dy dz d4 Q st4 ((r2.mono s3.sF).mono s4.sF) r4 e4 (q4.re (s03.trans s4))
      | _ => exact q2.elim
    | _ => exact q2.elim
theorem tr_chain {op op' : CmpOp} {r r' : R2} {f g : D → D → Option KD} {a b c : Expr} {ma mb mc : E} {pos : Pos} (ho : OpR X (compareOp op) r) (ho' : OpR X (compareOp op') r') (hs : S2 G r f) (hs' : S2 G r' g) (ha : TrE X G W a ma) (hb : TrE X G W b mb) (hc : TrE X G W c mc)
    (hm : lastMarks [op, op'] [b, c] = false := by with_unfolding_all rfl) : TrE X G W (.Compare a [op, op'] [b, c] pos) (eChain f g ma mb mc) := by
  obtain ⟨ta, pa, da⟩ := ha
  obtain ⟨tb, pb, db⟩ := hb
  obtain ⟨tc, pc, dc⟩ := hc
  exact ⟨_, pe_chain ho ho' pa pb pc hm, den_chain hs hs' da db dc⟩
theorem tt_chain {op op' : CmpOp} {r r' : R2} {f g : D → D → Option KD} {a b c : Expr} {ma mb mc : E} {pos : Pos} (ho : OpR X (compareOp op) r) (ho' : OpR X (compareOp op') r') (hs : S2 G r f) (hs' : S2 G r' g) (ha : TrE X G W a ma) (hb : TrE X G W b mb) (hc : TrE X G W c mc)
    (hm : lastMarks [op, op'] [b, c] = false := by with_unfolding_all rfl) : TrT X G W (.Compare a [op, op'] [b, c] pos) (eBool (eChain f g ma mb mc)) := by
  obtain ⟨ta, pa, da⟩ := ha
  obtain ⟨tb, pb, db⟩ := hb
  obtain ⟨tc, pc, dc⟩ := hc
  exact ⟨_, pt_chain ho ho' pa pb pc hm, den_test (den_chain hs hs' da db dc)⟩
/-! ### built-in functions by name -/
theorem tr_callB {x : PySem.Str} {id : String} {r : List V → Hp → VK → Prop} {f : List D → Option KD} {p pos : Pos} {e : Expr} {es : List Expr} {ms : List E} (hc : CallR X (.builtin id) r) (hs : SN G r f) (hm : X.mg x = none) (hv : bootBuiltins x = some (.builtin id)) (ha : TrA X G W (e :: es) ms) (hg : Gl X x := by rfl)
    (hn : x ≠ "__name__" := by decide) (hdb : (x == ("__debug__" : PySem.Str)) = false := by decide) (he : starEach (e :: es) X.env = (false, eval e X.env) :: starEach es X.env := by rfl) (hpl : (backTo pos (starEach es X.env)).any (·.1) = false := by rfl) : TrE X G W (.Call (.Name x p) (e :: es) [] pos) (eApp f ms) := by
  obtain ⟨t, pa, da⟩ := ha
  exact ⟨_, pe_callB hc hg hm hv pa hn hdb he hpl, den_app hs da⟩
theorem tr_callT {x : PySem.Str} {id : String} {r : List V → Hp → VK → Prop} {f : List D → Option KD} {p pos : Pos} {e : Expr} {es : List Expr} {ms : List E} (hc : CallR X (.type id) r) (hs : SN G r f) (hm : X.mg x = none) (hv : bootBuiltins x = some (.type id)) (ha : TrA X G W (e :: es) ms) (hg : Gl X x := by rfl)
    (hn : x ≠ "__name__" := by decide) (hdb : (x == ("__debug__" : PySem.Str)) = false := by decide) (he : starEach (e :: es) X.env = (false, eval e X.env) :: starEach es X.env := by rfl) (hpl : (backTo pos (starEach es X.env)).any (·.1) = false := by rfl) : TrE X G W (.Call (.Name x p) (e :: es) [] pos) (eApp f ms) := by
  obtain ⟨t, pa, da⟩ := ha
  exact ⟨_, pe_callTy hc hg hm hv pa hn hdb he hpl, den_app hs da⟩
end
end TB

namespace TB
open PySem L2
/-! ### statements -/
def PXs (G : Cfgx) (W : WX) (F H : Hp) (T : Cnt) (x : Xc) (S' : List Slot) : Prop :=
  ∀ σ' cls dx F' H' T', Step F H T F' H' T' → St' G F' H' σ' S' T' → ExcR G x cls dx H' → W cls dx σ' H'
def KS (G : Cfgx) (F H : Hp) (T : Cnt) (D : Ends) (f : Fl) (S' : List Slot) : Prop := match f with
  | .nx => ∀ σ' F' H' T', Step F H T F' H' T' → St' G F' H' σ' S' T' → D.nx σ' H'
  | .bk => ∀ σ' F' H' T', Step F H T F' H' T' → St' G F' H' σ' S' T' → D.bk σ' H'
  | .ct => ∀ σ' F' H' T', Step F H T F' H' T' → St' G F' H' σ' S' T' → D.ct σ' H'
  | .rt r => ∀ v σ' F' H' T' f, Step F H T F' H' (add T' f) → St' G F' H' σ' S' T' → Own G F' H' r.1 v r.2 f → (∀ a, T' a + f a ≤ 1) → (∀ a, F' a ≠ none → f a = 0) → D.rt v H'
def PRs {α : Type} (G : Cfgx) (W : WX) (F H : Hp) (T : Cnt) (K : α → List Slot → Prop) : R α → Prop
  | .ok a S => K a S
  | .exc x S => PXs G W F H T x S
  | .bad => False
section
variable {G : Cfgx} {W : WX} {F H F1 H1 : Hp} {σ : L2.St} {T T1 : Cnt} {α β : Type}
theorem PXs.re {x : Xc} {S : List Slot} (s : Step F H T F1 H1 T1) (h : PXs G W F H T x S) : PXs G W F1 H1 T1 x S := fun σ' cls dx F' H' T' s' st e => h σ' cls dx F' H' T' (s.trans s') st e
theorem KS.re {D : Ends} {f : Fl} {S : List Slot} (s : Step F H T F1 H1 T1) (h : KS G F H T D f S) : KS G F1 H1 T1 D f S := by
  cases f with
  | nx => exact fun σ' F' H' T' s' st => (show ∀ σ' F' H' T', Step F H T F' H' T' → St' G F' H' σ' S T' → D.nx σ' H' from h) σ' F' H' T' (s.trans s') st
  | bk => exact fun σ' F' H' T' s' st => (show ∀ σ' F' H' T', Step F H T F' H' T' → St' G F' H' σ' S T' → D.bk σ' H' from h) σ' F' H' T' (s.trans s') st
  | ct => exact fun σ' F' H' T' s' st => (show ∀ σ' F' H' T', Step F H T F' H' T' → St' G F' H' σ' S T' → D.ct σ' H' from h) σ' F' H' T' (s.trans s') st
  | rt r => exact fun v σ' F' H' T' f s' st => (show ∀ v σ' F' H' T' f, Step F H T F' H' (add T' f) → St' G F' H' σ' S T' → Own G F' H' r.1 v r.2 f → (∀ a, T' a + f a ≤ 1) → (∀ a, F' a ≠ none → f a = 0) → D.rt v H' from h) v σ' F' H' T' f (s.trans s') st
theorem PRs.bind {K1 : α → List Slot → Prop} {K2 : β → List Slot → Prop} {r : R α} {f : α → M β} (h : PRs G W F H T K2 (r.bind f)) (k : ∀ a S, PRs G W F H T K2 (f a S) → K1 a S) : PR G W F H σ T K1 r := by
  cases r with
  | ok a S => exact k a S h
  | exc x S => exact fun cls dx F' H' T' s st e => (show PXs G W F H T x S from h) σ cls dx F' H' T' s st e
  | bad => exact h
theorem PRs.binds {K1 : α → List Slot → Prop} {K2 : β → List Slot → Prop} {r : R α} {f : α → M β} (h : PRs G W F H T K2 (r.bind f)) (k : ∀ a S, PRs G W F H T K2 (f a S) → K1 a S) : PRs G W F H T K1 r := by
  cases r with
  | ok a S => exact k a S h
  | exc x S => exact h
  | bad => exact h
theorem PRs.re {K1 K2 : α → List Slot → Prop} {r : R α} (s : Step F H T F1 H1 T1) (k : ∀ a S, K1 a S → K2 a S) (h : PRs G W F H T K1 r) : PRs G W F1 H1 T1 K2 r := by
  cases r with
  | ok a S => exact k a S h
  | exc x S => exact PXs.re s h
  | bad => exact h
theorem PRs.reS {D : Ends} {r : R Fl} (s : Step F H T F1 H1 T1) (h : PRs G W F H T (KS G F H T D) r) : PRs G W F1 H1 T1 (KS G F1 H1 T1 D) r := PRs.re s (fun _ _ => KS.re s) h
end
def DenS (G : Cfgx) (W : WX) (t : TS) (m : St) : Prop := ∀ F H σ S T D, St' G F H σ S T → PRs G W F H T (KS G F H T D) (m S) → t D σ H
def TrS (X : Cx) (G : Cfgx) (W : WX) (s : Stmt) (m : St) : Prop := ∃ t, PS X s t ∧ DenS G W t m
def TrSs (X : Cx) (G : Cfgx) (W : WX) (s : List Stmt) (m : St) : Prop := ∃ t, PSs X s t ∧ DenS G W t m
/-- the slot i filled anew -/
theorem St'.set {G : Cfgx} {F H : Hp} {σ : L2.St} {S : List Slot} {T f : Cnt} {i : Nat} {k : Kd} {v : V} {d : D} (st : St' G F H σ S T) (hi : i < S.length) (hp : i ∉ G.pk) (o : Own G F H k v d f) (le : ∀ a, T a + f a ≤ 1) (di : ∀ a, F a ≠ none → f a = 0) :
    ∃ T', St' G F H (σ.set i (some v)) (S.set i (some (k, d))) T' ∧ ∀ a, T' a ≤ T a + f a := by
  obtain ⟨v0, f0, T0, ht, hv, ho, back⟩ := st.sl.at (List.getElem?_eq_getElem hi)
  refine ⟨add f T0, ⟨fun j hj => by rw [List.getElem?_set_ne (fun e => hp (by rw [e]; exact hj))]; exact st.pi j hj, st.sub, back F H (some v) (some (k, d)) f (Same.refl F) (fun _ _ _ h => h) (.yes o), fun a => ?_, fun a n => ?_⟩, fun a => ?_⟩
  · have := ht a; have := le a; simp only [add]; omega
  · have := ht a; have := di a n; have := st.di a n; simp only [add]; omega
  · have := ht a; simp only [add]; omega
/-- the slot i emptied -/
theorem St'.drop {G : Cfgx} {F H : Hp} {σ : L2.St} {S : List Slot} {T : Cnt} {i : Nat} (st : St' G F H σ S T) (hp : i ∉ G.pk) (v : Option V) : ∃ T', St' G F H (σ.set i v) (S.set i none) T' ∧ ∀ a, T' a ≤ T a := by
  by_cases hi : i < S.length
  · obtain ⟨v0, f0, T0, ht, hv, ho, back⟩ := st.sl.at (List.getElem?_eq_getElem hi)
    refine ⟨add nil0 T0, ⟨fun j hj => by rw [List.getElem?_set_ne (fun e => hp (by rw [e]; exact hj))]; exact st.pi j hj, st.sub, back F H v none nil0 (Same.refl F) (fun _ _ _ h => h) (.no v), fun a => ?_, fun a n => ?_⟩, fun a => ?_⟩
    · have := ht a; have := st.le a; simp only [add, nil0]; omega
    · have := ht a; have := st.di a n; simp only [add, nil0]; omega
    · have := ht a; simp only [add, nil0]; omega
  · have hs : σ.length ≤ i := by rw [st.sl.len]; omega
    rw [List.set_eq_of_length_le hs, List.set_eq_of_length_le (by omega)]
    exact ⟨T, st, fun a => Nat.le_refl _⟩
section
variable {X : Cx} {G : Cfgx} {W : WX} {k : Nat}
theorem ts_nil : TrSs X G W [] sNx := ⟨_, pss_nil, fun F H σ S T D st p => (show KS G F H T D .nx S from p) σ F H T (Step.refl F H T) st⟩
theorem ts_one {s : Stmt} {m : St} (h : TrS X G W s m) : TrSs X G W [s] m := by
  obtain ⟨t, p, d⟩ := h
  exact ⟨t, pss_one p, d⟩
theorem ts_cons {s : Stmt} {r : List Stmt} {m n : St} (h : TrS X G W s m) (g : TrSs X G W r n) : TrSs X G W (s :: r) (sSeq m n) := by
  obtain ⟨t, p, d⟩ := h
  obtain ⟨u, q, e⟩ := g
  refine ⟨_, pss_cons p q, fun F H σ S T D st z => ?_⟩
  refine d F H σ S T { D with nx := u D } st (PRs.binds z fun f S1 y => ?_)
  cases f with
  | nx => exact fun σ' F' H' T' s' st' => e F' H' σ' S1 T' D st' (PRs.reS s' y)
  | bk => exact y
  | ct => exact y
  | rt r => exact y
theorem pin_ok {i : Nat} (h : G.pk.contains i = false) : i ∉ G.pk := fun z => by rw [List.contains_iff_mem.mpr z] at h; cases h
theorem tr_set (i : Nat) {x : PySem.Str} {e : Expr} {m : E} {p pos : Pos} (C : Cok X G W k) (h : TrE X G W e m) (hp : G.pk.contains i = false := by rfl) (hi : X.N[i]? = some x := by rfl) (hx : Loc X.env.scope x := by first | exact Or.inl rfl | exact Or.inr rfl) (hs : swapsWith e (some (.Name x p)) pos.line X.env = pure false := by rfl)
    (hf : X.fn x = true ∨ X.env.scope.names.lookup x = some .local := by first | exact .inl rfl | exact .inr rfl) : TrS X G W (.Assign [.Name x p] e pos) (sSet i m) := by
  obtain ⟨t, q, d⟩ := h
  refine ⟨_, ps_set C.nd hi hx q hs hf, fun F H σ S T D st z => d F H σ S T _ st (PRs.bind z fun kd S1 y => ?_)⟩
  obtain ⟨kk, dd⟩ := kd
  intro v F' H' T' f s' st' o le di
  show D.nx (σ.set i (some v)) H'
  by_cases hl : i < S1.length
  · have y : PRs G W F H T (KS G F H T D) (if i < S1.length then .ok .nx (S1.set i (some (kk, dd))) else .bad) := y
    rw [if_pos hl] at y
    obtain ⟨T2, st2, l2⟩ := st'.set hl (pin_ok hp) o le di
    exact (show KS G F H T D .nx _ from y) _ F' H' T2 (s'.less l2) st2
  · have y : PRs G W F H T (KS G F H T D) (if i < S1.length then .ok .nx (S1.set i (some (kk, dd))) else .bad) := y
    rw [if_neg hl] at y
    exact y.elim
theorem tr_drop {e : Expr} {m : E} {pos : Pos} (h : TrE X G W e m) (hs : swapsWith e none pos.line X.env = pure false := by rfl) : TrS X G W (.Expr e pos) (sDrop m) := by
  obtain ⟨t, q, d⟩ := h
  refine ⟨_, ps_expr q hs, fun F H σ S T D st z => d F H σ S T _ st (PRs.bind z fun kd S1 y => ?_)⟩
  intro v F' H' T' f s' st' o le di
  exact (show KS G F H T D .nx S1 from y) σ F' H' T' (s'.less fun a => by simp only [add]; omega) st'
theorem tr_ret {e : Expr} {m : E} {pos : Pos} (h : TrE X G W e m) : TrS X G W (.Return (some e) pos) (sRet m) := by
  obtain ⟨t, q, d⟩ := h
  refine ⟨_, ps_ret q, fun F H σ S T D st z => d F H σ S T _ st (PRs.bind z fun kd S1 y => ?_)⟩
  intro v F' H' T' f s' st' o le di
  exact (show KS G F H T D (.rt kd) S1 from y) v σ F' H' T' f s' st' o le di
theorem tr_retN {pos : Pos} : TrS X G W (.Return none pos) sRetN := ⟨_, ps_retN, fun F H σ S T D st z => (show KS G F H T D (.rt (.fz, .non)) S from z) .non σ F H T nil0 ((Step.refl F H T).castR fun a => rfl) st (.fz .non) (fun a => st.le a) fun _ _ => rfl⟩
theorem tr_pass {pos : Pos} : TrS X G W (.Pass pos) sNx := ⟨_, ps_pass, fun F H σ S T D st p => (show KS G F H T D .nx S from p) σ F H T (Step.refl F H T) st⟩
theorem tr_ifS {c : Expr} {a b : List Stmt} {mc : T} {ma mb : St} {pos : Pos} (hc : TrT X G W c mc) (ha : TrSs X G W a ma) (hb : TrSs X G W b mb) : TrS X G W (.If c a b pos) (sIf mc ma mb) := by
  obtain ⟨t, p, d⟩ := hc
  obtain ⟨u, q, e⟩ := ha
  obtain ⟨w, r, g⟩ := hb
  refine ⟨_, ps_if p q r, fun F H σ S T D st z => d F H σ S T _ st (PRs.bind z fun x S1 y => ?_)⟩
  intro F1 H1 T1 s1 st1
  cases x with
  | true => exact e F1 H1 σ S1 T1 D st1 (PRs.reS s1 y)
  | false => exact g F1 H1 σ S1 T1 D st1 (PRs.reS s1 y)
theorem tr_while (n : Nat) {c : Expr} {b : List Stmt} {mc : T} {mb : St} {pos : Pos} (C : Cok X G W k) (hc : TrT X G W c mc) (hb : TrSs X G W b mb) : TrS X G W (.While c b [] pos) (sWhile n mc mb) := by
  obtain ⟨t, p, d⟩ := hc
  obtain ⟨u, q, e⟩ := hb
  refine ⟨_, ps_while C.po p q, fun F H σ S T D st z => ?_⟩
  refine ⟨fun m σ1 H1 => ∃ F1 S1 T1, St' G F1 H1 σ1 S1 T1 ∧ PRs G W F1 H1 T1 (KS G F1 H1 T1 D) (sWhile m mc mb S1), ⟨n, F, S, T, st, z⟩, ?_⟩
  rintro m σ1 H1 ⟨F1, S1, T1, st1, z1⟩
  cases m with
  | zero => exact z1.elim
  | succ m =>
    have z1 : PRs G W F1 H1 T1 (KS G F1 H1 T1 D) ((mc S1).bind fun x => if x then M.bind mb (fun f => match f with | .nx => sWhile m mc mb | .ct => sWhile m mc mb | .bk => M.pure .nx | .rt r => M.pure (.rt r)) else M.pure .nx) := z1
    refine d F1 H1 σ1 S1 T1 _ st1 (PRs.bind z1 fun x S2 y => ?_)
    intro F2 H2 T2 s2 st2
    cases x with
    | false => exact (show KS G F1 H1 T1 D .nx S2 from y) σ1 F2 H2 T2 s2 st2
    | true =>
      have y : PRs G W F1 H1 T1 (KS G F1 H1 T1 D) ((mb S2).bind fun f => match f with | .nx => sWhile m mc mb | .ct => sWhile m mc mb | .bk => M.pure .nx | .rt r => M.pure (.rt r)) := y
      have y := PRs.reS s2 y
      refine ⟨fun σ3 H3 => ∃ F3 S3 T3, St' G F3 H3 σ3 S3 T3 ∧ PRs G W F3 H3 T3 (KS G F3 H3 T3 D) (sWhile m mc mb S3), fun σ' H' w => ⟨m, Nat.lt_succ_self m, w⟩, ?_⟩
      refine e F2 H2 σ1 S2 T2 _ st2 (PRs.binds y fun f S3 z3 => ?_)
      cases f with
      | nx => exact fun σ' F' H' T' s' st' => ⟨F', S3, T', st', PRs.reS s' z3⟩
      | ct => exact fun σ' F' H' T' s' st' => ⟨F', S3, T', st', PRs.reS s' z3⟩
      | bk => exact fun σ' F' H' T' s' st' => (show KS G F2 H2 T2 D .nx S3 from z3) σ' F' H' T' s' st'
      | rt r => exact (show KS G F2 H2 T2 D (.rt r) S3 from z3)
/-! ### what is walked -/
/-- an item, in a heap that may have got a tuple more -/
def YD (G : Cfgx) (F H : Hp) (x : V) (H' : Hp) (d : D) : Prop := (H' = H ∧ Rep G F x d) ∨ ∃ p vs ds, x = .ref p ∧ H p = none ∧ H' = upd H p (.tup vs) ∧ d = .tup ds ∧ Reps G F vs ds
def WalkD (G : Cfgx) (F : Hp) (J : L2.It) (ds : List D) : Prop := ∃ Y, L2.Walk J ds.length (fun H => Same F H) Y ∧ ∀ i H x H' d, ds[i]? = some d → Y i H x H' → YD G F H x H' d
def KI (G : Cfgx) (F H : Hp) (σ : L2.St) (T : Cnt) (R : L2.It → Hp → Prop) (ds : List D) (S' : List Slot) : Prop :=
  ∀ J F' H' T', Step F H T F' H' T' → St' G F' H' σ S' T' → WalkD G F' J ds → R J H'
def DenI (G : Cfgx) (W : WX) (wi : TI) (m : It) : Prop := ∀ F H σ S T R, St' G F H σ S T → PR G W F H σ T (KI G F H σ T R) (m S) → wi σ H R
def TrI (X : Cx) (G : Cfgx) (W : WX) (tg e : Expr) (m : It) : Prop := ∃ wi, PI X tg e wi ∧ DenI G W wi m
/-! targets -/
def DenG (G : Cfgx) (g : TG) (tg : Tg) : Prop := ∀ F H σ S T v d S' (Q : L2.St → Hp → Prop), St' G F H σ S T → Rep G F v d → tg.put d S = some S' → (∀ σ' T', St' G F H σ' S' T' → (∀ a, T' a ≤ T a) → (∀ j, j ∉ tg.sl → σ'[j]? = σ[j]?) → Q σ' H) → g v σ H Q
def DenGs (G : Cfgx) (g : TGs) (tg : List Tg) : Prop := ∀ F H σ S T vs ds S' (Q : L2.St → Hp → Prop), St' G F H σ S T → Reps G F vs ds → Tg.puts tg ds S = some S' → (∀ σ' T', St' G F H σ' S' T' → (∀ a, T' a ≤ T a) → (∀ j, j ∉ Tg.sls tg → σ'[j]? = σ[j]?) → Q σ' H) → g vs σ H Q
def TrG (X : Cx) (G : Cfgx) (e : Expr) (tg : Tg) : Prop := ∃ g, PG X e g ∧ DenG G g tg
def TrGs (X : Cx) (G : Cfgx) (es : List Expr) (tg : List Tg) : Prop := ∃ g, PGs X es g ∧ DenGs G g tg
theorem tg_nm (i : Nat) {x : PySem.Str} {pos : Pos} (nd : X.N.Nodup) (hp : G.pk.contains i = false := by rfl) (hi : X.N[i]? = some x := by rfl) (hx : Loc X.env.scope x := by first | exact Or.inl rfl | exact Or.inr rfl) (hf : X.fn x = true ∨ X.env.scope.names.lookup x = some .local := by first | exact .inl rfl | exact .inr rfl) : TrG X G (.Name x pos) (.nm i) := by
  refine ⟨_, pg_name nd hi hx hf, fun F H σ S T v d S' Q st r e k => ?_⟩
  unfold Tg.put at e
  by_cases hl : i < S.length
  · rw [if_pos hl] at e
    cases e
    obtain ⟨T2, st2, l2⟩ := st.set hl (pin_ok hp) (.fz r) (fun a => by simp only [nil0]; exact st.le a) fun _ _ => rfl
    exact k _ T2 st2 (fun a => by have := l2 a; simp only [nil0] at this; omega) fun j hj => List.getElem?_set_ne fun e => hj (by simp [Tg.sl, e])
  · rw [if_neg hl] at e; cases e
theorem tg_nil : TrGs X G [] [] := ⟨_, pgs_nil, fun F H σ S T vs ds S' Q st r e k => by
  cases r with
  | nil => unfold Tg.puts at e; cases e; exact ⟨rfl, k σ T st (fun a => Nat.le_refl _) fun _ _ => rfl⟩
  | cons a b => unfold Tg.puts at e; cases e⟩
theorem tg_cons {e : Expr} {es : List Expr} {t : Tg} {ts : List Tg} (h : TrG X G e t) (hs : TrGs X G es ts) (ha : (assignEach (e :: es) X.env).map (·.2) = assign e X.env :: (assignEach es X.env).map (·.2) := by rfl) : TrGs X G (e :: es) (t :: ts) := by
  obtain ⟨g, p, d⟩ := h
  obtain ⟨g2, p2, d2⟩ := hs
  refine ⟨_, pgs_cons p p2 ha, fun F H σ S T vs ds S' Q st r e k => ?_⟩
  cases r with
  | nil => unfold Tg.puts at e; cases e
  | @cons v dd vs ds r1 r2 =>
    unfold Tg.puts at e
    cases e1 : Tg.put t dd S with
    | none => rw [e1] at e; cases e
    | some S1 =>
      rw [e1] at e
      exact ⟨v, vs, rfl, d F H σ S T v dd S1 _ st r1 e1 fun σ1 T1 st1 l1 a1 => d2 F H σ1 S1 T1 vs ds S' Q st1 r2 e fun σ2 T2 st2 l2 a2 => k σ2 T2 st2 (fun a => Nat.le_trans (l2 a) (l1 a)) fun j hj => by
        unfold Tg.sls at hj
        exact (a2 j fun z => hj (List.mem_append_right _ z)).trans (a1 j fun z => hj (List.mem_append_left _ z))⟩
theorem tg_tup {es : List Expr} {kk : Nat} {ts : List Tg} {n : Nat} {pos : Pos} (C : Cok X G W k) (h : TrGs X G es ts) (hl : ts.length = n := by rfl) (hn : (assignEach es X.env).length = n := by rfl) (hst : (assignEach es X.env).findIdx? (·.1) = none := by rfl) : TrG X G (.Tuple es kk pos) (.tp ts) := by
  obtain ⟨g, p, d⟩ := h
  refine ⟨_, pg_tup C.calm p hn hst, fun F H σ S T v dd S' Q st r e k => ?_⟩
  cases r with
  | tup hs rs =>
    unfold Tg.put at e
    refine ⟨_, _, rfl, C.hK ▸ same_t st.sub hs, ?_, d F H σ S T _ _ S' Q st rs e (fun σ' T' st' l a => k σ' T' st' l fun j hj => a j (by unfold Tg.sl at hj; exact hj))⟩
    have : ∀ (ts : List Tg) (ds : List D) (S S' : List Slot), Tg.puts ts ds S = some S' → ds.length = ts.length := by
      intro ts
      induction ts with
      | nil => intro ds S S' e; cases ds with
        | nil => rfl
        | cons a b => unfold Tg.puts at e; cases e
      | cons t ts ih => intro ds S S' e; cases ds with
        | nil => unfold Tg.puts at e; cases e
        | cons a b =>
          unfold Tg.puts at e
          cases e1 : Tg.put t a S with
          | none => rw [e1] at e; cases e
          | some S1 => rw [e1] at e; simp [ih _ _ _ e]
    rw [rs.len, this _ _ _ _ e, hl]
  | _ => unfold Tg.put at e; cases e
theorem den_loop {wi : TI} {it : It} {g : TG} {tg : Tg} {tb : TS} {mb : St} (hi : DenI G W wi it) (hg : DenG G g tg) (hb : DenS G W tb mb) : DenS G W (tFor wi g tb) (sFor it tg mb) := fun F H σ S T D st z => by
  refine hi F H σ S T _ st (PRs.bind z fun ds S1 y => ?_)
  intro J F1 H1 T1 s1 st1 ⟨Y, w, hY⟩
  refine L2.for_it w (fun i σ' H' => ∃ F' S' T', St' G F' H' σ' S' T' ∧ Same F1 F' ∧ PRs G W F' H' T' (KS G F' H' T' D) (loop tg mb (ds.drop i) S')) ⟨F1, S1, T1, st1, Same.refl F1, PRs.reS s1 y⟩ (fun i σ' H' _ ⟨F', S', T', st', sf, _⟩ => sf.trans st'.sub) ?_ ?_
  · rintro i x σ2 H2 H3 hi ⟨F2, S2, T2, st2, sf2, p⟩ hy
    have hd : ds[i]? = some ds[i] := List.getElem?_eq_getElem hi
    have yd := hY i H2 x H3 ds[i] hd hy
    rw [List.drop_eq_getElem_cons hi] at p
    unfold loop at p
    cases e : tg.put ds[i] S2 with
    | none => rw [e] at p; exact p.elim
    | some S3 =>
      rw [e] at p
      have p : PRs G W F2 H2 T2 (KS G F2 H2 T2 D) ((mb S3).bind fun f => match f with | .nx => loop tg mb (ds.drop (i + 1)) | .ct => loop tg mb (ds.drop (i + 1)) | .bk => M.pure .nx | .rt r => M.pure (.rt r)) := p
      have turn : ∀ F3 H3 T3, Step F2 H2 T2 F3 H3 T3 → St' G F3 H3 σ2 S2 T3 → Rep G F3 x ds[i] → g x σ2 H3 fun σ4 H4 => tb { D with nx := fun σ' H' => ∃ F' S' T', St' G F' H' σ' S' T' ∧ Same F1 F' ∧ PRs G W F' H' T' (KS G F' H' T' D) (loop tg mb (ds.drop (i + 1)) S'), ct := fun σ' H' => ∃ F' S' T', St' G F' H' σ' S' T' ∧ Same F1 F' ∧ PRs G W F' H' T' (KS G F' H' T' D) (loop tg mb (ds.drop (i + 1)) S'), bk := D.nx } σ4 H4 := by
        intro F3 H3 T3 s3 st3 r3
        refine hg F3 H3 σ2 S2 T3 x ds[i] S3 _ st3 r3 e fun σ4 T4 st4 l4 _ => ?_
        have s4 : Step F2 H2 T2 F3 H3 T4 := s3.less l4
        refine hb F3 H3 σ4 S3 T4 _ st4 (PRs.binds (PRs.reS s4 p) fun f S5 q => ?_)
        cases f with
        | nx => exact fun σ' F' H' T' s' st' => ⟨F', S5, T', st', (sf2.trans s4.sF).trans s'.sF, PRs.reS s' q⟩
        | ct => exact fun σ' F' H' T' s' st' => ⟨F', S5, T', st', (sf2.trans s4.sF).trans s'.sF, PRs.reS s' q⟩
        | bk => exact fun σ' F' H' T' s' st' => (show KS G F3 H3 T4 D .nx S5 from q) σ' F' H' T' s' st'
        | rt r => exact (show KS G F3 H3 T4 D (.rt r) S5 from q)
      rcases yd with ⟨e1, r⟩ | ⟨pp, vs, dd, e1, hp, e2, e3, r⟩
      · subst e1
        exact turn F2 H3 T2 (Step.refl _ _ _) st2 (r.mono sf2)
      · subst e1 e2
        obtain ⟨st3, s3⟩ := st2.newF (o := .tup vs) hp
        refine turn _ _ T2 s3 st3 ?_
        rw [e3]
        exact .tup (.inl (.inl upd_same)) ((r.mono sf2).mono s3.sF)
  · rintro σ2 H2 ⟨F2, S2, T2, st2, sf2, p⟩
    rw [List.drop_length] at p
    exact (show KS G F2 H2 T2 D .nx S2 from p) σ2 F2 H2 T2 (Step.refl _ _ _) st2
theorem tr_for {tg iter : Expr} {body : List Stmt} {it : It} {t : Tg} {mb : St} {pos : Pos} (C : Cok X G W k) (hi : TrI X G W tg iter it) (hg : TrG X G tg t) (hb : TrSs X G W body mb) (hs : ∀ x, foldedSetIterable iter X.env x = pure x := by intro _; rfl) : TrS X G W (.For tg iter body [] pos) (sFor it t mb) := by
  obtain ⟨wi, p, d⟩ := hi
  obtain ⟨g, q, e⟩ := hg
  obtain ⟨tb, r, f⟩ := hb
  exact ⟨_, ps_for C.po C.calm p q r hs, den_loop d e f⟩
/-! ### the readings that hang on the mirror alone -/
def tE (G : Cfgx) (W : WX) (m : E) : TE := fun σ H Q => ∃ F S T, St' G F H σ S T ∧ PR G W F H σ T (KE G F H σ T Q) (m S)
def tT (G : Cfgx) (W : WX) (m : T) : TT := fun σ H Q => ∃ F S T, St' G F H σ S T ∧ PR G W F H σ T (KB G F H σ T Q) (m S)
def gG (G : Cfgx) (tg : Tg) : TG := fun v σ H Q => ∃ F S T d S', St' G F H σ S T ∧ Rep G F v d ∧ tg.put d S = some S' ∧ ∀ σ' T', St' G F H σ' S' T' → (∀ a, T' a ≤ T a) → (∀ j, j ∉ tg.sl → σ'[j]? = σ[j]?) → Q σ' H
theorem TrE.can {e : Expr} {m : E} (h : TrE X G W e m) : PE X e (tE G W m) := by
  obtain ⟨t, p, d⟩ := h
  exact ⟨fun pins s σ H Q I ⟨F, S, T, st, q⟩ => p.run pins s σ H Q I (d F H σ S T Q st q)⟩
theorem TrT.can {e : Expr} {m : T} (h : TrT X G W e m) : PT X e (tT G W m) := by
  obtain ⟨t, p, d⟩ := h
  exact ⟨fun pins s σ H Q I ⟨F, S, T, st, q⟩ => p.run pins s σ H Q I (d F H σ S T Q st q)⟩
theorem TrG.can {e : Expr} {tg : Tg} (h : TrG X G e tg) : PG X e (gG G tg) := by
  obtain ⟨g, p, d⟩ := h
  exact ⟨fun pins s σ H v u Q I r ⟨F, S, T, dd, S', st, rr, e, k⟩ => p.run pins s σ H v u Q I r (d F H σ S T v dd S' Q st rr e k)⟩
def TrTs (X : Cx) (G : Cfgx) (W : WX) (ifs : List Expr) (m : T) : Prop := PTs X ifs (tT G W m)
theorem tts_nil : TrTs X G W [] tTrue := ⟨fun pins s σ H Q I ⟨F, S, T, st, q⟩ => pts_nil.run pins s σ H Q I ((show KB G F H σ T Q true S from q) F H T (Step.refl F H T) st)⟩
theorem tts_one {c : Expr} {m : T} (h : TrT X G W c m) : TrTs X G W [c] m := pts_one h.can
theorem tts_and {c d : Expr} {m n : T} (h : TrT X G W c m) (g : TrT X G W d n) : True := trivial
/-! ### comprehensions -/
theorem wipe_get {α : Type} {σ : List (Option α)} : ∀ {w : List Nat → List (Option α)}, True := fun {_} => trivial
theorem wipe_at (σ : L2.St) : ∀ (vs : List Nat) (j : Nat), (L2.wipe σ vs)[j]? = if j ∈ vs ∧ j < σ.length then some none else σ[j]?
  | [], j => by simp [L2.wipe]
  | v :: vs, j => by
    have ih := wipe_at σ vs j
    unfold L2.wipe
    by_cases h : v = j
    · subst h
      by_cases hl : v < σ.length
      · rw [List.getElem?_set_self (by rw [L2.wipe_length]; exact hl), if_pos ⟨List.mem_cons_self, hl⟩]
      · rw [List.getElem?_eq_none (by rw [List.length_set, L2.wipe_length]; omega), if_neg (fun z => hl z.2), List.getElem?_eq_none (by omega)]
    · rw [List.getElem?_set_ne h, ih]
      have e : j ∈ v :: vs ↔ j ∈ vs := by simp [Ne.symm h]
      simp only [e]
theorem wipe_eq {σ σ' : L2.St} {vs : List Nat} (hl : σ'.length = σ.length) (h : ∀ j, j ∉ vs → σ'[j]? = σ[j]?) : L2.wipe σ' vs = L2.wipe σ vs := by
  apply List.ext_getElem?
  intro j
  rw [wipe_at, wipe_at, hl]
  by_cases z : j ∈ vs
  · by_cases y : j < σ.length
    · simp [z, y]
    · rw [if_neg (fun w => y w.2), if_neg (fun w => y w.2), List.getElem?_eq_none (by omega), List.getElem?_eq_none (by omega)]
  · rw [if_neg (fun w => z w.1), if_neg (fun w => z w.1)]; exact h j z
theorem wipe_wipe (σ : L2.St) (vs : List Nat) : L2.wipe (L2.wipe σ vs) vs = L2.wipe σ vs := wipe_eq (L2.wipe_length σ vs) fun j hj => by rw [wipe_at, if_neg fun w => hj w.1]
theorem wipe_slots {F H : Hp} {σ : L2.St} {S : List Slot} {T : Cnt} (st : St' G F H σ S T) : ∀ vs : List Nat, (∀ v, v ∈ vs → v ∉ G.pk) → ∃ T', St' G F H (L2.wipe σ vs) (wipeS S vs) T' ∧ ∀ a, T' a ≤ T a
  | [], _ => ⟨T, st, fun a => Nat.le_refl _⟩
  | v :: vs, h => by
    obtain ⟨T1, st1, l1⟩ := wipe_slots st vs fun x hx => h x (List.mem_cons_of_mem _ hx)
    obtain ⟨T2, st2, l2⟩ := st1.drop (i := v) (h v List.mem_cons_self) none
    exact ⟨T2, st2, fun a => Nat.le_trans (l2 a) (l1 a)⟩
/-- the block's own slots as they were ahead -/
theorem back_slots {F F0 H H0 : Hp} {σ : L2.St} {S0 : List Slot} {T0 : Cnt} (st0 : St' G F0 H0 σ S0 T0) (sF : Same F0 F) : ∀ {vs : List Nat} {S : List Slot} {T : Cnt}, vs.all (fzAt S0) = true → noDup vs = true → St' G F H (L2.wipe σ vs) S T → ∃ T', St' G F H σ (backS S0 S vs) T' ∧ ∀ a, T' a ≤ T a
  | [], S, T, _, _, st => ⟨T, st, fun a => Nat.le_refl _⟩
  | v :: vs, S, T, h, nd, st => by
    obtain ⟨h1, h2⟩ := Bool.and_eq_true_iff.mp (show (fzAt S0 v && vs.all (fzAt S0)) = true from h)
    obtain ⟨n1, n2⟩ := Bool.and_eq_true_iff.mp (show (!vs.contains v && noDup vs) = true from nd)
    have nv : v ∉ vs := by simpa using n1
    have lS : S.length = σ.length := by rw [← st.sl.len, L2.wipe_length]
    have l0 : σ.length = S0.length := st0.sl.len
    cases e : S0[v]? with
    | none => unfold fzAt at h1; rw [e] at h1; cases h1
    | some s0 =>
      have hv : v < S0.length := (List.getElem?_eq_some_iff.mp e).1
      have gd : S0.getD v none = s0 := by rw [List.getD_eq_getElem?_getD, e]; rfl
      obtain ⟨x, f, Tr, ht, hx, ho, back⟩ := st.sl.at (i := v) (List.getElem?_eq_getElem (by omega))
      obtain ⟨x0, f0, Tr0, _, hx0, ho0, _⟩ := st0.sl.at (i := v) e
      have ok : SlotOk G F H x0 s0 nil0 := by
        unfold fzAt at h1
        rw [e] at h1
        cases ho0 with
        | no => exact .no _
        | @yes k1 v1 d1 f1 o =>
          cases k1 with
          | fz => cases o with | fz r => exact .yes (.fz (r.mono sF))
          | _ => cases h1
      have q := back F H x0 s0 nil0 (Same.refl F) (fun _ _ _ h => h) ok
      have e2 : (L2.wipe σ (v :: vs)).set v x0 = L2.wipe σ vs := by
        show ((L2.wipe σ vs).set v none).set v x0 = _
        rw [List.set_set]
        have z : (L2.wipe σ vs)[v]? = some x0 := by rw [wipe_at, if_neg fun w => nv w.1]; exact hx0
        obtain ⟨hi, q1⟩ := List.getElem?_eq_some_iff.mp z
        rw [← q1, List.set_getElem_self]
      rw [e2] at q
      have st2 : St' G F H (L2.wipe σ vs) (S.set v s0) (add nil0 Tr) := ⟨fun j hj => by
        have z := st.pi j hj
        rw [wipe_at] at z ⊢
        by_cases y : j ∈ vs ∧ j < σ.length
        · rw [if_pos ⟨List.mem_cons_of_mem _ y.1, y.2⟩] at z
          rw [if_pos y]; exact z
        · rw [if_neg y]; exact st0.pi j hj, st.sub, q, fun a => by have := ht a; have := st.le a; simp only [add, nil0]; omega, fun a n => by have := ht a; have := st.di a n; simp only [add, nil0]; omega⟩
      obtain ⟨T', st3, l3⟩ := back_slots st0 sF h2 n2 st2
      refine ⟨T', ?_, fun a => by have := l3 a; have := ht a; simp only [add, nil0] at *; omega⟩
      show St' G F H σ (backS S0 (S.set v (S0.getD v none)) vs) T'
      rw [gd]
      exact st3
abbrev W0 : WX := fun _ _ _ _ => False
theorem den_lc {wi : TI} {it : It} {tg : Tg} {vs : List Nat} {c : T} {e : E} (hpn : ∀ v, v ∈ vs → v ∉ G.pk) (hi : DenI G W wi it) : DenE G W (tLc wi (gG G tg) (tT G W0 c) (tE G W0 e) vs) (eLc it tg vs c e) := fun F H σ S T Q st z => by
  refine hi F H σ S T _ st (PR.bind z fun ds S0 y => ?_)
  intro J F1 H1 T1 s1 st1 ⟨Y, w, hY⟩ L hL
  by_cases hc : (vs.all (fzAt S0) && noDup vs && tg.sl.all vs.contains) = true
  case neg => rw [if_neg hc] at y; exact y.elim
  rw [if_pos hc] at y
  obtain ⟨hc1, hc3⟩ := Bool.and_eq_true_iff.mp hc
  obtain ⟨hc1, hc2⟩ := Bool.and_eq_true_iff.mp hc1
  have tgv : ∀ j, j ∈ tg.sl → j ∈ vs := fun j hj => by simpa using List.all_eq_true.mp hc3 j hj
  -- what the loop is to reach
  let Fin : R (List D) → Prop := fun r => match r with
    | .ok acc S' => KE G F H σ T Q (.li .fz, .lst acc) (backS S0 S' vs)
    | _ => False
  have y : Fin (cLoop tg vs c e ds [] (wipeS S0 vs)) := by
    cases q : cLoop tg vs c e ds [] (wipeS S0 vs) with
    | ok acc S' => rw [q] at y; exact y
    | exc x S' => rw [q] at y; exact y
    | bad => rw [q] at y; exact y
  obtain ⟨stN, sN, leN, fN⟩ := st1.newT (o := .lst []) hL
  obtain ⟨Tw, stw, lw⟩ := wipe_slots stN vs hpn
  have sB : Step F H T F1 (upd H1 L (.lst [])) (add Tw (one L)) := (s1.trans sN).less fun a => by have := lw a; simp only [add]; omega
  have tL : T1 L = 0 := by have := leN L; simp only [one, if_pos] at this; omega
  let Inv (i : Nat) (H' : Hp) : Prop := ∃ F' S' T' av acc, St' G F' H' (L2.wipe σ vs) S' T' ∧ Step F H T F' H' (add T' (one L)) ∧ Same F1 F' ∧ H' L = some (.lst av) ∧ Reps G F' av acc ∧ T' L = 0 ∧ F' L = none ∧ Fin (cLoop tg vs c e (ds.drop i) acc S')
  refine L2.lc_it w Inv ⟨F1, wipeS S0 vs, Tw, [], [], stw, sB, Same.refl F1, upd_same, .nil, by have := lw L; omega, fN, y⟩ (fun i H' _ ⟨F', S', T', av, acc, st', _, sf, _⟩ => sf.trans st'.sub) ?_ ?_
  · rintro i x H2 H3 hi' ⟨F2, S2, T2, av, acc, st2, s2, sf2, hl2, ra2, t2, f2, p⟩ hy
    have yd := hY i H2 x H3 ds[i] (List.getElem?_eq_getElem hi') hy
    rw [List.drop_eq_getElem_cons hi'] at p
    unfold cLoop at p
    cases ep : tg.put ds[i] S2 with
    | none => rw [ep] at p; exact p.elim
    | some S3 =>
      rw [ep] at p
      have p : Fin ((c S3).bind fun b => if b then M.bind (eDat e) fun y S => if acc.length < sizeMax then cLoop tg vs c e (ds.drop (i + 1)) (acc ++ [y]) (wipeS S vs) else .bad else fun S => cLoop tg vs c e (ds.drop (i + 1)) acc (wipeS S vs)) := p
      have turn : ∀ F3 H3, Step F H T F3 H3 (add T2 (one L)) → St' G F3 H3 (L2.wipe σ vs) S2 T2 → Same F1 F3 → H3 L = some (.lst av) → Reps G F3 av acc → F3 L = none → Rep G F3 x ds[i] →
          gG G tg x (L2.wipe σ vs) H3 fun σ2 H2 => L2.wipe σ2 vs = L2.wipe σ vs ∧ tT G W0 c σ2 H2 fun b H3 => if b = true then tE G W0 e σ2 H3 fun y H4 => ∃ acc, H4 L = some (.lst acc) ∧ acc.length < sizeLine ∧ Inv (i + 1) (upd H4 L (.lst (acc ++ [y]))) else Inv (i + 1) H3 := by
        intro F3 H3 s3 st3 sf3 hl3 ra3 f3 r3
        refine ⟨F3, S2, T2, ds[i], S3, st3, r3, ep, fun σ4 T4 st4 l4 a4 => ?_⟩
        have lens : σ4.length = σ.length := by
          have a := st4.sl.len
          have : ∀ (t : Tg) (d : D) (S S' : List Slot), t.put d S = some S' → S'.length = S.length := by
            intro t
            apply Tg.rec (motive_1 := fun t => ∀ (d : D) (S S' : List Slot), t.put d S = some S' → S'.length = S.length) (motive_2 := fun ts => ∀ (d : List D) (S S' : List Slot), Tg.puts ts d S = some S' → S'.length = S.length)
            · intro i d S S' h
              unfold Tg.put at h
              split at h
              · cases h; simp
              · cases h
            · intro is ih d S S' h
              unfold Tg.put at h
              split at h
              · exact ih _ _ _ h
              · cases h
            · intro d S S' h
              cases d with
              | nil => unfold Tg.puts at h; cases h; rfl
              | cons a b => unfold Tg.puts at h; cases h
            · intro t ts i1 i2 d S S' h
              cases d with
              | nil => unfold Tg.puts at h; cases h
              | cons a b =>
                unfold Tg.puts at h
                cases q : Tg.put t a S with
                | none => rw [q] at h; cases h
                | some S1 => rw [q] at h; exact (i2 _ _ _ h).trans (i1 _ _ _ q)
          have b := this tg ds[i] _ _ ep
          have c := st3.sl.len
          rw [L2.wipe_length] at c
          omega
        refine ⟨(wipe_eq (σ := L2.wipe σ vs) (by rw [L2.wipe_length]; exact lens) fun j hj => a4 j fun z => hj (tgv j z)).trans (wipe_wipe σ vs), ?_⟩
        have hTz : ∀ a, T4 a ≤ T2 a := l4
        have s4 : Step F H T F3 H3 (add T4 (one L)) := s3.less fun a => by have := hTz a; simp only [add]; omega
        have fr : ∀ {F5 H5 : Hp} {T5 : Cnt}, Step F3 H3 T4 F5 H5 T5 → Step F H T F5 H5 (add T5 (one L)) ∧ T5 L = 0 ∧ H5 L = some (.lst av) ∧ F5 L = none := by
          intro F5 H5 T5 s5
          have tl : ∀ a, T4 a + one L a ≤ 1 := fun a => by
            unfold one
            split
            · rename_i q; have := hTz a; rw [q] at this ⊢; omega
            · have := st4.le a; omega
          have oh : ∀ a, one L a ≠ 0 → H3 a ≠ none := fun a n => by
            unfold one at n
            split at n
            · rename_i q; rw [q, hl3]; simp
            · exact absurd rfl n
          obtain ⟨b1, b2, b3⟩ := s5.frame tl oh
          have oL : one L L ≠ 0 := by simp [one]
          refine ⟨s4.trans b1, b2 L oL, b3 L _ oL hl3, ?_⟩
          cases q : F5 L with
          | none => rfl
          | some o =>
            rcases s5.nF L f3 (by rw [q]; simp) with z | z
            · rw [hl3] at z; cases z
            · have := hTz L; omega
        refine ⟨F3, S3, T4, st4, ?_⟩
        cases ec : c S3 with
        | bad => rw [ec] at p; exact p.elim
        | exc x S5 => rw [ec] at p; exact p.elim
        | ok b S5 =>
          rw [ec] at p
          intro F5 H5 T5 s5 st5
          obtain ⟨g1, g2, g3, g4⟩ := fr s5
          have wback : ∀ {F6 H6 T6 S6}, St' G F6 H6 σ4 S6 T6 → ∃ T7, St' G F6 H6 (L2.wipe σ vs) (wipeS S6 vs) T7 ∧ ∀ a, T7 a ≤ T6 a := fun {F6 H6 T6 S6} st6 => by
            obtain ⟨T7, st7, l7⟩ := wipe_slots st6 vs hpn
            have ew : L2.wipe σ4 vs = L2.wipe σ vs := (wipe_eq (σ := L2.wipe σ vs) (by rw [L2.wipe_length]; exact lens) fun j hj => a4 j fun z => hj (tgv j z)).trans (wipe_wipe σ vs)
            rw [ew] at st7
            exact ⟨T7, st7, l7⟩
          cases b with
          | false =>
            obtain ⟨T7, st7, l7⟩ := wback st5
            exact ⟨F5, wipeS S5 vs, T7, av, acc, st7, g1.less fun a => by have := l7 a; simp only [add]; omega, sf3.trans s5.sF, g3, ra3.mono s5.sF, by have := l7 L; omega, g4, p⟩
          | true =>
            have p : Fin ((eDat e S5).bind fun y S => if acc.length < sizeMax then cLoop tg vs c e (ds.drop (i + 1)) (acc ++ [y]) (wipeS S vs) else .bad) := p
            refine ⟨F5, S5, T5, st5, ?_⟩
            cases ee : e S5 with
            | bad => unfold eDat M.bind at p; rw [ee] at p; exact p.elim
            | exc x S6 => unfold eDat M.bind at p; rw [ee] at p; exact p.elim
            | ok kd S6 =>
              obtain ⟨kk, dd⟩ := kd
              unfold eDat M.bind at p
              rw [ee] at p
              have p : Fin (if acc.length < sizeMax then cLoop tg vs c e (ds.drop (i + 1)) (acc ++ [dd]) (wipeS S6 vs) else .bad) := p
              by_cases hz : acc.length < sizeMax
              · rw [if_pos hz] at p
                intro v F6' H6 T6 f6 s6' st6' o6 le6 di6
                obtain ⟨F6, s6, st6, r6, _⟩ := freeze_core s6' st6' o6 le6 di6
                obtain ⟨k1, k2, k3, k4⟩ := fr (s5.trans s6)
                obtain ⟨T7, st7, l7⟩ := wback st6
                have ra6 : Reps G F6 av acc := (ra3.mono s5.sF).mono s6.sF
                have t7 : T7 L = 0 := by have := l7 L; omega
                refine ⟨av, k3, by rw [ra6.len]; exact hz, F6, wipeS S6 vs, T7, av ++ [v], acc ++ [dd], ⟨st7.pi, fun a u ea => ?_, st7.sl.mono (Same.refl F6) fun a u n ea => ?_, st7.le, st7.di⟩, ?_, (sf3.trans s5.sF).trans s6.sF, upd_same, ?_, t7, k4, p⟩
                · rw [upd_ne (fun q => by rw [q, k4] at ea; cases ea)]; exact st7.sub _ _ ea
                · rw [upd_ne (fun q => n (by rw [q]; exact t7))]; exact ea
                · refine (k1.less (T2 := add T7 (one L)) fun a => by have := l7 a; simp only [add]; omega).trans (Step.put ?_)
                  simp [add, one]
                · clear p
                  have : ∀ {xs : List V} {ys : List D}, Reps G F6 xs ys → Reps G F6 (xs ++ [v]) (ys ++ [dd]) := by
                    intro xs
                    induction xs with
                    | nil => intro ys h; cases h; exact .cons r6 .nil
                    | cons a xs ih => intro ys h; cases h with | cons h1 h2 => exact .cons h1 (ih h2)
                  exact this ra6
              · rw [if_neg hz] at p; exact p.elim
      rcases yd with ⟨e1, r⟩ | ⟨pp, vv, dd, e1, hp, e2, e3, r⟩
      · subst e1
        exact turn F2 H3 s2 st2 sf2 hl2 ra2 f2 (r.mono sf2)
      · subst e1 e2
        obtain ⟨st3, s3⟩ := st2.newF (o := .tup vv) hp
        have np : L ≠ pp := ne_of_none hl2 hp
        have tp : T2 pp = 0 := Decidable.byContradiction fun n => st2.there pp n hp
        have s3' : Step F2 H2 (add T2 (one L)) (upd F2 pp (.tup vv)) (upd H2 pp (.tup vv)) (add T2 (one L)) := Step.newF hp st2.sub (by simp only [add, one, if_neg (Ne.symm np)]; omega)
        refine turn _ _ (s2.trans s3') st3 (sf2.trans s3.sF) (by rw [upd_ne np]; exact hl2) (ra2.mono s3.sF) (by rw [upd_ne np]; exact f2) ?_
        rw [e3]
        exact .tup (.inl (.inl upd_same)) ((r.mono sf2).mono s3.sF)
  · rintro H2 ⟨F2, S2, T2, av, acc, st2, s2, sf2, hl2, ra2, t2, f2, p⟩
    rw [List.drop_length] at p
    have p : KE G F H σ T Q (.li .fz, .lst acc) (backS S0 S2 vs) := p
    obtain ⟨T3, st3, l3⟩ := back_slots st1 sf2 hc1 hc2 st2
    refine p (.ref L) F2 H2 T3 (add (one L) nil0) (s2.less fun a => by have := l3 a; simp only [add, nil0]; omega) st3 (.li hl2 (owns_fz ra2)) (fun a => ?_) fun a n => ?_
    · have l := l3 a
      simp only [add, nil0, one]
      split
      · rename_i q; rw [q] at l ⊢; omega
      · have := st2.le a; omega
    · simp only [add, nil0, one]
      split
      · rename_i q; rw [q] at n; exact absurd f2 n
      · rfl
theorem pins_ok {own : List (PySem.Str × Nat)} (h : (own.map (·.2)).all (fun v => !G.pk.contains v) = true) : ∀ v, v ∈ own.map (·.2) → v ∉ G.pk := fun v hv => pin_ok (by simpa using List.all_eq_true.mp h v hv)
theorem tr_lc {elt tg iter : Expr} {ifs : List Expr} {scope : Scope} {own : List (PySem.Str × Nat)} {pos : Pos} {it : It} {t : Tg} {c : T} {e : E} (C : Cok X G W k) (hi : TrI X G W tg iter it) (ok : BlkOk X.N X.env.scope scope own)
    (hg : ∀ (s : Shared) (H : Hp) (C : Addr) (cl : List (PySem.Str × Addr)) (fp : List Addr), TrG (X.blk s H scope (compEnvC scope cl C X.env) fp) G tg t)
    (ht : ∀ (s : Shared) (H : Hp) (C : Addr) (cl : List (PySem.Str × Addr)) (fp : List Addr), Cok (X.blk s H scope (compEnvC scope cl C X.env) fp) G W0 k → TrTs (X.blk s H scope (compEnvC scope cl C X.env) fp) G W0 ifs c)
    (he : ∀ (s : Shared) (H : Hp) (C : Addr) (cl : List (PySem.Str × Addr)) (fp : List Addr), Cok (X.blk s H scope (compEnvC scope cl C X.env) fp) G W0 k → TrE (X.blk s H scope (compEnvC scope cl C X.env) fp) G W0 elt e) (hs : ∀ x, foldedSetIterable iter X.env x = pure x := by intro _; rfl) (hpn : (own.map (·.2)).all (fun v => !G.pk.contains v) = true := by rfl) :
    TrE X G W (.ListComp elt [⟨tg, iter, ifs, 0⟩] scope pos) (eLc it t (own.map (·.2)) c e) := by
  obtain ⟨wi, p, d⟩ := hi
  have cb : ∀ (s : Shared) (H : Hp) (A : Addr) (cl : List (PySem.Str × Addr)) (fp : List Addr), Cok (X.blk s H scope (compEnvC scope cl A X.env) fp) G W0 k := fun s H A cl fp => ⟨C.hK, takes0, PassesOwn.never, C.calm, C.room, C.nd⟩
  exact ⟨_, pe_lc C.calm C.nd p ok (fun s H A cl fp => (hg s H A cl fp).can) (fun s H A cl fp => ht s H A cl fp (cb s H A cl fp)) (fun s H A cl fp => (he s H A cl fp (cb s H A cl fp)).can) hs, den_lc (pins_ok hpn) d⟩
/-- name = [..] on one line -/
theorem tr_setLc (i : Nat) {y : PySem.Str} {py : Pos} {elt tg iter : Expr} {ifs : List Expr} {scope : Scope} {own : List (PySem.Str × Nat)} {pos spos : Pos} {it : It} {t : Tg} {c : T} {e : E} (C : Cok X G W k) (hi : TrI X G W tg iter it) (ok : BlkOk X.N X.env.scope scope own)
    (hg : ∀ (s : Shared) (H : Hp) (C : Addr) (cl : List (PySem.Str × Addr)) (fp : List Addr), TrG (X.blk s H scope (compEnvC scope cl C X.env) fp) G tg t)
    (ht : ∀ (s : Shared) (H : Hp) (C : Addr) (cl : List (PySem.Str × Addr)) (fp : List Addr), Cok (X.blk s H scope (compEnvC scope cl C X.env) fp) G W0 k → TrTs (X.blk s H scope (compEnvC scope cl C X.env) fp) G W0 ifs c)
    (he : ∀ (s : Shared) (H : Hp) (C : Addr) (cl : List (PySem.Str × Addr)) (fp : List Addr), Cok (X.blk s H scope (compEnvC scope cl C X.env) fp) G W0 k → TrE (X.blk s H scope (compEnvC scope cl C X.env) fp) G W0 elt e)
    (hsw : swapsWith (.ListComp elt [⟨tg, iter, ifs, 0⟩] scope pos) (some (.Name y py)) spos.line X.env = pure true)
    (hy : X.N[i]? = some y := by rfl) (hyl : X.env.scope.names.lookup y = some .local := by rfl) (hs : ∀ x, foldedSetIterable iter X.env x = pure x := by intro _; rfl) (hpn : (own.map (·.2)).all (fun v => !G.pk.contains v) = true := by rfl) (hp : G.pk.contains i = false := by rfl) :
    TrS X G W (.Assign [.Name y py] (.ListComp elt [⟨tg, iter, ifs, 0⟩] scope pos) spos) (sSet i (eLc it t (own.map (·.2)) c e)) := by
  obtain ⟨wi, p, d⟩ := hi
  have cb : ∀ (s : Shared) (H : Hp) (A : Addr) (cl : List (PySem.Str × Addr)) (fp : List Addr), Cok (X.blk s H scope (compEnvC scope cl A X.env) fp) G W0 k := fun s H A cl fp => ⟨C.hK, takes0, PassesOwn.never, C.calm, C.room, C.nd⟩
  refine ⟨_, ps_setLc C.calm C.nd hy hyl hsw p ok (fun s H A cl fp => (hg s H A cl fp).can) (fun s H A cl fp => ht s H A cl fp (cb s H A cl fp)) (fun s H A cl fp => (he s H A cl fp (cb s H A cl fp)).can) hs, fun F H σ S T D st z => den_lc (W := W) (pins_ok hpn) d F H σ S T _ st (PRs.bind z fun kd S1 y => ?_)⟩
  obtain ⟨kk, dd⟩ := kd
  intro v F' H' T' f s' st' o le di
  show D.nx (σ.set i (some v)) H'
  have y : PRs G W F H T (KS G F H T D) (if i < S1.length then .ok .nx (S1.set i (some (kk, dd))) else .bad) := y
  by_cases hl : i < S1.length
  · rw [if_pos hl] at y
    obtain ⟨T2, st2, l2⟩ := st'.set hl (pin_ok hp) o le di
    exact (show KS G F H T D .nx _ from y) _ F' H' T2 (s'.less l2) st2
  · rw [if_neg hl] at y; exact y.elim
end
end TB

namespace TB
open PySem PyProof.Rows L2
theorem orR {X : Cx} {f : Value → Value → Sem Value} {r r' : R2} (h : OpR X f r) (h' : OpR X f r') : OpR X f (fun x y H Q => r x y H Q ∨ r' x y H Q) := by
  intro pins s σ H x y v u Q I rx ry q
  rcases q with q | q
  · exact h pins s σ H x y v u Q I rx ry q
  · exact h' pins s σ H x y v u Q I rx ry q
theorem sl_eq : sizeLine = sizeMax := rfl
theorem str_len (z : PySem.Str) : z.length = z.cps.toList.length := by simp [PySem.Str.length]
section
variable {X : Cx} {G : Cfgx} {W : WX} {k : Nat} {F H : Hp} {σ : L2.St} {S : List Slot} {T : Cnt}
theorem rep_tupN {F F' : Hp} {p : Addr} {vs : List V} {ds : List D} (e : F' p = some (.tup vs)) (r : Reps G F' vs ds) : Rep G F' (.ref p) (.tup ds) := .tup (.inl (.inl e)) r
/-- a new tuple of what is represented -/
theorem KE.newT {Q : VK} {vs : List V} {ds : List D} {S : List Slot} (h : KE G F H σ T Q (.fz, .tup ds) S) (st : St' G F H σ S T) (r : Reps G F vs ds) (p : Addr) (hp : H p = none) : Q (.ref p) (upd H p (.tup vs)) :=
  KE.newF h st (fun p => by
    by_cases n : F p = none
    · exact .inl (.tup (.inl (.inl upd_same)) (r.mono fun a u e => by rw [upd_ne (ne_of_none e n)]; exact e))
    · exact .inr n) p hp
theorem Reps.app {F : Hp} : ∀ {xs ys : List V} {as bs : List D}, Reps G F xs as → Reps G F ys bs → Reps G F (xs ++ ys) (as ++ bs)
  | _, _, _, _, .nil, h => h
  | _, _, _, _, .cons r s, h => .cons r (Reps.app s h)
theorem Reps.get {F : Hp} : ∀ {xs : List V} {as : List D} {n : Nat} {d : D}, Reps G F xs as → as[n]? = some d → ∃ v, xs[n]? = some v ∧ Rep G F v d
  | _, _, n, d, .nil, h => by simp at h
  | _, _, 0, d, .cons r s, h => by
    have e := Option.some.inj (show some _ = some d from h)
    exact ⟨_, rfl, e ▸ r⟩
  | _, _, n + 1, d, .cons r s, h => by
    obtain ⟨v, h1, h2⟩ := Reps.get (n := n) s (by simpa using h)
    exact ⟨v, by simpa using h1, h2⟩
theorem Reps.drop {F : Hp} : ∀ {xs : List V} {as : List D} (n : Nat), Reps G F xs as → Reps G F (xs.drop n) (as.drop n)
  | _, _, 0, h => h
  | _, _, _ + 1, .nil => .nil
  | _, _, n + 1, .cons _ s => Reps.drop n s
theorem Reps.take {F : Hp} : ∀ {xs : List V} {as : List D} (n : Nat), Reps G F xs as → Reps G F (xs.take n) (as.take n)
  | _, _, 0, h => .nil
  | _, _, _ + 1, .nil => .nil
  | _, _, n + 1, .cons r s => .cons r (Reps.take n s)
theorem Reps.rep {F : Hp} {xs : List V} {as : List D} (h : Reps G F xs as) : ∀ n : Nat, Reps G F (List.replicate n xs).flatten (List.replicate n as).flatten
  | 0 => by simp; exact .nil
  | n + 1 => by simp only [List.replicate_succ, List.flatten_cons]; exact h.app (h.rep n)
theorem Reps.set {F : Hp} {v : V} {d : D} (r : Rep G F v d) : ∀ {xs : List V} {as : List D} (n : Nat), Reps G F xs as → Reps G F (xs.set n v) (as.set n d)
  | _, _, _, .nil => .nil
  | _, _, 0, .cons _ s => .cons r s
  | _, _, n + 1, .cons q s => .cons q (Reps.set r n s)
theorem Reps.erase {F : Hp} : ∀ {xs : List V} {as : List D} (n : Nat), Reps G F xs as → Reps G F (xs.eraseIdx n) (as.eraseIdx n)
  | _, _, _, .nil => .nil
  | _, _, 0, .cons _ s => s
  | _, _, n + 1, .cons q s => .cons q (Reps.erase n s)
theorem Reps.ins {F : Hp} {v : V} {d : D} (r : Rep G F v d) : ∀ {xs : List V} {as : List D} (n : Nat), Reps G F xs as → Reps G F (xs.insertIdx n v) (as.insertIdx n d)
  | _, _, 0, h => by simp only [List.insertIdx_zero]; exact .cons r h
  | _, _, n + 1, .nil => by simp; exact .nil
  | _, _, n + 1, .cons q s => by simp only [List.insertIdx_succ_cons]; exact .cons q (Reps.ins r n s)
theorem Reps.rev {F : Hp} : ∀ {xs : List V} {as : List D}, Reps G F xs as → Reps G F xs.reverse as.reverse
  | _, _, .nil => .nil
  | _, _, .cons r s => by simp only [List.reverse_cons]; exact (Reps.rev s).app (.cons r .nil)

/-! ### + - * // % ** -/
theorem cls_add (hK : X.K = G.K) : ∃ r, OpR X (binaryOp .Add) r ∧ S2 G r fAdd := by
  refine ⟨_, orR op_add (orR op_add_str (orR op_cat op_catA)), fun F H σ S T x y dx dy kd Q st rx ry e k => ?_⟩
  cases rx <;> cases ry <;> simp only [fAdd, kz, reduceCtorEq] at e
  · cases e; exact .inl ⟨_, _, rfl, rfl, KE.val k st (.int _)⟩
  · rename_i z w
    split at e
    · rename_i hz
      cases e
      refine .inr (.inl ⟨z, w, rfl, rfl, by rw [str_len, str_len]; exact hz, KE.val k st ?_⟩)
      have := Rep.str (G := G) (F := F) (z ++ w)
      have e2 : (z ++ w).cps.toList = z.cps.toList ++ w.cps.toList := by
        show (z.cps ++ w.cps).toList = _
        simp
      rw [e2] at this
      exact this
    · cases e
  · rename_i a xs as h1 r1 b ys bs h2 r2
    split at e
    · rename_i hz
      cases e
      refine .inr (.inr (.inr ⟨a, b, xs, ys, rfl, rfl, hK ▸ same_t st.sub h1, hK ▸ same_t st.sub h2, by rw [r1.len, r2.len]; exact hz, fun q => ?_, fun q1 q2 => ?_, fun q1 q2 p hp => ?_⟩))
      · subst q
        cases r1
        exact KE.val k st (.tup h2 r2)
      · subst q2
        cases r2
        rw [List.append_nil] at k
        exact KE.val k st (.tup h1 r1)
      · exact KE.newT k st (r1.app r2) p hp
    · cases e
  · rename_i a xs as h1 r1 b ys bs h2 r2
    split at e
    · rename_i hz
      cases e
      exact .inr (.inr (.inl ⟨a, b, xs, ys, rfl, rfl, st.sub _ _ h1, st.sub _ _ h2, by rw [r1.len, r2.len]; exact hz, fun p hp => KE.newL k st (r1.app r2) p hp⟩))
    · cases e
theorem cls_sub : ∃ r, OpR X (binaryOp .Sub) r ∧ S2 G r fSub := by
  refine ⟨_, op_sub, fun F H σ S T x y dx dy kd Q st rx ry e k => ?_⟩
  cases rx <;> cases ry <;> simp only [fSub, kz, reduceCtorEq] at e
  cases e; exact ⟨_, _, rfl, rfl, KE.val k st (.int _)⟩
theorem log_small {i : Int} (h : small i) : i.natAbs.log2 < 1000 := PySem.Flt.log2_lt_of (by decide) (Nat.lt_of_lt_of_le h (by decide +kernel))
theorem cls_mul (hK : X.K = G.K) : ∃ r, OpR X (binaryOp .Mult) r ∧ S2 G r fMul := by
  refine ⟨_, orR op_mulW (orR op_rep op_repT), fun F H σ S T x y dx dy kd Q st rx ry e k => ?_⟩
  cases rx <;> cases ry <;> simp only [fMul, kz, reduceCtorEq] at e
  · split at e
    · rename_i hz
      cases e
      exact .inl ⟨_, _, rfl, rfl, by have := log_small hz.1; have := log_small hz.2; unfold CMulW; omega, KE.val k st (.int _)⟩
    · cases e
  · rename_i a xs as h1 r1 j
    split at e
    · rename_i hz
      cases e
      refine .inr (.inr ⟨a, j, xs, rfl, rfl, hK ▸ same_t st.sub h1, fun q => ?_, hz.2.1, by have := hz.2.2.1; omega, by rw [r1.len]; exact hz.2.2.2, fun p hp => KE.newT k st (r1.rep _) p hp⟩)
      subst q
      cases r1
      exact hz.1 rfl
    · cases e
  · rename_i a xs as h1 r1 j
    split at e
    · rename_i hz
      cases e
      refine .inr (.inl ⟨a, j, xs, rfl, rfl, st.sub _ _ h1, by omega, by omega, ?_, fun p hp => KE.newL k st (r1.rep _) p hp⟩)
      rw [r1.len]
      have : as.length * j.toNat ≤ 1000 * 1000 := Nat.mul_le_mul hz.2.2 (by omega)
      have : sizeLine = 16777216 := rfl
      omega
    · cases e
theorem cls_mod : ∃ r, OpR X (binaryOp .Mod) r ∧ S2 G r fMod := by
  refine ⟨_, op_mod, fun F H σ S T x y dx dy kd Q st rx ry e k => ?_⟩
  cases rx <;> cases ry <;> simp only [fMod, kz, reduceCtorEq] at e
  split at e
  · rename_i hz; cases e; exact ⟨_, _, rfl, rfl, hz, KE.val k st (.int _)⟩
  · cases e
theorem cls_div : ∃ r, OpR X (binaryOp .FloorDiv) r ∧ S2 G r fDiv := by
  refine ⟨_, op_fdivW, fun F H σ S T x y dx dy kd Q st rx ry e k => ?_⟩
  cases rx <;> cases ry <;> simp only [fDiv, kz, reduceCtorEq] at e
  split at e
  · rename_i hz; cases e; exact ⟨_, _, rfl, rfl, ⟨hz.1, by have := log_small hz.2; omega⟩, KE.val k st (.int _)⟩
  · cases e
theorem cls_pow : ∃ r, OpR X (binaryOp .Pow) r ∧ S2 G r fPow := by
  refine ⟨_, op_pow, fun F H σ S T x y dx dy kd Q st rx ry e k => ?_⟩
  cases rx <;> cases ry <;> simp only [fPow, kz, reduceCtorEq] at e
  split at e
  · rename_i hz; cases e; exact ⟨_, _, rfl, rfl, ⟨hz.1, by have := hz.2.1; omega, hz.2.2⟩, KE.val k st (.int _)⟩
  · cases e
/-! ### order -/
theorem cls_lt : ∃ r, OpR X (compareOp .Lt) r ∧ S2 G r fLt := by
  refine ⟨_, orR op_lt op_lt_str, fun F H σ S T x y dx dy kd Q st rx ry e k => ?_⟩
  cases rx <;> cases ry <;> simp only [fLt, kz, reduceCtorEq] at e <;> cases e
  · exact .inl ⟨_, _, rfl, rfl, KE.val k st (.bl _)⟩
  · exact .inr ⟨_, _, rfl, rfl, KE.val k st (.bl _)⟩
theorem cls_le : ∃ r, OpR X (compareOp .LtE) r ∧ S2 G r fLe := by
  refine ⟨_, orR op_le op_le_str, fun F H σ S T x y dx dy kd Q st rx ry e k => ?_⟩
  cases rx <;> cases ry <;> simp only [fLe, kz, reduceCtorEq] at e <;> cases e
  · exact .inl ⟨_, _, rfl, rfl, KE.val k st (.bl _)⟩
  · exact .inr ⟨_, _, rfl, rfl, KE.val k st (.bl _)⟩
theorem cls_gt : ∃ r, OpR X (compareOp .Gt) r ∧ S2 G r fGt := by
  refine ⟨_, orR op_gt op_gt_str, fun F H σ S T x y dx dy kd Q st rx ry e k => ?_⟩
  cases rx <;> cases ry <;> simp only [fGt, kz, reduceCtorEq] at e <;> cases e
  · exact .inl ⟨_, _, rfl, rfl, KE.val k st (.bl _)⟩
  · exact .inr ⟨_, _, rfl, rfl, KE.val k st (.bl _)⟩
theorem cls_ge : ∃ r, OpR X (compareOp .GtE) r ∧ S2 G r fGe := by
  refine ⟨_, orR op_ge op_ge_str, fun F H σ S T x y dx dy kd Q st rx ry e k => ?_⟩
  cases rx <;> cases ry <;> simp only [fGe, kz, reduceCtorEq] at e <;> cases e
  · exact .inl ⟨_, _, rfl, rfl, KE.val k st (.bl _)⟩
  · exact .inr ⟨_, _, rfl, rfl, KE.val k st (.bl _)⟩
/-! ### x[i] -/
theorem atI_of {α : Type} {xs : List α} {i : Int} {n : Nat} {v : α} (h : normIx xs.length i = some n) (e : xs[n]? = some v) : atI xs i = some v := by
  have h2 : ixN xs.length i = some n := h
  unfold atI
  rw [h2]; exact e
theorem cls_ix (hK : X.K = G.K) : ∃ r, IxR X r ∧ S2 G r fIx := by
  refine ⟨_, ix_seq, fun F H σ S T x y dx dy kd Q st rx ry e k => ?_⟩
  cases rx <;> cases ry <;> simp only [fIx, kz, reduceCtorEq] at e
  · rename_i z i
    split at e
    · rename_i hz
      cases h1 : normIx z.cps.toList.length i with
      | none => rw [h1] at e; cases e
      | some n =>
        rw [h1] at e
        have e : (z.cps.toList[n]?.bind fun c => some ((Kd.fz, D.str [c]) : KD)) = some kd := e
        cases h2 : z.cps.toList[n]? with
        | none => rw [h2] at e; cases e
        | some c =>
          rw [h2] at e
          cases e
          exact .inr (.inr ⟨z, i, c, rfl, rfl, by rw [str_len]; exact hz, atI_of h1 h2, KE.val k st (.str ⟨#[c]⟩)⟩)
    · cases e
  · rename_i a xs as h1 r1 i
    cases h2 : normIx as.length i with
    | none => rw [h2] at e; cases e
    | some n =>
      rw [h2] at e
      have e : (as[n]?.bind fun d => some ((Kd.fz, d) : KD)) = some kd := e
      cases h3 : as[n]? with
      | none => rw [h3] at e; cases e
      | some d =>
        rw [h3] at e
        cases e
        obtain ⟨v, h4, h5⟩ := r1.get h3
        exact .inr (.inl ⟨a, xs, i, v, rfl, rfl, hK ▸ same_t st.sub h1, atI_of (n := n) (by rw [r1.len]; exact h2) h4, KE.val k st h5⟩)
  · rename_i a ns h1 i
    cases h2 : normIx ns.length i with
    | none => rw [h2] at e; cases e
    | some n =>
      rw [h2] at e
      have e : (ns[n]?.bind fun j => some ((Kd.fz, D.int j) : KD)) = some kd := e
      cases h3 : ns[n]? with
      | none => rw [h3] at e; cases e
      | some j =>
        rw [h3] at e
        cases e
        exact .inl ⟨a, _, i, .int j, rfl, rfl, hK ▸ same_l st.sub h1, atI_of (n := n) (by rw [List.length_map]; exact h2) (by simp [h3]), KE.val k st (.int j)⟩
  · rename_i a xs as h1 r1 i
    cases h2 : normIx as.length i with
    | none => rw [h2] at e; cases e
    | some n =>
      rw [h2] at e
      have e : (as[n]?.bind fun d => some ((Kd.fz, d) : KD)) = some kd := e
      cases h3 : as[n]? with
      | none => rw [h3] at e; cases e
      | some d =>
        rw [h3] at e
        cases e
        obtain ⟨v, h4, h5⟩ := r1.get h3
        exact .inl ⟨a, xs, i, v, rfl, rfl, .inl (.inl (st.sub _ _ h1)), atI_of (n := n) (by rw [r1.len]; exact h2) h4, KE.val k st h5⟩
/-! ### is -/
theorem cls_isN : ∃ r, OpR X (compareOp .Is) r ∧ S2 G r fIsN := by
  refine ⟨_, op_isN, fun F H σ S T x y dx dy kd Q st rx ry e k => ?_⟩
  cases ry <;> simp only [fIsN, kz, reduceCtorEq] at e
  refine ⟨rfl, ?_⟩
  cases rx <;> cases e <;> exact KE.val k st (.bl _)
theorem cls_notN : ∃ r, OpR X (compareOp .IsNot) r ∧ S2 G r fNotN := by
  refine ⟨_, op_notN, fun F H σ S T x y dx dy kd Q st rx ry e k => ?_⟩
  cases ry <;> simp only [fNotN, kz, reduceCtorEq] at e
  refine ⟨rfl, ?_⟩
  cases rx <;> cases e <;> exact KE.val k st (.bl _)
theorem cls_isB : ∃ r, OpR X (compareOp .Is) r ∧ S2 G r fIsB := by
  refine ⟨_, op_isBl, fun F H σ S T x y dx dy kd Q st rx ry e k => ?_⟩
  cases rx <;> cases ry <;> simp only [fIsB, kz, reduceCtorEq] at e
  cases e; exact ⟨_, _, rfl, rfl, KE.val k st (.bl _)⟩
theorem cls_notB : ∃ r, OpR X (compareOp .IsNot) r ∧ S2 G r fNotB := by
  refine ⟨_, op_notBl, fun F H σ S T x y dx dy kd Q st rx ry e k => ?_⟩
  cases rx <;> cases ry <;> simp only [fNotB, kz, reduceCtorEq] at e
  cases e; exact ⟨_, _, rfl, rfl, KE.val k st (.bl _)⟩
/-! ### built-in functions -/
theorem sn1 {r : List V → Hp → VK → Prop} {f : List D → Option KD} : True := trivial
theorem cls_len (hK : X.K = G.K) : ∃ r, CallR X (.builtin "len") r ∧ SN G r fLen := by
  refine ⟨_, call_len, fun F H σ S T xs ds kd Q st rs e k => ?_⟩
  cases rs with
  | nil => simp [fLen] at e
  | cons r1 r2 =>
    cases r2 with
    | cons _ _ => cases r1 <;> simp [fLen] at e
    | nil =>
      cases r1 <;> simp only [fLen, kz, reduceCtorEq] at e
      · rename_i z
        split at e
        · rename_i hz
          cases e
          exact ⟨_, z.length, rfl, ⟨by rw [str_len]; exact hz, rfl⟩, by rw [str_len]; exact KE.val k st (.int _)⟩
        · cases e
      · rename_i a xs as h1 r1
        cases e
        exact ⟨_, as.length, rfl, .inr ⟨_, hK ▸ same_t st.sub h1, by rw [r1.len]⟩, KE.val k st (.int _)⟩
      · rename_i a ns h1
        cases e
        exact ⟨_, ns.length, rfl, .inl ⟨_, hK ▸ same_l st.sub h1, by rw [List.length_map]⟩, KE.val k st (.int _)⟩
      · rename_i a xs as h1 r1
        cases e
        exact ⟨_, as.length, rfl, .inl ⟨_, .inl (.inl (st.sub _ _ h1)), by rw [r1.len]⟩, KE.val k st (.int _)⟩
theorem cls_intB : ∃ r, CallR X (.type "int") r ∧ SN G r fIntB := by
  refine ⟨_, call_int1, fun F H σ S T xs ds kd Q st rs e k => ?_⟩
  cases rs with
  | nil => simp [fIntB] at e
  | cons r1 r2 =>
    cases r2 with
    | cons _ _ => cases r1 <;> simp [fIntB] at e
    | nil =>
      cases r1 <;> simp only [fIntB, kz, reduceCtorEq] at e <;> cases e
      · exact .inr ⟨_, rfl, KE.val k st (.int _)⟩
      · exact .inl ⟨_, rfl, KE.val k st (.int _)⟩
theorem cls_min2 (hc : X.calm = true) : ∃ r, CallR X (.builtin "min") r ∧ SN G r fMin2 := by
  refine ⟨_, call_min2 hc, fun F H σ S T xs ds kd Q st rs e k => ?_⟩
  rcases rs with _ | ⟨r1, _ | ⟨r2, _ | ⟨r3, r4⟩⟩⟩
  · simp [fMin2] at e
  · cases r1 <;> simp [fMin2] at e
  · cases r1 <;> cases r2 <;> simp only [fMin2, kz, reduceCtorEq] at e
    cases e; exact ⟨_, _, rfl, KE.val k st (.int _)⟩
  · cases r1 <;> cases r2 <;> simp [fMin2] at e
theorem cls_max2 (hc : X.calm = true) : ∃ r, CallR X (.builtin "max") r ∧ SN G r fMax2 := by
  refine ⟨_, call_max2 hc, fun F H σ S T xs ds kd Q st rs e k => ?_⟩
  rcases rs with _ | ⟨r1, _ | ⟨r2, _ | ⟨r3, r4⟩⟩⟩
  · simp [fMax2] at e
  · cases r1 <;> simp [fMax2] at e
  · cases r1 <;> cases r2 <;> simp only [fMax2, kz, reduceCtorEq] at e
    cases e; exact ⟨_, _, rfl, KE.val k st (.int _)⟩
  · cases r1 <;> cases r2 <;> simp [fMax2] at e
theorem reps_keys {F : Hp} : ∀ {kvs : List (Key × V)} {ks : List D}, ks = kvs.map (fun p => keyD p.1) → Reps G F (kvs.map fun p => kV p.1) ks
  | [], _, h => by subst h; exact .nil
  | (k, v) :: r, _, h => by
    subst h
    refine .cons ?_ (reps_keys rfl)
    cases k with
    | inl i => exact .int i
    | inr z => exact .str z
theorem cls_list (hK : X.K = G.K) (hc : X.calm = true) : ∃ r, CallR X (.type "list") r ∧ SN G r fList := by
  refine ⟨_, call_list_of.or (call_list_dK hc), fun F H σ S T xs ds kd Q st rs e k => ?_⟩
  rcases rs with _ | ⟨r1, _ | ⟨r2, r3⟩⟩
  · simp [fList] at e
  · cases r1 <;> simp only [fList, kz, reduceCtorEq] at e <;> cases e
    · rename_i a xs as h1 r1
      exact .inl ⟨a, xs, rfl, .inr (hK ▸ same_t st.sub h1), fun p hp => KE.newL k st r1 p hp⟩
    · rename_i a xs as h1 r1
      exact .inl ⟨a, xs, rfl, .inl (.inl (.inl (st.sub _ _ h1))), fun p hp => KE.newL k st r1 p hp⟩
    · rename_i a kvs kds h1 hk r1
      exact .inr ⟨a, kvs, rfl, st.sub _ _ h1, fun p hp => KE.newL k st (reps_keys hk) p hp⟩
  · cases r1 <;> simp [fList] at e
theorem cls_tuple (hK : X.K = G.K) : ∃ r, CallR X (.type "tuple") r ∧ SN G r fTuple := by
  refine ⟨_, call_tuple_of, fun F H σ S T xs ds kd Q st rs e k => ?_⟩
  rcases rs with _ | ⟨r1, _ | ⟨r2, r3⟩⟩
  · simp [fTuple] at e
  · cases r1 <;> simp only [fTuple, kz, reduceCtorEq] at e <;> cases e
    · rename_i a xs as h1 r1
      exact ⟨a, xs, rfl, .inr ⟨hK ▸ same_t st.sub h1, KE.val k st (.tup h1 r1)⟩⟩
    · rename_i a xs as h1 r1
      exact ⟨a, xs, rfl, .inl ⟨.inl (.inl (st.sub _ _ h1)), fun p hp => KE.newT k st r1 p hp⟩⟩
  · cases r1 <;> simp [fTuple] at e
theorem bools_of {F : Hp} : ∀ {xs : List V} {ds : List D} {bs : List Bool}, Reps G F xs ds → boolsOf ds = some bs → xs = bs.map V.bl
  | _, _, _, .nil, h => by cases h; rfl
  | _, _, bs, .cons r s, h => by
    cases r <;> simp only [boolsOf, reduceCtorEq] at h
    rename_i b
    cases q : boolsOf _ with
    | none => rw [q] at h; cases h
    | some l => rw [q] at h; cases h; rw [bools_of s q]; rfl
theorem cls_all (hK : X.K = G.K) (hc : X.calm = true) : ∃ r, CallR X (.builtin "all") r ∧ SN G r fAllB := by
  refine ⟨_, cr_all hc, fun F H σ S T xs ds kd Q st rs e k => ?_⟩
  rcases rs with _ | ⟨r1, _ | ⟨r2, r3⟩⟩
  · simp [fAllB] at e
  · cases r1 <;> simp only [fAllB, kz, reduceCtorEq] at e
    rename_i a xs as h1 r1
    cases q : boolsOf as with
    | none => rw [q] at e; cases e
    | some bs =>
      rw [q] at e
      cases e
      exact ⟨a, bs, rfl, .inl (.inl (by rw [← bools_of r1 q]; exact st.sub _ _ h1)), KE.val k st (.bl _)⟩
  · cases r1 <;> simp [fAllB] at e
/-! ### in, for one sign in a text -/
theorem one_sign {z : PySem.Str} {c : Nat} (h : z.cps.toList = [c]) : z = ⟨#[c]⟩ := by
  cases z with
  | mk a =>
    have : a = #[c] := by
      apply Array.toList_inj.mp
      exact h
    rw [this]
theorem cls_inS : ∃ r, OpR X (compareOp .In) r ∧ S2 G r fInS := by
  refine ⟨_, op_in_sign, fun F H σ S T x y dx dy kd Q st rx ry e k => ?_⟩
  cases rx <;> cases ry <;> try (simp [fInS] at e; done)
  rename_i z w
  cases q : z.cps.toList with
  | nil => rw [q] at e; simp [fInS] at e
  | cons c l =>
    cases l with
    | cons a b => rw [q] at e; simp [fInS] at e
    | nil =>
      rw [q] at e
      simp only [fInS, kz] at e
      cases e
      exact ⟨c, w, by rw [one_sign q], rfl, KE.val k st (.bl _)⟩
theorem cls_notInS : ∃ r, OpR X (compareOp .NotIn) r ∧ S2 G r fNotInS := by
  refine ⟨_, op_notIn_sign, fun F H σ S T x y dx dy kd Q st rx ry e k => ?_⟩
  cases rx <;> cases ry <;> try (simp [fNotInS] at e; done)
  rename_i z w
  cases q : z.cps.toList with
  | nil => rw [q] at e; simp [fNotInS] at e
  | cons c l =>
    cases l with
    | cons a b => rw [q] at e; simp [fNotInS] at e
    | nil =>
      rw [q] at e
      simp only [fNotInS, kz] at e
      cases e
      exact ⟨c, w, by rw [one_sign q], rfl, KE.val k st (.bl _)⟩
end
end TB

namespace TB
open PySem PyProof.Rows L2
/-! ### == -/
mutual
def toPy : D → PyData
  | .non => .none
  | .bl b => .bool b
  | .int i => .int i
  | .str s => .str ⟨s.toArray⟩
  | .lst xs => .list (toPys xs)
  | .tup xs => .tuple (toPys xs)
  | _ => .none
def toPys : List D → List PyData
  | [] => []
  | x :: xs => toPy x :: toPys xs
end
mutual
theorem eqv_py : ∀ (n m : Nat) (x y : D), x.lay n = true → y.lay m = true → PyData.eqv (toPy x) (toPy y) = D.eqv x y := by
  intro n m x y hx hy
  cases x with
  | non => cases y <;> first | (simp [D.lay] at hy; done) | simp [toPy, PyData.eqv, D.eqv]
  | bl a => cases y <;> first | (simp [D.lay] at hy; done) | simp [toPy, PyData.eqv, D.eqv]
  | int i => cases y <;> first | (simp [D.lay] at hy; done) | simp [toPy, PyData.eqv, D.eqv]
  | str s =>
    cases y with
    | str t =>
      simp only [toPy, PyData.eqv, D.eqv]
      by_cases e : s = t
      · subst e; simp
      · rw [beq_eq_false_iff_ne.mpr e]
        refine beq_eq_false_iff_ne.mpr fun q => e ?_
        have : s.toArray = t.toArray := congrArg PySem.Str.cps q
        simpa using this
    | _ => first | (simp [D.lay] at hy; done) | simp [toPy, PyData.eqv, D.eqv]
  | lst xs =>
    cases n with
    | zero => simp [D.lay] at hx
    | succ n =>
      cases y with
      | lst ys =>
        cases m with
        | zero => simp [D.lay] at hy
        | succ m =>
          simp only [toPy, PyData.eqv, D.eqv]
          exact eqv_pys n m xs ys (by simpa [D.lay] using hx) (by simpa [D.lay] using hy)
      | _ => first | (simp [D.lay] at hy; done) | simp [toPy, PyData.eqv, D.eqv]
  | tup xs =>
    cases n with
    | zero => simp [D.lay] at hx
    | succ n =>
      cases y with
      | tup ys =>
        cases m with
        | zero => simp [D.lay] at hy
        | succ m =>
          simp only [toPy, PyData.eqv, D.eqv]
          exact eqv_pys n m xs ys (by simpa [D.lay] using hx) (by simpa [D.lay] using hy)
      | _ => first | (simp [D.lay] at hy; done) | simp [toPy, PyData.eqv, D.eqv]
  | _ => simp [D.lay] at hx
theorem eqv_pys : ∀ (n m : Nat) (xs ys : List D), D.lays n xs = true → D.lays m ys = true → PyData.eqvAll (toPys xs) (toPys ys) = D.eqvs xs ys
  | _, _, [], [], _, _ => rfl
  | _, _, [], _ :: _, _, _ => rfl
  | _, _, _ :: _, [], _, _ => rfl
  | n, m, x :: xs, y :: ys, hx, hy => by
    unfold D.lays at hx hy
    obtain ⟨h1, h2⟩ := Bool.and_eq_true_iff.mp hx
    obtain ⟨h3, h4⟩ := Bool.and_eq_true_iff.mp hy
    simp only [toPys, PyData.eqvAll, D.eqvs]
    rw [eqv_py n m x y h1 h3, eqv_pys n m xs ys h2 h4]
end
mutual
theorem lay_py : ∀ (n : Nat) (x : D), x.lay n = true → (toPy x).canLay0 = true ∧ (toPy x).depth ≤ n := by
  intro n x hx
  cases x with
  | str s =>
    refine ⟨?_, Nat.zero_le _⟩
    simp only [toPy, PyData.canLay0]
    have : s.all (· < 1114112) = true := by cases n <;> simpa [D.lay] using hx
    show (s.toArray.all (· < 0x110000)) = true
    simpa using this
  | lst xs =>
    cases n with
    | zero => simp [D.lay] at hx
    | succ n =>
      obtain ⟨a, b⟩ := lays_py n xs (by simpa [D.lay] using hx)
      exact ⟨by simpa [toPy, PyData.canLay0] using a, by simp only [toPy, PyData.depth]; omega⟩
  | tup xs =>
    cases n with
    | zero => simp [D.lay] at hx
    | succ n =>
      obtain ⟨a, b⟩ := lays_py n xs (by simpa [D.lay] using hx)
      exact ⟨by simpa [toPy, PyData.canLay0] using a, by simp only [toPy, PyData.depth]; omega⟩
  | non => exact ⟨rfl, Nat.zero_le _⟩
  | bl b => exact ⟨rfl, Nat.zero_le _⟩
  | int i => exact ⟨rfl, Nat.zero_le _⟩
  | _ => simp [D.lay] at hx
theorem lays_py : ∀ (n : Nat) (xs : List D), D.lays n xs = true → PyData.canLayAll0 (toPys xs) = true ∧ PyData.depthAll (toPys xs) ≤ n
  | _, [], _ => ⟨rfl, Nat.zero_le _⟩
  | n, x :: xs, h => by
    unfold D.lays at h
    obtain ⟨h1, h2⟩ := Bool.and_eq_true_iff.mp h
    obtain ⟨a, b⟩ := lay_py n x h1
    obtain ⟨c, d⟩ := lays_py n xs h2
    exact ⟨by simp [toPys, PyData.canLayAll0, a, c], by simp only [toPys, PyData.depthAll]; omega⟩
end
section
variable {X : Cx} {G : Cfgx} {W : WX} {k : Nat} {F H : Hp} {σ : L2.St} {S : List Slot} {T : Cnt}
mutual
theorem dp_of : ∀ (n : Nat) (d : D) (v : V), d.lay n = true → Rep G F v d → Dp G.K F v (toPy d)
  | n, d, v, hl, r => by
    cases r with
    | non => exact .non
    | bl b => exact .bl b
    | int i => exact .int i
    | str z =>
      have e : toPy (.str z.cps.toList) = .str z := by simp [toPy]
      rw [e]; exact .str z
    | tup h rs =>
      cases n with
      | zero => simp [D.lay] at hl
      | succ n => exact .tup h (dps_of n _ _ (by simpa [D.lay] using hl) rs)
    | lst h rs =>
      cases n with
      | zero => simp [D.lay] at hl
      | succ n => exact .lst (.inl (.inl h)) (dps_of n _ _ (by simpa [D.lay] using hl) rs)
    | _ => simp [D.lay] at hl
theorem dps_of : ∀ (n : Nat) (ds : List D) (vs : List V), D.lays n ds = true → Reps G F vs ds → DpAll G.K F vs (toPys ds)
  | n, [], vs, hl, r => by cases r; exact .nil
  | n, d :: ds, vs, hl, r => by
    unfold D.lays at hl
    obtain ⟨h1, h2⟩ := Bool.and_eq_true_iff.mp hl
    cases r with
    | cons a b => exact .cons (dp_of n d _ h1 a) (dps_of n ds _ h2 b)
end
theorem flat_lay {d : D} (h : d.flat = true) (hs : ∀ s, d ≠ .str s) : d.lay 0 = true := by
  cases d <;> first | rfl | (cases h; done) | exact absurd rfl (hs _)
theorem eq_core (hK : X.K = G.K) {x y : V} {dx dy : D} (st : St' G F H σ S T) (rx : Rep G F x dx) (ry : Rep G F y dy) (h : eqOk dx dy = true) :
    (L2.scal x y = true ∧ decide (x = y) = D.eqv dx dy) ∨ ∃ d e, Dp X.K H x d ∧ Dp X.K H y e ∧ SeqAt.shaped d = true ∧ SeqAt.shaped e = true ∧ PyData.eqv d e = D.eqv dx dy := by
  have deep : ∀ n m, n ≤ 64 → m ≤ 64 → dx.lay n = true → dy.lay m = true → ∃ d e, Dp X.K H x d ∧ Dp X.K H y e ∧ SeqAt.shaped d = true ∧ SeqAt.shaped e = true ∧ PyData.eqv d e = D.eqv dx dy := by
    intro n m hn hm h1 h2
    have q1 := lay_py n dx h1
    have q2 := lay_py m dy h2
    refine ⟨toPy dx, toPy dy, ?_, ?_, ?_, ?_, eqv_py n m dx dy h1 h2⟩
    · rw [hK]; exact dp_of n dx x h1 (rx.mono st.sub)
    · rw [hK]; exact dp_of m dy y h2 (ry.mono st.sub)
    · exact Bool.and_eq_true_iff.mpr ⟨q1.1, decide_eq_true (by omega)⟩
    · exact Bool.and_eq_true_iff.mpr ⟨q2.1, decide_eq_true (by omega)⟩
  unfold eqOk at h
  rcases Bool.or_eq_true_iff.mp h with h | h
  · obtain ⟨h1, h2⟩ := Bool.and_eq_true_iff.mp h
    cases rx with
    | str z =>
      refine .inl ?_
      cases ry with
      | str w =>
        refine ⟨rfl, ?_⟩
        simp only [D.eqv]
        by_cases e : z = w
        · subst e; simp
        · rw [decide_eq_false (fun q => e (V.str.inj q))]
          refine (beq_eq_false_iff_ne.mpr fun q => e ?_).symm
          cases z; cases w
          have : _ = _ := Array.toList_inj.mp q
          simp at this
          rw [this]
      | non => exact ⟨rfl, rfl⟩
      | bl b => exact ⟨rfl, rfl⟩
      | int i => exact ⟨rfl, rfl⟩
      | _ => cases h2
    | non =>
      cases ry with
      | str w => exact .inl ⟨rfl, rfl⟩
      | non => exact .inl ⟨rfl, rfl⟩
      | bl b => exact .inl ⟨rfl, rfl⟩
      | int i => exact .inl ⟨rfl, rfl⟩
      | _ => cases h2
    | bl a =>
      cases ry with
      | str w => exact .inl ⟨rfl, rfl⟩
      | non => exact .inl ⟨rfl, rfl⟩
      | bl b => exact .inr (deep 0 0 (by omega) (by omega) rfl rfl)
      | int i => exact .inr (deep 0 0 (by omega) (by omega) rfl rfl)
      | _ => cases h2
    | int a =>
      cases ry with
      | str w => exact .inl ⟨rfl, rfl⟩
      | non => exact .inl ⟨rfl, rfl⟩
      | bl b => exact .inr (deep 0 0 (by omega) (by omega) rfl rfl)
      | int i => exact .inr (deep 0 0 (by omega) (by omega) rfl rfl)
      | _ => cases h2
    | _ => cases h1
  · obtain ⟨h1, h2⟩ := Bool.and_eq_true_iff.mp h
    exact .inr (deep 60 60 (by omega) (by omega) h1 h2)
theorem cls_eq (hK : X.K = G.K) (hr : Room k X.A) : ∃ r, OpR X (compareOp .Eq) r ∧ S2 G r fEq := by
  refine ⟨_, orR op_eq (op_eqD hr.units), fun F H σ S T x y dx dy kd Q st rx ry e k => ?_⟩
  unfold fEq kz at e
  split at e
  · rename_i h
    cases e
    rcases eq_core hK st rx ry h with ⟨h1, h2⟩ | ⟨d, e, h1, h2, h3, h4, h5⟩
    · exact .inl ⟨h1, by rw [h2]; exact KE.val k st (.bl _)⟩
    · exact .inr ⟨d, e, h1, h2, h3, h4, by rw [h5]; exact KE.val k st (.bl _)⟩
  · cases e
theorem cls_ne (hK : X.K = G.K) (hr : Room k X.A) : ∃ r, OpR X (compareOp .NotEq) r ∧ S2 G r fNe := by
  refine ⟨_, orR op_ne (op_neD hr.units), fun F H σ S T x y dx dy kd Q st rx ry e k => ?_⟩
  unfold fNe kz at e
  split at e
  · rename_i h
    cases e
    rcases eq_core hK st rx ry h with ⟨h1, h2⟩ | ⟨d, e, h1, h2, h3, h4, h5⟩
    · exact .inl ⟨h1, by rw [h2]; exact KE.val k st (.bl _)⟩
    · exact .inr ⟨d, e, h1, h2, h3, h4, by rw [h5]; exact KE.val k st (.bl _)⟩
  · cases e
/-! ### in, over a list or a tuple of flat data -/
theorem flatV_of {F : Hp} {v : V} {d : D} (r : Rep G F v d) (h : d.flat = true) : flatV v = true := by
  cases r <;> first | rfl | cases h
theorem flats_of {F : Hp} : ∀ {vs : List V} {ds : List D}, Reps G F vs ds → ds.all D.flat = true → vs.all flatV = true
  | _, _, .nil, _ => rfl
  | _, _, .cons r s, h => by
    obtain ⟨h1, h2⟩ := Bool.and_eq_true_iff.mp (show (D.flat _ && List.all _ D.flat) = true from h)
    show (flatV _ && List.all _ flatV) = true
    rw [flatV_of r h1, flats_of s h2]; rfl
theorem eqV_of {F : Hp} {x y : V} {dx dy : D} (rx : Rep G F x dx) (ry : Rep G F y dy) (hx : dx.flat = true) (hy : dy.flat = true) : eqV x y = D.eqv dx dy := by
  cases rx <;> cases ry <;> first | (cases hx; done) | (cases hy; done) | (simp [eqV, D.eqv]; done) | skip
  rename_i z w
  simp only [eqV, D.eqv]
  by_cases e : z = w
  · subst e; simp
  · rw [beq_eq_false_iff_ne.mpr e]
    refine (beq_eq_false_iff_ne.mpr fun q => e ?_).symm
    cases z; cases w
    have : _ = _ := Array.toList_inj.mp q
    simp at this
    rw [this]
theorem inV_of {F : Hp} {x : V} {dx : D} (rx : Rep G F x dx) (hx : dx.flat = true) : ∀ {vs : List V} {ds : List D}, Reps G F vs ds → ds.all D.flat = true → inV x vs = ds.any fun y => D.eqv y dx
  | _, _, .nil, _ => rfl
  | _, _, .cons r s, h => by
    obtain ⟨h1, h2⟩ := Bool.and_eq_true_iff.mp (show (D.flat _ && List.all _ D.flat) = true from h)
    show (eqV _ x || inV x _) = _
    rw [eqV_of r rx h1 hx, inV_of rx hx s h2]; rfl
theorem in_core (hK : X.K = G.K) {x y : V} {dx dy : D} {ys : List D} (st : St' G F H σ S T) (rx : Rep G F x dx) (ry : Rep G F y dy) (e : itemsOf dy = some ys) (h : (dx.flat && ys.all D.flat) = true) :
    ∃ p vs, y = .ref p ∧ (SqL X.K H p vs ∨ SqT X.K H p vs) ∧ flatV x = true ∧ vs.all flatV = true ∧ inV x vs = ys.any fun y => D.eqv y dx := by
  obtain ⟨h1, h2⟩ := Bool.and_eq_true_iff.mp h
  cases ry with
  | tup hs rs => cases e; exact ⟨_, _, rfl, .inr (hK ▸ same_t st.sub hs), flatV_of rx h1, flats_of rs h2, inV_of rx h1 rs h2⟩
  | lst hs rs => cases e; exact ⟨_, _, rfl, .inl (.inl (.inl (st.sub _ _ hs))), flatV_of rx h1, flats_of rs h2, inV_of rx h1 rs h2⟩
  | _ => cases e
theorem cls_in (hK : X.K = G.K) : ∃ r, OpR X (compareOp .In) r ∧ S2 G r fIn := by
  refine ⟨_, op_in_seq, fun F H σ S T x y dx dy kd Q st rx ry e k => ?_⟩
  unfold fIn kz at e
  cases q : itemsOf dy with
  | none => rw [q] at e; cases e
  | some ys =>
    simp only [q] at e
    split at e
    · rename_i h
      cases e
      obtain ⟨p, vs, h1, h2, h3, h4, h5⟩ := in_core hK st rx ry q h
      exact ⟨p, vs, h1, h2, h3, h4, by show Q (.bl (inV x vs)) H; rw [h5]; exact KE.val k st (.bl _)⟩
    · cases e
theorem cls_notIn (hK : X.K = G.K) : ∃ r, OpR X (compareOp .NotIn) r ∧ S2 G r fNotIn := by
  refine ⟨_, op_notIn_seq, fun F H σ S T x y dx dy kd Q st rx ry e k => ?_⟩
  unfold fNotIn kz at e
  cases q : itemsOf dy with
  | none => rw [q] at e; cases e
  | some ys =>
    simp only [q] at e
    split at e
    · rename_i h
      cases e
      obtain ⟨p, vs, h1, h2, h3, h4, h5⟩ := in_core hK st rx ry q h
      exact ⟨p, vs, h1, h2, h3, h4, by show Q (.bl (!inV x vs)) H; rw [h5]; exact KE.val k st (.bl _)⟩
    · cases e
/-! ### isinstance -/
def Ty.nm : Ty → String
  | .int => "int"
  | .bool => "bool"
  | .str => "str"
  | .list => "list"
  | .tuple => "tuple"
def D.nm : D → Option String
  | .non => some "NoneType"
  | .bl _ => some "bool"
  | .int _ => some "int"
  | .str _ => some "str"
  | .lst _ => some "list"
  | .tup _ => some "tuple"
  | _ => none
theorem isTy_kit {t : Ty} {d : D} {b : Bool} (h : d.isTy t = some b) : ∃ n, d.nm = some n ∧ kitB n t.nm = some b := by
  cases t <;> cases d <;> simp only [D.isTy, reduceCtorEq] at h <;> (cases h; exact ⟨_, rfl, by decide +kernel⟩)
theorem tyx_of {F : Hp} {v : V} {d : D} {n : String} (r : Rep G F v d) (h : d.nm = some n) : TyX G.K F v (.type n) := by
  cases r <;> simp only [D.nm, reduceCtorEq] at h <;> cases h
  · exact .base .non
  · exact .base (.bl _)
  · exact .base (.int _)
  · exact .base (.str _)
  · rename_i a vs ds hs rs
    rcases hs with (hs | ⟨o, hs⟩) | ⟨o, its, m, hk, hc, _⟩
    · exact .base (.tup hs)
    · exact .fTuple hs
    · exact .kTuple hk hc
  · rename_i a vs ds hs rs
    exact .base (.lst hs)
theorem tr_isi (t : Ty) {e : Expr} {m : E} {p p2 pos : Pos} {x : PySem.Str} (C : Cok X G W k) (h : TrE X G W e m) (hm : X.mg "isinstance" = none) (hm2 : X.mg x = none) (hx : bootBuiltins x = some (.type t.nm)) (hn : x ≠ "__name__" := by decide) (hd : (x == ("__debug__" : PySem.Str)) = false := by decide)
    (hg : Gl X "isinstance" := by rfl) (hg2 : Gl X x := by rfl) (he : starEach [e, .Name x p2] X.env = (false, eval e X.env) :: starEach [.Name x p2] X.env := by rfl) (he2 : starEach [.Name x p2] X.env = (false, eval (.Name x p2) X.env) :: starEach [] X.env := by rfl)
    (hpl : (backTo pos (starEach [.Name x p2] X.env)).any (·.1) = false := by rfl) : TrE X G W (.Call (.Name "isinstance" p) [e, .Name x p2] [] pos) (eIsi t m) := by
  obtain ⟨u, q, d⟩ := h
  refine ⟨_, pe_callB call_isi hg hm (by decide +kernel) (pa_cons q (pa_cons (pe_bltn (v := .ty t.nm) hg2 hm2 hx rfl hn hd) pa_nil he2) he) (by decide) (by decide) he hpl, fun F H σ S T Q st z => ?_⟩
  refine d.dat F H σ S T _ st (PR.bind z fun dd S1 y => ?_)
  intro v F1 H1 T1 s1 st1 r1
  have y : PR G W F H σ T (KE G F H σ T Q) (ofO (fIsi t dd) S1) := y
  unfold fIsi at y
  cases e1 : dd.isTy t with
  | none => rw [e1] at y; exact y.elim
  | some b =>
    rw [e1] at y
    have y : KE G F H σ T Q (.fz, .bl b) S1 := y
    obtain ⟨n, h1, h2⟩ := isTy_kit e1
    exact ⟨v, .ty t.nm, .type n, .type t.nm, b, rfl, .ty _, C.hK ▸ tyx_of (r1.mono st1.sub) h1, kit_ty h2, KE.val (y.re s1) st1 (.bl b)⟩
end
end TB

namespace TB
open PySem PyProof.Rows L2
/-! ### what a function promises -/
inductive Args (G : Cfg) (F H : Hp) : List KD → List V → Cnt → Prop
  | nil : Args G F H [] [] nil0
  | cons {k : Kd} {d : D} {v : V} {as : List KD} {vs : List V} {f g : Cnt} : Own G F H k v d f → Args G F H as vs g → Args G F H ((k, d) :: as) (v :: vs) (add f g)
/-- the owned arguments behind the call -/
inductive Outs (G : Cfg) (F H : Hp) : List KD → List V → List KD → Cnt → Prop
  | nil : Outs G F H [] [] [] nil0
  | skip {k : Kd} {d : D} {v : V} {as : List KD} {vs : List V} {os : List KD} {g : Cnt} : k.isF = true → Outs G F H as vs os g → Outs G F H ((k, d) :: as) (v :: vs) os g
  | own {k k' : Kd} {d d' : D} {v : V} {as : List KD} {vs : List V} {os : List KD} {f g : Cnt} : k.isF = false → k'.isF = false → Own G F H k' v d' f → Outs G F H as vs os g → Outs G F H ((k, d) :: as) (v :: vs) ((k', d') :: os) (add f g)
def spF (G : Cfg) (n : Nat) (fn : Fn) : Sp := fun vs H Q E => ∃ F T as, vs.length = n ∧ Same F H ∧ Args G F H as vs T ∧ (∀ a, T a ≤ 1) ∧ (∀ a, F a ≠ none → T a = 0) ∧ match fn as with
  | .ret r os => ∀ v F' H' T' f, Step F H T F' H' (add T' f) → Same F' H' → Outs G F' H' as vs os T' → Own G F' H' r.1 v r.2 f → (∀ a, T' a + f a ≤ 1) → (∀ a, F' a ≠ none → T' a + f a = 0) → Q v H'
  | .exc x os => ∀ cls dx F' H' T', Step F H T F' H' T' → Same F' H' → Outs G F' H' as vs os T' → (∀ a, T' a ≤ 1) → (∀ a, F' a ≠ none → T' a = 0) → ExcR G x cls dx H' → E cls dx H'
  | .bad => False
theorem Args.len {G : Cfg} {F H : Hp} {as : List KD} {vs : List V} {T : Cnt} (h : Args G F H as vs T) : as.length = vs.length := by
  induction h with
  | nil => rfl
  | cons _ _ ih => simp [ih]
theorem slots_none {G : Cfg} {F H : Hp} : ∀ n, Slots G F H (List.replicate n none) (List.replicate n none) nil0
  | 0 => .nil
  | n + 1 => by
    have : Slots G F H (none :: List.replicate n none) (none :: List.replicate n none) (add nil0 nil0) := .cons (.no none) (slots_none n)
    exact this
theorem Args.slots {G : Cfg} {F H : Hp} {as : List KD} {vs : List V} {T : Cnt} (h : Args G F H as vs T) (n : Nat) : Slots G F H (vs.map some ++ List.replicate n none) (as.map some ++ List.replicate n none) T := by
  induction h with
  | nil => exact slots_none n
  | cons o _ ih => exact .cons (.yes o) ih
theorem outs_of {G : Cfg} {F H : Hp} : ∀ {as : List KD} {vs : List V} {S : List Slot} {σ : L2.St} {T : Cnt} {os : List KD} (i : Nat), Slots G F H σ S T → (∀ j (h : j < vs.length), (match as[j]? with | some a => a.1.isF = false | none => False) → σ[j]? = some (some vs[j])) →
    as.length = vs.length → outsOf as S = some os → ∃ T', Outs G F H as vs os T' ∧ ∀ a, T' a ≤ T a
  | [], [], _, _, _, _, _, _, _, _, e => by
    unfold outsOf at e; cases e; exact ⟨nil0, .nil, fun a => Nat.zero_le _⟩
  | [], _ :: _, _, _, _, _, _, _, _, hl, _ => by simp at hl
  | _ :: _, [], _, _, _, _, _, _, _, hl, _ => by simp at hl
  | (k, d) :: as, v :: vs, S, σ, T, os, i, hs, hp, hl, e => by
    cases hs with
    | nil => unfold outsOf at e; cases e
    | @cons w s f g σ S h1 h2 =>
      unfold outsOf at e
      have hl' : as.length = vs.length := by simpa using hl
      have hp' : ∀ j (h : j < vs.length), (match as[j]? with | some a => a.1.isF = false | none => False) → σ[j]? = some (some vs[j]) := fun j h z => by
        have := hp (j + 1) (by simp; omega) (by simpa using z)
        simpa using this
      cases hk : k.isF with
      | true =>
        rw [hk, if_pos rfl] at e
        obtain ⟨T', o, l⟩ := outs_of (i + 1) h2 hp' hl' e
        exact ⟨T', .skip hk o, fun a => by have := l a; simp only [add]; omega⟩
      | false =>
        rw [hk, if_neg (by simp)] at e
        cases s with
        | none => cases e
        | some kd =>
          obtain ⟨k', d'⟩ := kd
          cases hk' : k'.isF with
          | true => simp [hk'] at e
          | false =>
            simp only [hk', Bool.false_eq_true, if_false] at e
            cases e2 : outsOf as S with
            | none => rw [e2] at e; cases e
            | some os2 =>
              rw [e2] at e
              cases e
              obtain ⟨T', o, l⟩ := outs_of (i + 1) h2 hp' hl' e2
              cases h1 with
              | @yes k1 v1 d1 f1 ow =>
                have := hp 0 (by simp) (by simpa using hk)
                have ev : v1 = v := by simpa using this
                subst ev
                exact ⟨add f T', .own hk hk' ow o, fun a => by have := l a; simp only [add]; omega⟩
theorem pinned_at : ∀ {pk : List Nat} {as : List KD} {i : Nat}, pinned pk i as = true → ∀ j, (match as[j]? with | some a => a.1.isF = false | none => False) → i + j ∈ pk
  | _, [], _, _, j, z => by simp at z
  | pk, (k, d) :: as, i, h, 0, z => by
    unfold pinned at h
    obtain ⟨h1, _⟩ := Bool.and_eq_true_iff.mp h
    have z : k.isF = false := by simpa using z
    rw [z, Bool.false_or] at h1
    simpa using h1
  | pk, (k, d) :: as, i, h, j + 1, z => by
    unfold pinned at h
    obtain ⟨_, h2⟩ := Bool.and_eq_true_iff.mp h
    have := pinned_at h2 j (by simpa using z)
    rw [show i + (j + 1) = i + 1 + j by omega]; exact this
/-- the pins of a body: the slots pk hold what they held at the start -/
def pinG (G : Cfg) (pk : List Nat) (σ : L2.St) : Cfgx := { G with pk := pk, pv := fun i => (σ[i]?).getD none }
abbrev cxF (P : Program) (w : World) (K : PySem.W.Frag) (mg : PySem.Str → Option Value) (base : Heap) (N : List PySem.Str) (qual : PySem.Str) (scope : Scope) (f : Addr) (cd : Value) (A : Around) (outer : List Env) (s : Shared) (H : Hp) (E : XK) : Cx := cxOf (L2.CX P w) P w K mg base N qual scope f cd A outer s H E
theorem cok_fn {P : Program} {w : World} {G : Cfg} {mg : PySem.Str → Option Value} {base : Heap} {N : List PySem.Str} {qual : PySem.Str} {scope : Scope} {f : Addr} {cd : Value} {A : Around} {outer : List Env} {s : Shared} {H : Hp} {E : XK} {k : Nat} {pk : List Nat} {σ : L2.St} (hk : scope.kind = .function) (nd : N.Nodup) (hr : Room k (A.deeper (envOfC qual scope s.heap.objs.size f cd))) :
    Cok (cxF P w G.K mg base N qual scope f cd A outer s H E) (pinG G pk σ) (fun cls d _ H' => E cls d H') k :=
  ⟨rfl, takes_of rfl rfl rfl rfl, passes_of rfl, rfl, hr, nd⟩
/-- THE RULE of a def -/
theorem fn_ok {P : Program} {w : World} {G : Cfg} {mg : PySem.Str → Option Value} {base : Heap} {x qual : PySem.Str} {params : Arguments} {body : List Stmt} {scope : Scope} {dvs : List V} {kws : List (PySem.Str × V)} {f : Addr} {fd : FuncData} {N ps : List PySem.Str} {k : Nat} {m : St} (pk : List Nat)
    (FD : FunD G.K x qual params body scope dvs kws f fd) (S : FnScope N ps scope) (hpk : pk.all (· < ps.length) = true)
    (hb : ∀ (cdv : Value) (A : Around) (outer : List Env) (s : Shared) (H : Hp) (E : XK) (σ : L2.St), Cok (cxF P w G.K mg base N qual scope f cdv A outer s H E) (pinG G pk σ) (fun cls d _ H' => E cls d H') k → TrSs (cxF P w G.K mg base N qual scope f cdv A outer s H E) (pinG G pk σ) (fun cls d _ H' => E cls d H') body m) :
    FnOk P w G.K mg base (L2.CX P w) (k + 1) f fd ps (spF G ps.length (runF N.length pk m)) := by
  refine FD.ok S (fun vs H Q E ⟨F, T, as, h, _⟩ => h) fun cdv A outer s H vs Q E hr ⟨F, T, as, hl, sub, ar, le, di, h⟩ => ?_
  obtain ⟨t, p, d⟩ := hb cdv A outer s H E (L2.start N vs) (cok_fn S.kind S.nd hr)
  refine ⟨t, p, ?_⟩
  have hal := ar.len
  unfold runF at h
  by_cases hp : pinned pk 0 as = true
  case neg => rw [if_neg hp] at h; exact h.elim
  rw [if_pos hp] at h
  have st : St' (pinG G pk (L2.start N vs)) F H (L2.start N vs) (as.map some ++ List.replicate (N.length - as.length) none) T := by
    refine ⟨fun i hi => ?_, sub, ?_, le, di⟩
    · have hlt : i < ps.length := by simpa using List.all_eq_true.mp hpk i hi
      have : (L2.start N vs)[i]? = some (some (vs[i]'(by omega))) := by
        unfold L2.start
        rw [List.getElem?_append_left (by simp; omega)]
        simp [hl, hlt]
      show (L2.start N vs)[i]? = some (((L2.start N vs)[i]?).getD none)
      rw [this]; rfl
    · unfold L2.start
      rw [← hal]
      exact ar.slots _
  have pinv : ∀ {F' H' : Hp} {σ' : L2.St} {S' : List Slot} {T' : Cnt}, St' (pinG G pk (L2.start N vs)) F' H' σ' S' T' → ∀ j (h : j < vs.length), (match as[j]? with | some a => a.1.isF = false | none => False) → σ'[j]? = some (some vs[j]) := fun st' j hj z => by
    have q := pinned_at hp j z
    rw [Nat.zero_add] at q
    have y := st'.pi j q
    rw [y]
    show some (((L2.start N vs)[j]?).getD none) = _
    unfold L2.start
    rw [List.getElem?_append_left (by simpa using hj)]
    simp [hj]
  refine d F H (L2.start N vs) _ T { nx := fun _ H' => Q .non H', rt := Q } st ?_
  cases e : m (as.map some ++ List.replicate (N.length - as.length) none) with
  | bad => rw [e] at h; exact h.elim
  | exc x S' =>
    rw [e] at h
    intro σ' cls dx F' H' T' s' st' ex
    cases eo : outsOf as S' with
    | none => simp only [eo] at h
    | some os =>
      simp only [eo] at h
      obtain ⟨T2, o2, l2⟩ := outs_of 0 st'.sl (pinv st') hal eo
      exact h cls dx F' H' T2 (s'.less l2) st'.sub o2 (fun a => Nat.le_trans (l2 a) (st'.le a)) (fun a n => by have := st'.di a n; have := l2 a; omega) ex
  | ok fl S' =>
    rw [e] at h
    cases fl with
    | bk => exact h.elim
    | ct => exact h.elim
    | nx =>
      have h : match frOf as (.fz, .non) S' with | .ret r os => _ | .exc x os => _ | .bad => False := h
      intro σ' F' H' T' s' st'
      unfold frOf at h
      cases eo : outsOf as S' with
      | none => simp only [eo] at h
      | some os =>
        simp only [eo] at h
        obtain ⟨T2, o2, l2⟩ := outs_of 0 st'.sl (pinv st') hal eo
        exact h .non F' H' T2 nil0 (s'.less l2) st'.sub o2 (.fz .non) (fun a => by have := l2 a; have := st'.le a; simp only [nil0]; omega) fun a n => by have := st'.di a n; have := l2 a; simp only [nil0]; omega
    | rt r =>
      have h : match frOf as r S' with | .ret r os => _ | .exc x os => _ | .bad => False := h
      intro v σ' F' H' T' f' s' st' o lo dd
      unfold frOf at h
      cases eo : outsOf as S' with
      | none => simp only [eo] at h
      | some os =>
        simp only [eo] at h
        obtain ⟨T2, o2, l2⟩ := outs_of 0 st'.sl (pinv st') hal eo
        exact h v F' H' T2 f' (s'.less fun a => by have := l2 a; simp only [add]; omega) st'.sub o2 o (fun a => by have := l2 a; have := lo a; omega) fun a n => by have := st'.di a n; have := dd a n; have := l2 a; omega
end TB

namespace TB
open PySem PyProof.Rows L2
/-! ### calls -/
inductive AVs (G : Cfg) (F H : Hp) (σ : L2.St) : List AV → List V → Cnt → Prop
  | nil : AVs G F H σ [] [] nil0
  | v {d : D} {x : V} {as : List AV} {vs : List V} {g : Cnt} : Rep G F x d → AVs G F H σ as vs g → AVs G F H σ (.v d :: as) (x :: vs) g
  | o {kd : KD} {x : V} {as : List AV} {vs : List V} {f g : Cnt} : kd.1.isF = false → Own G F H kd.1 x kd.2 f → AVs G F H σ as vs g → AVs G F H σ (.o kd :: as) (x :: vs) (add f g)
  | b {i : Nat} {x : V} {as : List AV} {vs : List V} {g : Cnt} : σ[i]? = some (some x) → AVs G F H σ as vs g → AVs G F H σ (.b i :: as) (x :: vs) g
theorem AVs.mono {G : Cfg} {F F' H H' : Hp} {σ : L2.St} {as : List AV} {vs : List V} {f : Cnt} (e : Same F F') (h : AVs G F H σ as vs f) (m : ∀ a o, f a ≠ 0 → H a = some o → H' a = some o) : AVs G F' H' σ as vs f := by
  induction h with
  | nil => exact .nil
  | v r _ ih => exact .v (r.mono e) (ih m)
  | o k o _ ih => exact .o k (o.mono e fun a u n => m a u (by simp only [add]; omega)) (ih fun a u n => m a u (by simp only [add]; omega))
  | b x _ ih => exact .b x (ih m)
theorem AVs.there {G : Cfg} {F H : Hp} {σ : L2.St} {as : List AV} {vs : List V} {f : Cnt} (h : AVs G F H σ as vs f) (a : Addr) (n : f a ≠ 0) : H a ≠ none := by
  induction h with
  | nil => exact absurd rfl n
  | v _ _ ih => exact ih n
  | @o _ _ _ _ f g _ o _ ih =>
    by_cases q : f a = 0
    · exact ih (by simp only [add] at n; omega)
    · exact o.there a q
  | b _ _ ih => exact ih n
def KAr (G : Cfgx) (F H : Hp) (σ : L2.St) (T : Cnt) (Q : List V → Hp → Prop) (as : List AV) (S' : List Slot) : Prop :=
  ∀ vs F' H' T' f, Step F H T F' H' (add T' f) → St' G F' H' σ S' T' → AVs G F' H' σ as vs f → (∀ a, T' a + f a ≤ 1) → (∀ a, F' a ≠ none → f a = 0) → Q vs H'
def DenAr (G : Cfgx) (W : WX) (t : TA) (m : M (List AV)) : Prop := ∀ F H σ S T Q, St' G F H σ S T → PR G W F H σ T (KAr G F H σ T Q) (m S) → t σ H Q
def TrAr (X : Cx) (G : Cfgx) (W : WX) (es : List Expr) (as : List Ar) : Prop := ∃ t, PA X es t ∧ DenAr G W t (arEv as)
section
variable {X : Cx} {G : Cfgx} {W : WX} {k : Nat}
theorem tar_nil : TrAr X G W [] [] := ⟨_, pa_nil, fun F H σ S T Q st p => (show KAr G F H σ T Q [] S from p) [] F H T nil0 ((Step.refl F H T).castR fun a => rfl) st .nil (fun a => st.le a) fun _ _ => rfl⟩
theorem tar_v {e : Expr} {es : List Expr} {m : E} {ms : List Ar} (h : TrE X G W e m) (r : TrAr X G W es ms) (hs : starEach (e :: es) X.env = (false, eval e X.env) :: starEach es X.env := by rfl) : TrAr X G W (e :: es) (.v m :: ms) := by
  obtain ⟨t, hp, hd⟩ := h
  obtain ⟨u, hq, hu⟩ := r
  refine ⟨_, pa_cons hp hq hs, fun F H σ S T Q st p => ?_⟩
  have p : PR G W F H σ T (KAr G F H σ T Q) ((eDat m S).bind fun d => M.bind (arEv ms) fun r => M.pure (.v d :: r)) := p
  refine hd.dat F H σ S T _ st (PR.bind p fun d S1 q => ?_)
  intro v F1 H1 T1 s1 st1 r1
  refine hu F1 H1 σ S1 T1 _ st1 (PR.bind (PR.re s1 (fun _ _ h => h) q) fun ds S2 q2 => ?_)
  intro vs F2 H2 T2 f2 s2 st2 r2 le2 di2
  have q2 : KAr G F H σ T Q (.v d :: ds) S2 := q2
  exact q2 (v :: vs) F2 H2 T2 f2 (s1.trans s2) st2 (.v (r1.mono s2.sF) r2) le2 di2
theorem tar_o {e : Expr} {es : List Expr} {m : E} {ms : List Ar} (h : TrE X G W e m) (r : TrAr X G W es ms) (hs : starEach (e :: es) X.env = (false, eval e X.env) :: starEach es X.env := by rfl) : TrAr X G W (e :: es) (.o m :: ms) := by
  obtain ⟨t, hp, hd⟩ := h
  obtain ⟨u, hq, hu⟩ := r
  refine ⟨_, pa_cons hp hq hs, fun F H σ S T Q st p => ?_⟩
  have p : PR G W F H σ T (KAr G F H σ T Q) ((m S).bind fun kd => M.bind (arEv ms) fun r => if kd.1.isF then fun _ => .bad else M.pure (.o kd :: r)) := p
  refine hd F H σ S T _ st (PR.bind p fun kd S1 q => ?_)
  intro v F1 H1 T1 f1 s1 st1 o1 le1 di1
  refine hu F1 H1 σ S1 T1 _ st1 (PR.bind (PR.re (s1.less (T2 := T1) fun a => by simp only [add]; omega) (fun _ _ h => h) q) fun ds S2 q2 => ?_)
  intro vs F2 H2 T2 f2 s2 st2 r2 le2 di2
  cases hk : kd.1.isF with
  | true => rw [hk, if_pos rfl] at q2; exact q2.elim
  | false =>
    rw [hk, if_neg (by simp)] at q2
    have q2 : KAr G F H σ T Q (.o kd :: ds) S2 := q2
    have th : ∀ a, f1 a ≠ 0 → H1 a ≠ none := fun a n => o1.there a n
    obtain ⟨b1, b2, b3⟩ := s2.frame le1 th
    refine q2 (v :: vs) F2 H2 T2 (add f1 f2) (s1.trans (b1.castR fun a => by simp only [add]; omega)) st2 (.o hk (o1.mono s2.sF b3) r2) (fun a => ?_) fun a n => ?_
    · by_cases z : f1 a = 0
      · have := le2 a; simp only [add]; omega
      · have y := b2 a z; have := le1 a; simp only [add] at y ⊢; omega
    · by_cases z : f1 a = 0
      · have := di2 a n; simp only [add]; omega
      · have y := b2 a z
        exfalso
        by_cases w : F1 a = none
        · rcases s2.nF a w n with u | u
          · exact th a z u
          · have := le1 a; omega
        · exact z (di1 a w)
theorem tar_b (i : Nat) {x : PySem.Str} {pos : Pos} {es : List Expr} {ms : List Ar} (r : TrAr X G W es ms) (hN : X.N[i]? = some x := by rfl) (hv : Vis X.env.scope x := by first | exact Or.inl rfl | exact Or.inr (Or.inl rfl) | exact Or.inr (Or.inr rfl)) (hd : (x == ("__debug__" : PySem.Str)) = false := by decide)
    (hcd : (x == ("__classdict__" : PySem.Str)) = false := by decide) (hs : starEach (.Name x pos :: es) X.env = (false, eval (.Name x pos) X.env) :: starEach es X.env := by rfl) : TrAr X G W (.Name x pos :: es) (.b i :: ms) := by
  obtain ⟨u, hq, hu⟩ := r
  refine ⟨_, pa_cons (pe_var hN hv hd hcd) hq hs, fun F H σ S T Q st p => ?_⟩
  unfold arEv at p
  cases e : S[i]? with
  | none => simp only [e] at p; exact p.elim
  | some s =>
    cases s with
    | none => simp only [e] at p; exact p.elim
    | some kd =>
      simp only [e] at p
      obtain ⟨kk, d⟩ := kd
      obtain ⟨v, f, hv, _⟩ := st.sl.var e
      have p : PR G W F H σ T (KAr G F H σ T Q) ((arEv ms S).bind fun r => M.pure (.b i :: r)) := p
      refine ⟨v, hv, hu F H σ S T _ st (PR.bind p fun ds S2 q2 => ?_)⟩
      intro vs F2 H2 T2 f2 s2 st2 r2 le2 di2
      exact (show KAr G F H σ T Q (.b i :: ds) S2 from q2) (v :: vs) F2 H2 T2 f2 s2 st2 (.b hv r2) le2 di2
end
/-- which arguments are owned -/
inductive AKs : List AV → List KD → Prop
  | nil : AKs [] []
  | v {d : D} {as : List AV} {ks : List KD} : AKs as ks → AKs (.v d :: as) ((.fz, d) :: ks)
  | o {kd : KD} {as : List AV} {ks : List KD} : kd.1.isF = false → AKs as ks → AKs (.o kd :: as) (kd :: ks)
  | b {i : Nat} {kd : KD} {as : List AV} {ks : List KD} : kd.1.isF = false → AKs as ks → AKs (.b i :: as) (kd :: ks)
theorem ar_in {G : Cfg} {F H : Hp} {σ : L2.St} {avs : List AV} {vs : List V} {f : Cnt} (h : AVs G F H σ avs vs f) : ∀ {S S1 : List Slot} {T : Cnt} {ks : List KD}, Slots G F H σ S T → arIn avs S = some (ks, S1) →
    ∃ Ta Tr, Args G F H ks vs Ta ∧ Slots G F H σ S1 Tr ∧ AKs avs ks ∧ ∀ a, Ta a + Tr a ≤ T a + f a := by
  induction h with
  | nil =>
    intro S S1 T ks st e
    unfold arIn at e
    cases e
    exact ⟨nil0, T, .nil, st, .nil, fun a => by simp only [nil0]; omega⟩
  | @v d x as vs g r _ ih =>
    intro S S1 T ks st e
    unfold arIn at e
    cases e1 : arIn as S with
    | none => rw [e1] at e; cases e
    | some q =>
      rw [e1] at e
      cases e
      obtain ⟨Ta, Tr, h1, h2, h3, h4⟩ := ih st e1
      exact ⟨add nil0 Ta, Tr, .cons (.fz r) h1, h2, .v h3, fun a => by have := h4 a; simp only [add, nil0]; omega⟩
  | @o kd x as vs f g hk o _ ih =>
    intro S S1 T ks st e
    unfold arIn at e
    cases e1 : arIn as S with
    | none => rw [e1] at e; cases e
    | some q =>
      rw [e1] at e
      cases e
      obtain ⟨Ta, Tr, h1, h2, h3, h4⟩ := ih st e1
      exact ⟨add f Ta, Tr, .cons o h1, h2, .o hk h3, fun a => by have := h4 a; simp only [add]; omega⟩
  | @b i x as vs g hx _ ih =>
    intro S S1 T ks st e
    unfold arIn at e
    cases es : S[i]? with
    | none => simp only [es] at e; cases e
    | some s =>
      cases s with
      | none => simp only [es] at e; cases e
      | some kd =>
        simp only [es] at e
        cases hk : kd.1.isF with
        | true => rw [hk, if_pos rfl] at e; cases e
        | false =>
          rw [hk, if_neg (by simp)] at e
          obtain ⟨v0, f0, T0, ht, hv, ho, back⟩ := st.at es
          cases e1 : arIn as (S.set i none) with
          | none => rw [e1] at e; cases e
          | some q =>
            rw [e1] at e
            cases e
            have st2 := back F H (some x) none nil0 (Same.refl F) (fun _ _ _ h => h) (.no _)
            have e2 : σ.set i (some x) = σ := by
              obtain ⟨hi, q1⟩ := List.getElem?_eq_some_iff.mp hx
              rw [← q1, List.set_getElem_self]
            rw [e2] at st2
            obtain ⟨Ta, Tr, h1, h2, h3, h4⟩ := ih st2 e1
            rw [hx] at hv
            cases hv
            cases ho with
            | yes o => exact ⟨add f0 Ta, Tr, .cons o h1, h2, .b hk h3, fun a => by have := h4 a; have := ht a; simp only [add, nil0] at *; omega⟩
theorem ar_out {G : Cfg} {F H F0 H0 : Hp} {σ : L2.St} {avs : List AV} {vs : List V} {f : Cnt} (h : AVs G F0 H0 σ avs vs f) : ∀ {S1 S2 : List Slot} {Tr To : Cnt} {ks os : List KD}, AKs avs ks → Outs G F H ks vs os To → Slots G F H σ S1 Tr → arOut avs os S1 = some S2 →
    ∃ T2, Slots G F H σ S2 T2 ∧ ∀ a, T2 a ≤ To a + Tr a := by
  induction h with
  | nil =>
    intro S1 S2 Tr To ks os ak ou st e
    cases ak
    cases ou
    unfold arOut at e
    cases e
    exact ⟨Tr, st, fun a => by simp only [nil0]; omega⟩
  | v r _ ih =>
    intro S1 S2 Tr To ks os ak ou st e
    cases ak with
    | v ak =>
      cases ou with
      | skip _ ou => unfold arOut at e; exact ih ak ou st e
      | own h => cases h
  | o hk o _ ih =>
    intro S1 S2 Tr To ks os ak ou st e
    cases ak with
    | o hk ak =>
      cases ou with
      | skip h _ => rw [hk] at h; cases h
      | own _ _ o2 ou =>
        unfold arOut at e
        obtain ⟨T2, s2, l2⟩ := ih ak ou st e
        exact ⟨T2, s2, fun a => by have := l2 a; simp only [add]; omega⟩
  | @b i x as vs g hx _ ih =>
    intro S1 S2 Tr To ks os ak ou st e
    cases ak with
    | b hk ak =>
      cases ou with
      | skip h _ => rw [hk] at h; cases h
      | @own _ k' _ d' _ _ _ _ f1 g1 _ hk' o2 ou =>
        unfold arOut at e
        by_cases hi : i < S1.length
        · obtain ⟨v0, f0, T0, ht, hv, ho, back⟩ := st.at (List.getElem?_eq_getElem hi)
          have st2 := back F H (some x) (some (k', d')) f1 (Same.refl F) (fun _ _ _ h => h) (.yes o2)
          have e2 : σ.set i (some x) = σ := by
            obtain ⟨hi, q1⟩ := List.getElem?_eq_some_iff.mp hx
            rw [← q1, List.set_getElem_self]
          rw [e2] at st2
          obtain ⟨T2, s2, l2⟩ := ih ak ou st2 e
          exact ⟨T2, s2, fun a => by have := l2 a; have := ht a; simp only [add] at *; omega⟩
        · rw [List.set_eq_of_length_le (by omega)] at e
          obtain ⟨T2, s2, l2⟩ := ih ak ou st e
          exact ⟨T2, s2, fun a => by have := l2 a; simp only [add]; omega⟩
/-- the arguments stand, the callee is asked, what it leaves comes back -/
theorem call_core {G : Cfgx} {W : WX} {F H F1 H1 : Hp} {σ : L2.St} {T T1 f : Cnt} {S1 : List Slot} {avs : List AV} {vs : List V} {Q : VK} {fn : Fn} {n : Nat} (hn : ∀ ks, AKs avs ks → vs.length = n)
    (s1 : Step F H T F1 H1 (add T1 f)) (st1 : St' G F1 H1 σ S1 T1) (av : AVs G F1 H1 σ avs vs f) (le1 : ∀ a, T1 a + f a ≤ 1) (di1 : ∀ a, F1 a ≠ none → f a = 0)
    (h : PR G W F H σ T (KE G F H σ T Q) (match arIn avs S1 with
      | none => .bad
      | some (ks, S1) => match fn ks with
        | .ret r os => (match arOut avs os S1 with | some S2 => .ok r S2 | none => .bad)
        | .exc x os => (match arOut avs os S1 with | some S2 => .exc x S2 | none => .bad)
        | .bad => .bad)) : spF G n fn vs H1 Q (WE W σ) := by
  cases e : arIn avs S1 with
  | none => rw [e] at h; exact h.elim
  | some q =>
    obtain ⟨ks, S2⟩ := q
    rw [e] at h
    obtain ⟨Ta, Tr, h1, h2, h3, h4⟩ := ar_in av st1.sl e
    have le : ∀ a, Ta a + Tr a ≤ 1 := fun a => Nat.le_trans (h4 a) (le1 a)
    have di : ∀ a, F1 a ≠ none → Ta a + Tr a = 0 := fun a n => by have := h4 a; have := st1.di a n; have := di1 a n; omega
    have th : ∀ a, Tr a ≠ 0 → H1 a ≠ none := fun a n => h2.there a n
    have base : Step F H T F1 H1 (add Ta Tr) := s1.less fun a => by have := h4 a; simp only [add]; omega
    refine ⟨F1, Ta, ks, hn ks h3, st1.sub, h1, fun a => by have := le a; omega, fun a n => by have := di a n; omega, ?_⟩
    cases hf : fn ks with
    | bad => simp only [hf] at h; exact h.elim
    | ret r os =>
      simp only [hf] at h
      cases ho : arOut avs os S2 with
      | none => simp only [ho] at h; exact h.elim
      | some S3 =>
        simp only [ho] at h
        have h : KE G F H σ T Q r S3 := h
        intro v F2 H2 To f2 s2 sub2 ou o2 le2 di2
        obtain ⟨b1, b2, b3⟩ := s2.frame le th
        obtain ⟨T3, sl3, l3⟩ := ar_out av h3 ou (h2.mono s2.sF b3) ho
        have tz : ∀ a, Tr a ≠ 0 → To a = 0 ∧ f2 a = 0 := fun a n => by have := b2 a n; simp only [add] at this; omega
        have fz : ∀ a, Tr a ≠ 0 → F2 a = none := fun a n => Decidable.byContradiction fun w => by
          by_cases u : F1 a = none
          · rcases s2.nF a u w with z | z
            · exact th a n z
            · have := le a; omega
          · have := di a u; omega
        have le3 : ∀ a, T3 a + f2 a ≤ 1 := fun a => by
          have := l3 a
          by_cases z : Tr a = 0
          · have := le2 a; omega
          · have := tz a z; have := le a; omega
        refine h v F2 H2 T3 f2 (base.trans (b1.less fun a => by have := l3 a; simp only [add]; omega)) ⟨st1.pi, sub2, sl3, fun a => by have := le3 a; omega, fun a n => ?_⟩ o2 le3 fun a n => by have := di2 a n; omega
        have := l3 a
        by_cases z : Tr a = 0
        · have := di2 a n; omega
        · exact absurd (fz a z) n
    | exc x os =>
      simp only [hf] at h
      cases ho : arOut avs os S2 with
      | none => simp only [ho] at h; exact h.elim
      | some S3 =>
        simp only [ho] at h
        have h : PX G W F H σ T x S3 := h
        intro cls dx F2 H2 To s2 sub2 ou le2 di2 ex
        obtain ⟨b1, b2, b3⟩ := s2.frame le th
        obtain ⟨T3, sl3, l3⟩ := ar_out av h3 ou (h2.mono s2.sF b3) ho
        have tz : ∀ a, Tr a ≠ 0 → To a = 0 := fun a n => b2 a n
        have fz : ∀ a, Tr a ≠ 0 → F2 a = none := fun a n => Decidable.byContradiction fun w => by
          by_cases u : F1 a = none
          · rcases s2.nF a u w with z | z
            · exact th a n z
            · have := le a; omega
          · have := di a u; omega
        refine h cls dx F2 H2 T3 (base.trans (b1.less fun a => by have := l3 a; simp only [add]; omega)) ⟨st1.pi, sub2, sl3, fun a => ?_, fun a n => ?_⟩ ex
        · have := l3 a
          by_cases z : Tr a = 0
          · have := le2 a; omega
          · have := tz a z; have := le a; omega
        · have := l3 a
          by_cases z : Tr a = 0
          · have := di2 a n; omega
          · exact absurd (fz a z) n
theorem avs_len {G : Cfg} {F H : Hp} {σ : L2.St} {avs : List AV} {vs : List V} {f : Cnt} (h : AVs G F H σ avs vs f) : vs.length = avs.length := by
  induction h with
  | nil => rfl
  | v _ _ ih => simp [ih]
  | o _ _ _ ih => simp [ih]
  | b _ _ ih => simp [ih]
theorem arEv_len : ∀ (as : List Ar) (S S' : List Slot) (avs : List AV), arEv as S = .ok avs S' → avs.length = as.length
  | [], S, S', avs, h => by unfold arEv at h; cases h; rfl
  | .v e :: as, S, S', avs, h => by
    unfold arEv at h
    have h : (eDat e S).bind (fun d => M.bind (arEv as) fun r => M.pure (.v d :: r)) = .ok avs S' := h
    cases q : eDat e S with
    | ok d S1 =>
      rw [q] at h
      have h : (arEv as S1).bind (fun r => M.pure (.v d :: r)) = .ok avs S' := h
      cases q1 : arEv as S1 with
      | ok r S2 => rw [q1] at h; cases h; simp [arEv_len as _ _ _ q1]
      | exc x S2 => rw [q1] at h; cases h
      | bad => rw [q1] at h; cases h
    | exc x S1 => rw [q] at h; cases h
    | bad => rw [q] at h; cases h
  | .o e :: as, S, S', avs, h => by
    unfold arEv at h
    have h : (e S).bind (fun kd => M.bind (arEv as) fun r => if kd.1.isF then fun _ => .bad else M.pure (.o kd :: r)) = .ok avs S' := h
    cases q : e S with
    | ok kd S1 =>
      rw [q] at h
      have h : (arEv as S1).bind (fun r => if kd.1.isF then fun _ => .bad else M.pure (.o kd :: r)) = .ok avs S' := h
      cases q1 : arEv as S1 with
      | ok r S2 =>
        rw [q1] at h
        have h : (if kd.1.isF then (fun _ => .bad : M (List AV)) else M.pure (.o kd :: r)) S2 = .ok avs S' := h
        cases hk : kd.1.isF with
        | true => rw [hk, if_pos rfl] at h; cases h
        | false => rw [hk, if_neg (by simp)] at h; cases h; simp [arEv_len as _ _ _ q1]
      | exc x S2 => rw [q1] at h; cases h
      | bad => rw [q1] at h; cases h
    | exc x S1 => rw [q] at h; cases h
    | bad => rw [q] at h; cases h
  | .b i :: as, S, S', avs, h => by
    unfold arEv at h
    cases e : S[i]? with
    | none => simp only [e] at h; cases h
    | some s =>
      cases s with
      | none => simp only [e] at h; cases h
      | some kd =>
        simp only [e] at h
        have h : (arEv as S).bind (fun r => M.pure (.b i :: r)) = .ok avs S' := h
        cases q1 : arEv as S with
        | ok r S2 => rw [q1] at h; cases h; simp [arEv_len as _ _ _ q1]
        | exc x S2 => rw [q1] at h; cases h
        | bad => rw [q1] at h; cases h
section
variable {X : Cx} {G : Cfgx} {W : WX} {k : Nat}
theorem den_call {fn : Fn} {n : Nat} {ms : List Ar} {t : TA} (hn : ms.length = n) (h : DenAr G W t (arEv ms)) : DenE G W (tCallS (spF G n fn) (WE W) t) (eCall fn ms) := fun F H σ S T Q st p => by
  refine h F H σ S T _ st ?_
  have p : PR G W F H σ T (KE G F H σ T Q) ((arEv ms S).bind _) := p
  cases e : arEv ms S with
  | bad => rw [e] at p; exact p.elim
  | exc x S1 => rw [e] at p; exact p
  | ok avs S1 =>
    rw [e] at p
    intro vs F1 H1 T1 f s1 st1 av le1 di1
    exact call_core (fun ks _ => by rw [avs_len av, arEv_len ms S S1 avs e, hn]) s1 st1 av le1 di1 p
theorem tr_call {fn : Fn} {f : Addr} {fd : FuncData} {ps : List PySem.Str} {x : PySem.Str} {p pos : Pos} {e : Expr} {es : List Expr} {ms : List Ar} (C : Cok X G W k) (F : FnOk X.prog X.w X.K X.mg X.base (L2.CX X.prog X.w) k f fd ps (spF G ps.length fn)) (hm : X.mg x = some (.ref f)) (hk : PySem.W.keepIn X.K (.ref f) = true) (hb : Binds X.K fd ps [])
    (ha : TrAr X G W (e :: es) ms) (hn : ms.length = ps.length := by rfl) (hg : Gl X x := by rfl) (hdb : (x == ("__debug__" : PySem.Str)) = false := by decide) (he : starEach (e :: es) X.env = (false, eval e X.env) :: starEach es X.env := by rfl) (hpl : (backTo pos (starEach es X.env)).any (·.1) = false := by rfl) :
    TrE X G W (.Call (.Name x p) (e :: es) [] pos) (eCall fn ms) := by
  obtain ⟨t, pa, da⟩ := ha
  exact ⟨_, pe_callS F C.room hg hm hk hb (fun σ => passAt C.tk σ) pa hdb he hpl, den_call hn da⟩
end
end TB

namespace TB
open PySem PySem.Spec PyProof.Rows L2
/-! ### what a for walks -/
section
variable {X : Cx} {G : Cfgx} {W : WX} {k : Nat}
theorem walkD_list {F : Hp} {K : PySem.W.Frag} {a : Addr} {vs : List V} {ds : List D} (h : ∀ H, Same F H → SqL K H a vs) (r : Reps G F vs ds) : WalkD G F (Itl K a) ds := by
  refine ⟨YAt vs, ?_, fun i H x H' d e y => ?_⟩
  · rw [← r.len]
    exact walk_list.mono (fun H s => h H s) fun i H x H' hi s y => y
  · obtain ⟨v, h1, h2⟩ := r.get e
    obtain ⟨e1, e2⟩ := y
    rw [h1] at e2
    cases e2
    exact .inl ⟨e1, h2⟩
theorem walkD_tup {F : Hp} {K : PySem.W.Frag} {a : Addr} {vs : List V} {ds : List D} (h : ∀ H, Same F H → SqT K H a vs) (r : Reps G F vs ds) : WalkD G F (Itt K a) ds := by
  refine ⟨YAt vs, ?_, fun i H x H' d e y => ?_⟩
  · rw [← r.len]
    exact walk_tup.mono (fun H s => h H s) fun i H x H' hi s y => y
  · obtain ⟨v, h1, h2⟩ := r.get e
    obtain ⟨e1, e2⟩ := y
    rw [h1] at e2
    cases e2
    exact .inl ⟨e1, h2⟩
theorem walkD_rng {F : Hp} {lo : Int} {n : Nat} : WalkD G F (L2.Itr lo n) (rangeL lo n) := by
  refine ⟨YFn fun i => .int (lo + i), ?_, fun i H x H' d e y => ?_⟩
  · have : (rangeL lo n).length = n := by simp [rangeL]
    rw [this]
    exact walk_range.mono (fun H s => trivial) fun i H x H' hi s y => y
  · obtain ⟨e1, e2⟩ := y
    subst e2
    unfold rangeL at e
    by_cases hi : i < n
    · have : d = .int (lo + (i : Int)) := by
        rw [List.getElem?_map, List.getElem?_range hi] at e
        exact (Option.some.inj e).symm
      subst this
      exact .inl ⟨e1, .int _⟩
    · rw [List.getElem?_eq_none (by simp; omega)] at e; cases e
theorem walkD_str {F : Hp} {z : PySem.Str} : WalkD G F (L2.Its z) (z.cps.toList.map fun c => D.str [c]) := by
  refine ⟨fun i H v H' => H' = H ∧ ∃ c, z.cps[i]? = some c ∧ v = .str ⟨#[c]⟩, ?_, fun i H x H' d e y => ?_⟩
  · have : (z.cps.toList.map fun c => D.str [c]).length = z.cps.size := by simp
    rw [this]
    exact walk_str.mono (fun H s => trivial) fun i H x H' hi s y => y
  · obtain ⟨e1, c, hc, e2⟩ := y
    subst e2
    have : d = .str [c] := by
      rw [List.getElem?_map, Array.getElem?_toList, hc] at e
      exact (Option.some.inj e).symm
    subst this
    exact .inl ⟨e1, .str ⟨#[c]⟩⟩
/-- a list or a tuple, by what comes -/
def iSeq (K : PySem.W.Frag) (tl : TE) : TI := fun σ H R => tl σ H fun x H1 => (∃ a, x = .ref a ∧ (∃ xs, SqL K H1 a xs) ∧ R (Itl K a) H1) ∨ (∃ a, x = .ref a ∧ (∃ xs, SqT K H1 a xs) ∧ R (Itt K a) H1)
theorem pi_seq {tg l : Expr} {tl : TE} (hl : PE X l tl) : PI X tg l (iSeq X.K tl) := by
  refine ⟨fun pins s σ H R I h => ?_⟩
  refine thn (hl.run pins s σ H _ I h) fun v s1 ⟨x, H1, I1, r1, q1⟩ => ?_
  rcases q1 with ⟨a, e, ⟨xs, hq⟩, q⟩ | ⟨a, e, ⟨xs, hq⟩, q⟩
  · subst e
    cases r1
    obtain ⟨its, rv, p, hz⟩ := I1.list hq
    refine wpAny_pyIter_list p.isList ?_
    refine ⟨s1.heap.objs.size, [s1.heap.objs.size], _, _, H1, rfl, I1.kept (t' := s1.toks) fun b o e => Heap.get?_push_of_some _ e, turn_list a _, ⟨_, Heap.get?_push_size _ rfl, rfl, rfl⟩, fun b hb => ?_, q⟩
    have e : b = s1.heap.objs.size := by simpa using hb
    subst e
    exact I1.fpOk (Nat.le_refl _) (I1.hok.fresh (Nat.le_refl _))
  · subst e
    cases r1
    obtain ⟨its, rv, p, hz⟩ := I1.tuple hq
    refine wpAny_pyIter_tuple (show s1.heap.IsTuple a its.toArray from p) ?_
    refine ⟨s1.heap.objs.size, [s1.heap.objs.size], _, _, H1, rfl, I1.kept (t' := s1.toks) fun b o e => Heap.get?_push_of_some _ e, turn_tuple a _, ⟨_, Heap.get?_push_size _ rfl, rfl, rfl⟩, fun b hb => ?_, q⟩
    have e : b = s1.heap.objs.size := by simpa using hb
    subst e
    exact I1.fpOk (Nat.le_refl _) (I1.hok.fresh (Nat.le_refl _))
theorem ti_seq {tg e : Expr} {m : E} (C : Cok X G W k) (h : TrE X G W e m) : TrI X G W tg e (itSeq m) := by
  obtain ⟨t, p, d⟩ := h
  refine ⟨_, pi_seq p, fun F H σ S T R st z => d.dat F H σ S T _ st (PR.bind z fun dd S1 y => ?_)⟩
  intro v F1 H1 T1 s1 st1 r1
  cases r1 with
  | @tup a vs ds hq rs =>
    have y : KI G F H σ T R ds S1 := y
    exact .inr ⟨a, rfl, ⟨vs, C.hK ▸ same_t st1.sub hq⟩, y _ F1 H1 T1 s1 st1 (walkD_tup (fun H s => C.hK ▸ same_t s hq) rs)⟩
  | @lst a vs ds hq rs =>
    have y : KI G F H σ T R ds S1 := y
    exact .inl ⟨a, rfl, ⟨vs, .inl (.inl (st1.sub _ _ hq))⟩, y _ F1 H1 T1 s1 st1 (walkD_list (fun H s => .inl (.inl (s _ _ hq))) rs)⟩
  | _ => exact y.elim
theorem ti_str {tg e : Expr} {m : E} (h : TrE X G W e m) : TrI X G W tg e (itStr m) := by
  obtain ⟨t, p, d⟩ := h
  refine ⟨_, pi_str p, fun F H σ S T R st z => d.dat F H σ S T _ st (PR.bind z fun dd S1 y => ?_)⟩
  intro v F1 H1 T1 s1 st1 r1
  cases r1 with
  | str z =>
    have y : KI G F H σ T R (z.cps.toList.map fun c => D.str [c]) S1 := y
    exact ⟨z, rfl, y _ F1 H1 T1 s1 st1 walkD_str⟩
  | _ => exact y.elim
theorem ti_range1 {tg a : Expr} {m : E} {p pos : Pos} (h : TrE X G W a m) (hm : X.mg "range" = none) (hg : Gl X "range" := by rfl) (hs : starEach [a] X.env = [(false, eval a X.env)] := by rfl) : TrI X G W tg (.Call (.Name "range" p) [a] [] pos) (itRange1 m) := by
  obtain ⟨t, pa, d⟩ := h
  refine ⟨_, pi_range1 hg hm (pa_cons pa pa_nil hs) hs, fun F H σ S T R st z => d.dat F H σ S T _ st (PR.bind z fun dd S1 y => ?_)⟩
  intro v F1 H1 T1 s1 st1 r1
  cases r1 with
  | int j =>
    have y : PR G W F H σ T (KI G F H σ T R) ((if j.natAbs < limN then M.pure (rangeL 0 j.toNat) else fun _ => .bad) S1) := y
    by_cases hj : j.natAbs < limN
    · rw [if_pos hj] at y
      have y : KI G F H σ T R (rangeL 0 j.toNat) S1 := y
      have l : limN = 4611686018427387904 := rfl
      exact ⟨j, rfl, by omega, by omega, y _ F1 H1 T1 s1 st1 walkD_rng⟩
    · rw [if_neg hj] at y; exact y.elim
  | _ => exact y.elim
theorem ti_range2 {tg a b : Expr} {m n : E} {p pos : Pos} (h : TrE X G W a m) (h2 : TrE X G W b n) (hm : X.mg "range" = none) (hg : Gl X "range" := by rfl) (hs : starEach [a, b] X.env = [(false, eval a X.env), (false, eval b X.env)] := by rfl) (hs2 : starEach [b] X.env = [(false, eval b X.env)] := by rfl) : TrI X G W tg (.Call (.Name "range" p) [a, b] [] pos) (itRange2 m n) := by
  obtain ⟨t, pa, d⟩ := h
  obtain ⟨u, pb, d2⟩ := h2
  refine ⟨_, pi_range2 hg hm (pa_cons pa (pa_cons pb pa_nil hs2) (by rw [hs, hs2])) hs hs2, fun F H σ S T R st z => d.dat F H σ S T _ st (PR.bind z fun dd S1 y => ?_)⟩
  intro v F1 H1 T1 s1 st1 r1
  refine d2.dat F1 H1 σ S1 T1 _ st1 (PR.bind (PR.re s1 (fun _ _ h => h) y) fun d2 S2 y => ?_)
  intro v2 F2 H2 T2 s2 st2 r2
  cases r1 with
  | int i =>
    cases r2 with
    | int j =>
      have y : PR G W F1 H1 σ T1 (KI G F H σ T R) ((if i.natAbs < limN ∧ j.natAbs < limN then M.pure (rangeL i (j - i).toNat) else fun _ => .bad) S2) := y
      by_cases hj : i.natAbs < limN ∧ j.natAbs < limN
      · rw [if_pos hj] at y
        have y : KI G F H σ T R (rangeL i (j - i).toNat) S2 := y
        have l : limN = 4611686018427387904 := rfl
        exact ⟨i, j, rfl, by omega, y _ F2 H2 T2 (s1.trans s2) st2 walkD_rng⟩
      · rw [if_neg hj] at y; exact y.elim
    | _ => exact y.elim
  | _ => exact y.elim
end
end TB

namespace TB
open PySem PySem.Spec PyProof.Rows L2
/-! ### slots that own a list -/
section
variable {X : Cx} {G : Cfgx} {W : WX} {k : Nat} {F H : Hp} {σ : L2.St} {S : List Slot} {T : Cnt}
theorem own_at {i : Nat} {kd : Kd} {d : D} (st : St' G F H σ S T) (e : S[i]? = some (some (kd, d))) : ∃ v f, σ[i]? = some (some v) ∧ Own G F H kd v d f ∧ (∀ a, f a ≤ T a) ∧
    ∀ F' H' k' d' f', Same F F' → Same F' H' → (∀ a o, T a ≠ 0 → f a = 0 → H a = some o → H' a = some o) → Own G F' H' k' v d' f' → (∀ a, f' a ≤ f a) → (∀ a, F' a ≠ none → F a ≠ none ∨ (f a ≠ 0 ∧ f' a = 0)) →
      ∃ T', St' G F' H' σ (S.set i (some (k', d'))) T' ∧ ∀ a, T' a + f a = T a + f' a := by
  obtain ⟨v, f, T0, ht, hv, ho, back⟩ := st.sl.at e
  cases ho with
  | @yes k1 v1 d1 f1 o =>
    refine ⟨v1, f, hv, o, fun a => by have := ht a; omega, fun F' H' k' d' f' sF sub kp o' le' nF => ?_⟩
    have e2 : σ.set i (some v1) = σ := by
      obtain ⟨hi, q1⟩ := List.getElem?_eq_some_iff.mp hv
      rw [← q1, List.set_getElem_self]
    have q := back F' H' (some v1) (some (k', d')) f' sF (fun a u n h => kp a u (by have := ht a; omega) (by have := ht a; have := st.le a; omega) h) (.yes o')
    rw [e2] at q
    refine ⟨add f' T0, ⟨st.pi, sub, q, fun a => ?_, fun a n => ?_⟩, fun a => ?_⟩
    · have := le' a; have := ht a; have := st.le a; simp only [add]; omega
    · have := le' a
      have := ht a
      have := st.le a
      rcases nF a n with z | ⟨z1, z2⟩
      · have := st.di a z; simp only [add]; omega
      · simp only [add]; omega
    · have := ht a; simp only [add]; omega
theorem ownL_some {S : List Slot} {i : Nat} {xs : List D} (e : ownL S i = some xs) : S[i]? = some (some (.li .fz, .lst xs)) := by
  unfold ownL at e
  split at e
  · cases e; assumption
  · cases e
theorem ownK_some {S : List Slot} {i : Nat} {xs : List (D × D)} (e : ownK S i = some xs) : S[i]? = some (some (.dK .fz, .dic xs)) := by
  unfold ownK at e
  split at e
  · cases e; assumption
  · cases e
/-- an own list of frozen items: where it stands, how it is rewritten -/
theorem own_list {i : Nat} {xs : List D} (st : St' G F H σ S T) (e : ownL S i = some xs) : ∃ a vs, σ[i]? = some (some (.ref a)) ∧ H a = some (.lst vs) ∧ Reps G F vs xs ∧ F a = none ∧
    ∀ ws ys, Reps G F ws ys → St' G F (upd H a (.lst ws)) σ (S.set i (some (.li .fz, .lst ys))) T ∧ Step F H T F (upd H a (.lst ws)) T := by
  obtain ⟨v, f, hv, o, hf, back⟩ := own_at st (ownL_some e)
  cases o with
  | @li _ a vs ds g h r =>
    obtain ⟨r1, e1⟩ := reps_fz r
    subst e1
    have t1 : T a ≠ 0 := by have := hf a; simp only [add, one, if_true] at this; omega
    have fa : F a = none := Decidable.byContradiction fun n => t1 (st.di a n)
    have sub2 : ∀ o, Same F (upd H a o) := fun o b u q => by
      by_cases z : b = a
      · subst z; rw [fa] at q; cases q
      · rw [upd_ne z]; exact st.sub _ _ q
    refine ⟨a, vs, hv, h, r1, fa, fun ws ys rw' => ?_⟩
    obtain ⟨T', st', ht⟩ := back F (upd H a (.lst ws)) (.li .fz) (.lst ys) (add (one a) nil0) (Same.refl F) (sub2 _) (fun b u n z q => by
      by_cases y : b = a
      · subst y; simp [add, one] at z
      · rw [upd_ne y]; exact q) (.li upd_same (owns_fz rw')) (fun b => Nat.le_refl _) (fun b n => .inl n)
    have eT : T' = T := by funext b; have := ht b; omega
    subst eT
    refine ⟨st', Same.refl F, fun b u z q => ?_, fun b n => .inl n, fun b h n => absurd h n, fun b n => ?_⟩
    · by_cases y : b = a
      · subst y; exact absurd z t1
      · rw [upd_ne y]; exact q
    · by_cases y : b = a
      · subst y; rw [upd_same]; simp
      · rw [upd_ne y]; exact n
/-- an own dict of frozen items -/
theorem own_dict {i : Nat} {xs : List (D × D)} (st : St' G F H σ S T) (e : ownK S i = some xs) : ∃ a kvs, σ[i]? = some (some (.ref a)) ∧ H a = some (.dK kvs) ∧ xs.map (·.1) = kvs.map (fun p => keyD p.1) ∧ Reps G F (kvs.map (·.2)) (xs.map (·.2)) ∧
    ∀ ws ys, ys.map (·.1) = ws.map (fun p => keyD p.1) → Reps G F (ws.map (·.2)) (ys.map (·.2)) → St' G F (upd H a (.dK ws)) σ (S.set i (some (.dK .fz, .dic ys))) T ∧ Step F H T F (upd H a (.dK ws)) T := by
  obtain ⟨v, f, hv, o, hf, back⟩ := own_at st (ownK_some e)
  cases o with
  | @dK _ a kvs kds g h hk r =>
    obtain ⟨r1, e1⟩ := reps_fz r
    subst e1
    have t1 : T a ≠ 0 := by have := hf a; simp only [add, one, if_true] at this; omega
    have fa : F a = none := Decidable.byContradiction fun n => t1 (st.di a n)
    have sub2 : ∀ o, Same F (upd H a o) := fun o b u q => by
      by_cases z : b = a
      · subst z; rw [fa] at q; cases q
      · rw [upd_ne z]; exact st.sub _ _ q
    refine ⟨a, kvs, hv, h, hk, r1, fun ws ys k' rw' => ?_⟩
    obtain ⟨T', st', ht⟩ := back F (upd H a (.dK ws)) (.dK .fz) (.dic ys) (add (one a) nil0) (Same.refl F) (sub2 _) (fun b u n z q => by
      by_cases y : b = a
      · subst y; simp [add, one] at z
      · rw [upd_ne y]; exact q) (.dK upd_same k' (owns_fz rw')) (fun b => Nat.le_refl _) (fun b n => .inl n)
    have eT : T' = T := by funext b; have := ht b; omega
    subst eT
    refine ⟨st', Same.refl F, fun b u z q => ?_, fun b n => .inl n, fun b h n => absurd h n, fun b n => ?_⟩
    · by_cases y : b = a
      · subst y; exact absurd z t1
      · rw [upd_ne y]; exact q
    · by_cases y : b = a
      · subst y; rw [upd_same]; simp
      · rw [upd_ne y]; exact n
/-- a frozen slot, or one that is frozen where it stands -/
theorem own_freeze {i : Nat} {kd : Kd} {d : D} (st : St' G F H σ S T) (e : S[i]? = some (some (kd, d))) : ∃ v F' T', σ[i]? = some (some v) ∧ Rep G F' v d ∧ St' G F' H σ (S.set i (some (.fz, d))) T' ∧ Step F H T F' H T' := by
  obtain ⟨v, f, hv, o, hf, back⟩ := own_at st e
  let F2 : Hp := fun a => if f a = 0 then F a else H a
  have fz : ∀ a, F a ≠ none → f a = 0 := fun a n => by have := hf a; have := st.di a n; omega
  have sf : Same F F2 := fun a u q => by
    show (if f a = 0 then F a else H a) = some u
    rw [if_pos (fz a (by rw [q]; simp))]; exact q
  have sub2 : Same F2 H := fun a u q => by
    have q : (if f a = 0 then F a else H a) = some u := q
    by_cases z : f a = 0
    · rw [if_pos z] at q; exact st.sub _ _ q
    · rw [if_neg z] at q; exact q
  have o2 : Own G F2 F2 kd v d f := o.mono sf fun a u n q => by
    show (if f a = 0 then F a else H a) = some u
    rw [if_neg n]; exact q
  have r2 : Rep G F2 v d := o2.rep (Same.refl F2)
  obtain ⟨T', st', ht⟩ := back F2 H .fz d nil0 sf sub2 (fun a u n z q => q) (.fz r2) (fun a => Nat.zero_le _) (fun a n => by
    by_cases z : f a = 0
    · have n : (if f a = 0 then F a else H a) ≠ none := n
      rw [if_pos z] at n; exact .inl n
    · exact .inr ⟨z, rfl⟩)
  refine ⟨v, F2, T', hv, r2, st', sf, fun a u _ q => q, fun a n => .inl (by have h1 := ht a; have h2 := hf a; have h3 : nil0 a = 0 := rfl; omega), fun a h n => .inr ?_, fun a n => n⟩
  by_cases z : f a = 0
  · have n : (if f a = 0 then F a else H a) ≠ none := n
    rw [if_pos z] at n; exact absurd h n
  · have := hf a; omega
/-! expressions -/
theorem tr_fzV (i : Nat) {x : PySem.Str} {pos : Pos} (hN : X.N[i]? = some x := by rfl) (hv : Vis X.env.scope x := by first | exact Or.inl rfl | exact Or.inr (Or.inl rfl) | exact Or.inr (Or.inr rfl)) (hd : (x == ("__debug__" : PySem.Str)) = false := by decide)
    (hcd : (x == ("__classdict__" : PySem.Str)) = false := by decide) : TrE X G W (.Name x pos) (eFzV i) := by
  refine ⟨_, pe_var hN hv hd hcd, fun F H σ S T Q st p => ?_⟩
  unfold eFzV at p
  cases e : S[i]? with
  | none => rw [e] at p; exact p.elim
  | some s =>
    rw [e] at p
    cases s with
    | none => exact p.elim
    | some kd =>
      obtain ⟨kk, d⟩ := kd
      obtain ⟨v, F', T', hv, r, st', s'⟩ := own_freeze st e
      have p : KE G F H σ T Q (.fz, d) (S.set i (some (.fz, d))) := p
      exact ⟨v, hv, p v F' H T' nil0 (s'.castR fun a => rfl) st' (.fz r) (fun a => st'.le a) fun _ _ => rfl⟩
theorem has_list {α : Type} {K : α → List Slot → Prop} {i : Nat} {f : Unit → M α} (st : St' G F H σ S T) (p : PR G W F H σ T K ((hasL i S).bind f)) : (∃ xs, ownL S i = some xs) ∧ PR G W F H σ T K (f () S) := by
  unfold hasL at p
  cases e : ownL S i with
  | none => rw [e] at p; exact p.elim
  | some xs => rw [e] at p; exact ⟨⟨xs, rfl⟩, p⟩
theorem has_listS {α : Type} {K : α → List Slot → Prop} {i : Nat} {f : Unit → M α} (st : St' G F H σ S T) (p : PRs G W F H T K ((hasL i S).bind f)) : (∃ xs, ownL S i = some xs) ∧ PRs G W F H T K (f () S) := by
  unfold hasL at p
  cases e : ownL S i with
  | none => rw [e] at p; exact p.elim
  | some xs => rw [e] at p; exact ⟨⟨xs, rfl⟩, p⟩
theorem has_dictS {α : Type} {K : α → List Slot → Prop} {i : Nat} {f : Unit → M α} (st : St' G F H σ S T) (p : PRs G W F H T K ((hasK i S).bind f)) : (∃ xs, ownK S i = some xs) ∧ PRs G W F H T K (f () S) := by
  unfold hasK at p
  cases e : ownK S i with
  | none => rw [e] at p; exact p.elim
  | some xs => rw [e] at p; exact ⟨⟨xs, rfl⟩, p⟩
theorem norm_ix {n : Nat} {i : Int} {j : Nat} (h : normIx n i = some j) : ixN n i = some j ∧ j < n ∧ seqIndex? i n = some j := by
  have h2 : ixN n i = some j := h
  obtain ⟨a, b, _, _⟩ := ixN_seq h2
  exact ⟨h2, b, a⟩
theorem tr_setIx (i : Nat) {x : PySem.Str} {e kx : Expr} {m n : E} {p pos' pos : Pos} (h : TrE X G W e m) (h2 : TrE X G W kx n)
    (hN : X.N[i]? = some x := by rfl) (hv : Vis X.env.scope x := by first | exact Or.inl rfl | exact Or.inr (Or.inl rfl) | exact Or.inr (Or.inr rfl)) (hd : (x == ("__debug__" : PySem.Str)) = false := by decide) (hcd : (x == ("__classdict__" : PySem.Str)) = false := by decide)
    (ha : ∀ v, assign (.Subscript (.Name x p) kx pos') X.env v = (do
      let ov ← holding [v] (eval (.Name x p) X.env)
      let iv ← holding [v, ov] (eval kx X.env)
      standAt pos'
      holding [v, ov, iv] (setItem ov iv v)
      release [v, ov, iv] []) := by intro _; rfl)
    (hs : swapsWithSole [.Subscript (.Name x p) kx pos'] e pos.line X.env = pure false := by rfl) (hw : swappedStores [.Subscript (.Name x p) kx pos'] e X.env = pure none := by rfl) (h1 : (assignEach [.Subscript (.Name x p) kx pos'] X.env).map (·.2) = [assign (.Subscript (.Name x p) kx pos') X.env] := by rfl) :
    TrS X G W (.Assign [.Subscript (.Name x p) kx pos'] e pos) (sSetIx i n m) := by
  obtain ⟨t, q, d⟩ := h
  obtain ⟨u, q2, d2⟩ := h2
  refine ⟨_, ps_asg q (pg_sub (pe_var hN hv hd hcd) q2 set_list ha) hs hw h1, fun F H σ S T D st z => d.dat F H σ S T _ st (PRs.bind z fun y S1 z1 => ?_)⟩
  intro v F1 H1 T1 s1 st1 r1
  obtain ⟨⟨xs0, e0⟩, z1⟩ := has_listS st1 (PRs.reS s1 z1)
  obtain ⟨a, vs0, hv0, _⟩ := own_list st1 e0
  refine ⟨_, hv0, ?_⟩
  refine d2.dat F1 H1 σ S1 T1 _ st1 (PRs.bind z1 fun kk S2 z2 => ?_)
  intro w F2 H2 T2 s2 st2 r2
  have z2 := PRs.reS s2 z2
  cases e2 : ownL S2 i with
  | none => rw [e2] at z2; exact z2.elim
  | some xs =>
    rw [e2] at z2
    obtain ⟨a', vs, hv2, hH, rs, _, up⟩ := own_list st2 e2
    rw [hv0] at hv2
    cases hv2
    cases r2 with
    | int j =>
      have z2 : PRs G W F2 H2 T2 (KS G F2 H2 T2 D) (match normIx xs.length j with | some n => .ok .nx (S2.set i (some (.li .fz, .lst (xs.set n y)))) | none => .bad) := z2
      cases e3 : normIx xs.length j with
      | none => rw [e3] at z2; exact z2.elim
      | some nn =>
        rw [e3] at z2
        obtain ⟨n1, n2, n3⟩ := norm_ix e3
        obtain ⟨st3, s3⟩ := up (vs.set nn v) (xs.set nn y) (rs.set (r1.mono s2.sF) nn)
        refine ⟨a, vs, j, nn, rfl, rfl, hH, by rw [rs.len]; exact n1, ?_⟩
        exact (show KS G F2 H2 T2 D .nx _ from z2) σ F2 _ T2 s3 st3
    | _ => exact z2.elim
theorem tr_ixO (i : Nat) {x : PySem.Str} {kx : Expr} {n : E} {p pos : Pos} (h2 : TrE X G W kx n) (hN : X.N[i]? = some x := by rfl) (hv : Vis X.env.scope x := by first | exact Or.inl rfl | exact Or.inr (Or.inl rfl) | exact Or.inr (Or.inr rfl)) (hd : (x == ("__debug__" : PySem.Str)) = false := by decide) (hcd : (x == ("__classdict__" : PySem.Str)) = false := by decide)
    (hp : PlainIx kx := by exact fun _ _ => rfl) : TrE X G W (.Subscript (.Name x p) kx pos) (eIxO i n) := by
  obtain ⟨u, q2, d2⟩ := h2
  refine ⟨_, pe_ix ix_list (pe_var hN hv hd hcd) q2 hp, fun F H σ S T Q st z => ?_⟩
  obtain ⟨⟨xs0, e0⟩, z1⟩ := has_list st z
  obtain ⟨a, vs0, hv0, _⟩ := own_list st e0
  refine ⟨_, hv0, ?_⟩
  refine d2.dat F H σ S T _ st (PR.bind z1 fun kk S2 z2 => ?_)
  intro w F2 H2 T2 s2 st2 r2
  cases e2 : ownL S2 i with
  | none => rw [e2] at z2; exact z2.elim
  | some xs =>
    rw [e2] at z2
    obtain ⟨a', vs, hv2, hH, rs, _, up⟩ := own_list st2 e2
    rw [hv0] at hv2
    cases hv2
    cases r2 with
    | int j =>
      have z2 : PR G W F H σ T (KE G F H σ T Q) (match (normIx xs.length j).bind fun n => xs[n]? with | some d => .ok (.fz, d) S2 | none => .bad) := z2
      cases e3 : normIx xs.length j with
      | none => rw [e3] at z2; exact z2.elim
      | some nn =>
        rw [e3] at z2
        cases e4 : xs[nn]? with
        | none => simp only [Option.bind_some, e4] at z2; exact z2.elim
        | some d =>
          simp only [Option.bind_some, e4] at z2
          have z2 : KE G F H σ T Q (.fz, d) S2 := z2
          obtain ⟨v, hv3, rv⟩ := rs.get e4
          exact ⟨a, vs, j, v, rfl, rfl, .inl (.inl hH), atI_of (by rw [rs.len]; exact e3) hv3, KE.val (KE.re s2 z2) st2 rv⟩
    | _ => exact z2.elim
/-- what a method of a list does -/
def MthOk (G : Cfgx) (r : V → List V → Hp → VK → Prop) (f : List D → List D → Option (D × List D)) : Prop := ∀ F H a vs xs us ds d ys Q, H a = some (.lst vs) → Reps G F vs xs → Reps G F us ds → f xs ds = some (d, ys) → (∀ v ws, Rep G F v d → Reps G F ws ys → Q v (upd H a (.lst ws))) → r (.ref a) us H Q
theorem tr_mth (i : Nat) {x name : PySem.Str} {id : String} {r : V → List V → Hp → VK → Prop} {f : List D → List D → Option (D × List D)} {e : Expr} {es : List Expr} {ms : List E} {p apos cpos : Pos} (slot : PySem.Slot "list" name id) (hty : typeOf (.builtin id) = pure (.type "method_descriptor")) (hm : MtR X id r) (ok : MthOk G r f) (h : TrA X G W (e :: es) ms)
    (hN : X.N[i]? = some x := by rfl) (hv : Vis X.env.scope x := by first | exact Or.inl rfl | exact Or.inr (Or.inl rfl) | exact Or.inr (Or.inr rfl)) (hd : (x == ("__debug__" : PySem.Str)) = false := by decide) (hcd : (x == ("__classdict__" : PySem.Str)) = false := by decide)
    (hbase : attributeBase (.Name x p) name X.env (eval (.Name x p) X.env) = eval (.Name x p) X.env := by rfl)
    (hfew : ((backTo cpos (starEach (e :: es) X.env)).all (fun x => !x.1) && (backToKw cpos (keywordEach [] X.env)).all (fun x => x.1.isSome)
      && decide ((e :: es).length + ([] : List Keyword).length + (if ([] : List Keyword).isEmpty then 0 else 1) < 30)) = true := by rfl)
    (hline : (apos.endLine == cpos.line) = true := by rfl) (hs : starEach (e :: es) X.env = (false, eval e X.env) :: starEach es X.env := by rfl) (hplain : (backTo cpos (starEach es X.env)).any (·.1) = false := by rfl) :
    TrE X G W (.Call (.Attribute (.Name x p) name apos) (e :: es) [] cpos) (eMth f i ms) := by
  obtain ⟨u, q2, d2⟩ := h
  refine ⟨_, pe_bm F.plainAttrs_list slot hty hm (pe_var hN hv hd hcd) q2 hbase hfew hline hs hplain, fun F H σ S T Q st z => ?_⟩
  obtain ⟨⟨xs0, e0⟩, z1⟩ := has_list st z
  obtain ⟨a, vs0, hv0, hH0, _⟩ := own_list st e0
  refine ⟨_, hv0, .inl ⟨rfl, vs0, .inl (.inl hH0)⟩, ?_⟩
  refine d2 F H σ S T _ st (PR.bind z1 fun ds S2 z2 => ?_)
  intro us F2 H2 T2 s2 st2 r2
  cases e2 : ownL S2 i with
  | none => rw [e2] at z2; exact z2.elim
  | some xs =>
    rw [e2] at z2
    obtain ⟨a', vs, hv2, hH, rs, _, up⟩ := own_list st2 e2
    rw [hv0] at hv2
    cases hv2
    have z2 : PR G W F H σ T (KE G F H σ T Q) (match f xs ds with | some (r, ys) => .ok (.fz, r) (S2.set i (some (.li .fz, .lst ys))) | none => .bad) := z2
    cases e3 : f xs ds with
    | none => rw [e3] at z2; exact z2.elim
    | some dy =>
      obtain ⟨d, ys⟩ := dy
      rw [e3] at z2
      have z2 : KE G F H σ T Q (.fz, d) (S2.set i (some (.li .fz, .lst ys))) := z2
      refine ok F2 H2 a vs xs us ds d ys Q hH rs r2 e3 fun v ws rv rws => ?_
      obtain ⟨st3, s3⟩ := up ws ys rws
      exact z2 v F2 _ T2 nil0 ((s2.trans s3).castR fun a => rfl) st3 (.fz rv) (fun a => st3.le a) fun _ _ => rfl
theorem mo_append : MthOk G rAppend fAppend := by
  intro F H a vs xs us ds d ys Q hH rs ru e q
  cases ru with
  | nil => cases e
  | cons r1 r2 =>
    cases r2 with
    | cons a b => cases e
    | nil =>
      have e : (if xs.length < sizeMax then some (D.non, xs ++ [_]) else none) = some (d, ys) := e
      split at e
      · rename_i hz
        cases e
        have l : sizeLine = sizeMax := rfl
        exact ⟨a, vs, _, rfl, rfl, hH, by rw [rs.len, l]; exact hz, q _ _ .non (rs.app (.cons r1 .nil))⟩
      · cases e
theorem mo_popAt : MthOk G rPopAt fPopAt := by
  intro F H a vs xs us ds d ys Q hH rs ru e q
  cases ru with
  | nil => cases e
  | cons r1 r2 =>
    cases r2 with
    | cons a b => cases r1 <;> cases e
    | nil =>
      cases r1 with
      | int i =>
        have e : (if i.natAbs < limN then (normIx xs.length i).bind fun n => xs[n]?.map fun d => (d, xs.eraseIdx n) else none) = some (d, ys) := e
        split at e
        · rename_i hz
          cases e3 : normIx xs.length i with
          | none => rw [e3] at e; cases e
          | some n =>
            rw [e3] at e
            cases e4 : xs[n]? with
            | none => simp only [Option.bind_some, e4] at e; cases e
            | some dd =>
              simp only [Option.bind_some, e4] at e
              cases e
              obtain ⟨v, hv, rv⟩ := rs.get e4
              obtain ⟨n1, n2, n3⟩ := norm_ix e3
              have l : limN = 4611686018427387904 := rfl
              exact ⟨a, vs, i, n, v, rfl, rfl, hH, by omega, by omega, by rw [rs.len]; exact n3, hv, q _ _ rv (rs.erase n)⟩
        · cases e
      | _ => cases e
theorem mo_insert : MthOk G (fun x vs H Q => ∃ (l : Addr) (xs : List V) (i : Int) (y : V), x = .ref l ∧ vs = [.int i, y] ∧ H l = some (.lst xs) ∧ xs.length < sizeLine ∧ 0 ≤ i ∧ i < 2 ^ 63 ∧ Q .non (upd H l (.lst (xs.take i.toNat ++ [y] ++ xs.drop i.toNat)))) fInsert := by
  intro F H a vs xs us ds d ys Q hH rs ru e q
  cases ru with
  | nil => cases e
  | cons r1 r2 =>
    cases r2 with
    | nil => cases r1 <;> cases e
    | cons r2 r3 =>
      cases r3 with
      | cons _ _ => cases r1 <;> cases e
      | nil =>
        cases r1 with
        | int i =>
          have e : (if 0 ≤ i ∧ i.natAbs < limN ∧ xs.length < sizeMax then some (D.non, xs.take i.toNat ++ [_] ++ xs.drop i.toNat) else none) = some (d, ys) := e
          split at e
          · rename_i hz
            cases e
            have l : limN = 4611686018427387904 := rfl
            have l2 : sizeLine = sizeMax := rfl
            exact ⟨a, vs, i, _, rfl, rfl, hH, by rw [rs.len, l2]; exact hz.2.2, hz.1, by omega, q _ _ .non (((rs.take _).app (.cons r2 .nil)).app (rs.drop _))⟩
          · cases e
        | _ => cases e
theorem tr_append (i : Nat) {x : PySem.Str} {e : Expr} {m : E} {p apos cpos : Pos} (h : TrE X G W e m) (hs : starEach [e] X.env = (false, eval e X.env) :: starEach [] X.env := by rfl)
    (hN : X.N[i]? = some x := by rfl) (hv : Vis X.env.scope x := by first | exact Or.inl rfl | exact Or.inr (Or.inl rfl) | exact Or.inr (Or.inr rfl)) (hd : (x == ("__debug__" : PySem.Str)) = false := by decide) (hcd : (x == ("__classdict__" : PySem.Str)) = false := by decide)
    (hbase : attributeBase (.Name x p) "append" X.env (eval (.Name x p) X.env) = eval (.Name x p) X.env := by rfl)
    (hfew : ((backTo cpos (starEach [e] X.env)).all (fun x => !x.1) && (backToKw cpos (keywordEach [] X.env)).all (fun x => x.1.isSome)
      && decide ([e].length + ([] : List Keyword).length + (if ([] : List Keyword).isEmpty then 0 else 1) < 30)) = true := by rfl)
    (hline : (apos.endLine == cpos.line) = true := by rfl) (hplain : (backTo cpos (starEach [] X.env)).any (·.1) = false := by rfl) :
    TrE X G W (.Call (.Attribute (.Name x p) "append" apos) [e] [] cpos) (eMth fAppend i [m]) :=
  tr_mth i F.slot_list_append F.type_list_append mt_append mo_append (tra_cons h tra_nil hs) hN hv hd hcd hbase hfew hline hs hplain
end
end TB

namespace TB
open PySem PySem.Spec PyProof.Rows L2
section
variable {X : Cx} {G : Cfgx} {W : WX} {k : Nat}
/-! ### a target filled -/
theorem tr_put {tg e : Expr} {g : Tg} {m : E} {pos : Pos} (h : TrE X G W e m) (hg : TrG X G tg g) (hs : swapsWithSole [tg] e pos.line X.env = pure false := by rfl) (hw : swappedStores [tg] e X.env = pure none := by rfl)
    (h1 : (assignEach [tg] X.env).map (·.2) = [assign tg X.env] := by rfl) : TrS X G W (.Assign [tg] e pos) (sPut g m) := by
  obtain ⟨t, p, d⟩ := h
  obtain ⟨u, q, dg⟩ := hg
  refine ⟨_, ps_asg p q hs hw h1, fun F H σ S T D st z => d.dat F H σ S T _ st (PRs.bind z fun y S1 z1 => ?_)⟩
  intro v F1 H1 T1 s1 st1 r1
  cases e1 : g.put y S1 with
  | none => rw [e1] at z1; exact z1.elim
  | some S2 =>
    rw [e1] at z1
    exact dg F1 H1 σ S1 T1 v y S2 _ st1 r1 e1 fun σ2 T2 st2 l2 _ => (show KS G F H T D .nx S2 from z1) σ2 F1 H1 T2 (s1.less l2) st2
/-! ### slices -/
def DenO (G : Cfgx) (W : WX) (t : TO) (m : M (Option Int)) : Prop := ∀ F H σ S T Q, St' G F H σ S T → PR G W F H σ T (fun o S' => ∀ F' H' T', Step F H T F' H' T' → St' G F' H' σ S' T' → Q o H') (m S) → t σ H Q
def TrO (X : Cx) (G : Cfgx) (W : WX) (e : Option Expr) (m : Option E) : Prop := ∃ t, PO X e t ∧ DenO G W t (eOpt m)
theorem to_none : TrO X G W none none := ⟨_, po_none, fun F H σ S T Q st p => (show ∀ F' H' T', Step F H T F' H' T' → St' G F' H' σ S T' → Q none H' from p) F H T (Step.refl F H T) st⟩
theorem to_some {e : Expr} {m : E} (h : TrE X G W e m) : TrO X G W (some e) (some m) := by
  obtain ⟨t, p, d⟩ := h
  refine ⟨_, po_some p, fun F H σ S T Q st z => d.dat F H σ S T _ st (PR.bind z fun dd S1 y => ?_)⟩
  intro v F1 H1 T1 s1 st1 r1
  cases r1 with
  | int i => exact ⟨i, rfl, (show ∀ F' H' T', Step F H T F' H' T' → St' G F' H' σ S1 T' → Q (some i) H' from y) F1 H1 T1 s1 st1⟩
  | _ => exact y.elim
theorem cutL_all {α : Type} {xs : List α} {lo hi : Option Int} (h1 : ixS xs.length 0 lo = 0) (h2 : ixS xs.length xs.length hi = xs.length) : cutL xs lo hi = xs := by
  unfold cutL
  rw [h1, h2]
  simp
theorem Reps.cut {F : Hp} {vs : List V} {ds : List D} (r : Reps G F vs ds) (lo hi : Option Int) : Reps G F (cutV vs lo hi) (cutL ds lo hi) := by
  have e : cutV vs lo hi = (vs.drop (ixS vs.length 0 lo)).take (ixS vs.length vs.length hi - ixS vs.length 0 lo) := by
    cases lo <;> cases hi <;> rfl
  rw [e]
  unfold cutL
  rw [r.len]
  exact (r.drop _).take _
theorem tr_sl {e : Expr} {lo hi : Option Expr} {a : E} {ml mh : Option E} {p2 pos : Pos} (C : Cok X G W k) (h : TrE X G W e a) (hl : TrO X G W lo ml) (hh : TrO X G W hi mh) : TrE X G W (.Subscript e (.Slice lo hi none p2) pos) (eSl a ml mh) := by
  obtain ⟨t, p, d⟩ := h
  obtain ⟨u, q, d2⟩ := hl
  obtain ⟨w, r, d3⟩ := hh
  refine ⟨_, pe_slice (sl_list.or (sl_tupA.or sl_str)) p q r, fun F H σ S T Q st z => d.dat F H σ S T _ st (PR.bind z fun x S1 y => ?_)⟩
  intro v F1 H1 T1 s1 st1 r1
  refine d2 F1 H1 σ S1 T1 _ st1 (PR.bind (PR.re s1 (fun _ _ h => h) y) fun l S2 y2 => ?_)
  intro F2 H2 T2 s2 st2
  refine d3 F2 H2 σ S2 T2 _ st2 (PR.bind (PR.re s2 (fun _ _ h => h) y2) fun h S3 y3 => ?_)
  intro F3 H3 T3 s3 st3
  have s13 := (s1.trans s2).trans s3
  have r3 := (r1.mono s2.sF).mono s3.sF
  cases e1 : fSl x l h with
  | none => rw [e1] at y3; exact y3.elim
  | some kd =>
    rw [e1] at y3
    have y3 : KE G F H σ T Q kd S3 := y3
    have y3 := y3.re s13
    have ixe : ∀ (n d : Nat) (o : Option Int), HT.sIx n d o = ixS n d o := fun n d o => by cases o <;> rfl
    cases r3 with
    | @lst b vs ds hb rs =>
      cases e1
      exact .inl ⟨b, vs, rfl, .inl (.inl (st3.sub _ _ hb)), fun p hp => KE.newL y3 st3 (rs.cut l h) p hp⟩
    | @tup b vs ds hb rs =>
      cases e1
      refine .inr (.inl ⟨b, vs, rfl, C.hK ▸ same_t st3.sub hb, fun hw => ?_, fun hw p hp => KE.newT y3 st3 (rs.cut l h) p hp⟩)
      have e2 : cutL ds l h = ds := by
        rw [ixe, ixe] at hw
        exact cutL_all (by rw [← rs.len]; exact hw.1) (by rw [← rs.len]; exact hw.2)
      rw [e2] at y3
      exact KE.val y3 st3 (.tup hb rs)
    | str z =>
      have e1 : (if z.cps.toList.length ≤ sizeMax then kz (.str (cutL z.cps.toList l h)) else none) = some kd := e1
      split at e1
      · rename_i hz
        cases e1
        refine .inr (.inr ⟨z, rfl, by rw [str_len]; exact hz, KE.val y3 st3 ?_⟩)
        have e4 : (cutS z l h).cps.toList = cutL z.cps.toList l h := by
          unfold cutS
          unfold cutL
          rw [ixe, ixe, str_len]
        rw [← e4]
        exact .str _
      · cases e1
    | _ => cases e1
theorem tr_rev {e : Expr} {a : E} {k : Nat} {p1 p2 p3 pos : Pos} (h : TrE X G W e a) : TrE X G W (.Subscript e (.Slice none none (some (.UnaryOp .USub (.Constant (.int 1) k p1) p2)) p3) pos) (eUn fRev a) := by
  obtain ⟨t, p, d⟩ := h
  refine ⟨_, pe_revL p, fun F H σ S T Q st z => d.dat F H σ S T _ st (PR.bind z fun x S1 y => ?_)⟩
  intro v F1 H1 T1 s1 st1 r1
  cases r1 with
  | @lst b vs ds hb rs =>
    have y : KE G F H σ T Q (.li .fz, .lst ds.reverse) S1 := y
    exact ⟨b, vs, rfl, .inl (.inl (st1.sub _ _ hb)), fun p hp => KE.newL (y.re s1) st1 rs.rev p hp⟩
  | _ => exact y.elim
/-! ### sorted -/
theorem ints_of {F : Hp} : ∀ {vs : List V} {ds : List D} {is : List Int}, Reps G F vs ds → intsOf ds = some is → vs = is.map V.int
  | _, _, _, .nil, h => by cases h; rfl
  | _, _, is, .cons r s, h => by
    cases r <;> simp only [intsOf, reduceCtorEq] at h
    rename_i b
    cases q : intsOf _ with
    | none => rw [q] at h; cases h
    | some js =>
      rw [q] at h
      cases h
      rw [ints_of s q]; rfl
theorem strs_of {F : Hp} : ∀ {vs : List V} {ds : List D} {is : List (List Nat)}, Reps G F vs ds → strsOf ds = some is → ∃ zs : List PySem.Str, vs = zs.map V.str ∧ zs.map (fun z => z.cps.toList) = is
  | _, _, _, .nil, h => by cases h; exact ⟨[], rfl, rfl⟩
  | _, _, is, .cons r s, h => by
    cases r <;> simp only [strsOf, reduceCtorEq] at h
    rename_i z
    cases q : strsOf _ with
    | none => rw [q] at h; cases h
    | some js =>
      rw [q] at h
      cases h
      obtain ⟨zs, e1, e2⟩ := strs_of s q
      exact ⟨z :: zs, by rw [e1]; rfl, by rw [← e2]; rfl⟩
theorem reps_ints {F : Hp} : ∀ is : List Int, Reps G F (is.map V.int) (is.map D.int)
  | [] => .nil
  | i :: is => .cons (.int i) (reps_ints is)
theorem reps_strs {F : Hp} : ∀ zs : List PySem.Str, Reps G F (zs.map V.str) ((zs.map fun z => z.cps.toList).map D.str)
  | [] => .nil
  | z :: zs => .cons (.str z) (reps_strs zs)
theorem sortI_eq {is js : List Int} (hp : js.Perm is) (hs : js.Pairwise (· ≤ ·)) : js = sortI is := by
  unfold sortI
  refine List.Perm.eq_of_pairwise (le := (· ≤ ·)) (fun a b _ _ h1 h2 => Int.le_antisymm h1 h2) hs ?_ (hp.trans (List.mergeSort_perm _ _).symm)
  have := List.pairwise_mergeSort (le := fun a b : Int => decide (a ≤ b)) (fun a b c h1 h2 => by simp at *; omega) (fun a b => by simp; omega) is
  exact this.imp fun h => by simpa using h
theorem ltCps_eq : ∀ a b : List Nat, ltCps a b = decide (a < b)
  | [], [] => rfl
  | [], _ :: _ => by simp [ltCps]
  | _ :: _, [] => by simp [ltCps]
  | a :: r, b :: t => by
    rw [show ltCps (a :: r) (b :: t) = (decide (a < b) || (a == b && ltCps r t)) from rfl, ltCps_eq r t]
    by_cases h1 : a < b
    · simp [h1, List.cons_lt_cons_iff]
    · by_cases h2 : a = b
      · subst h2; simp [List.cons_lt_cons_iff]
      · simp [h1, h2, List.cons_lt_cons_iff]
theorem rising_pair : ∀ {zs : List PySem.Str} {p : PySem.Str}, risingS p zs = true → ((p :: zs).map fun z => z.cps.toList).Pairwise (· ≤ ·)
  | [], p, _ => by simp
  | z :: zs, p, h => by
    unfold risingS at h
    obtain ⟨h1, h2⟩ := Bool.and_eq_true_iff.mp h
    have ih := rising_pair h2
    have h3 : p.cps.toList ≤ z.cps.toList := by
      rw [ltCps_eq] at h1
      exact List.not_lt.mp (by simpa using h1)
    rw [List.map_cons, List.pairwise_cons]
    refine ⟨fun y hy => ?_, ih⟩
    rw [List.map_cons] at hy
    rcases List.mem_cons.mp hy with e | e
    · rw [e]; exact h3
    · rw [List.map_cons, List.pairwise_cons] at ih
      exact List.le_trans h3 (ih.1 y e)
theorem sortT_eq {is js : List (List Nat)} (hp : js.Perm is) (hs : js.Pairwise (· ≤ ·)) : js = sortT is := by
  unfold sortT
  refine List.Perm.eq_of_pairwise (le := (· ≤ ·)) (fun a b _ _ h1 h2 => List.le_antisymm h1 h2) hs ?_ (hp.trans (List.mergeSort_perm _ _).symm)
  have e : (fun a b : List Nat => !decide (b < a)) = fun a b => decide (a ≤ b) := by
    funext a b
    rw [← decide_not]
    exact decide_eq_decide.mpr List.not_lt
  rw [e]
  have := List.pairwise_mergeSort (le := fun a b : List Nat => decide (a ≤ b)) (fun a b c h1 h2 => by simp at *; exact List.le_trans h1 h2) (fun a b => by simp; exact List.le_total a b) is
  exact this.imp fun h => by simpa using h
theorem cls_sorted (hK : X.K = G.K) : ∃ r, CallR X (.builtin "sorted") r ∧ SN G r fSorted := by
  refine ⟨_, cr_sortedI.or cr_sortedS, fun F H σ S T xs ds kd Q st rs e k => ?_⟩
  rcases rs with _ | ⟨r1, _ | ⟨r2, r3⟩⟩
  · simp [fSorted] at e
  · cases r1 <;> simp only [fSorted, reduceCtorEq] at e
    rename_i a xs as h1 r1
    cases e1 : intsOf as with
    | some is =>
      rw [e1] at e
      cases e
      have ex := ints_of r1 e1
      subst ex
      refine .inl ⟨a, is, rfl, .inl (.inl (st.sub _ _ h1)), fun js p hp hs hn => ?_⟩
      rw [sortI_eq hp hs]
      exact KE.newL k st (reps_ints _) p hn
    | none =>
      rw [e1] at e
      cases e2 : strsOf as with
      | none => rw [e2] at e; cases e
      | some ss =>
        rw [e2] at e
        have e : (if ss.length < 64 then some ((.li .fz, .lst ((sortT ss).map D.str)) : KD) else none) = some kd := e
        split at e
        · rename_i hz
          cases e
          obtain ⟨zs, ex, ez⟩ := strs_of r1 e2
          subst ex ez
          refine .inr ⟨a, zs, rfl, .inl (.inl (st.sub _ _ h1)), by simpa using hz, fun ys p hp hs hn => ?_⟩
          have e5 : (ys.map fun z => z.cps.toList) = sortT (zs.map fun z => z.cps.toList) := sortT_eq (hp.map _) (by
            cases ys with
            | nil => simp
            | cons y ys => exact rising_pair hs)
          rw [← e5] at k
          exact KE.newL k st (reps_strs _) p hn
        · cases e
  · cases r1 <;> simp [fSorted] at e
/-! ### join -/
theorem joinD_eq (s : List Nat) : ∀ ps, TL.joinL s ps = joinD s ps
  | [] => rfl
  | [_] => rfl
  | p :: q :: r => by
    show p ++ (s ++ TL.joinL s (q :: r)) = p ++ (s ++ joinD s (q :: r))
    rw [joinD_eq s (q :: r)]
theorem tr_join {o e : Expr} {a b : E} {apos pos : Pos} (ho : TrE X G W o a) (he : TrE X G W e b) (hs : starEach [e] X.env = [(false, eval e X.env)] := by rfl) (hbase : attributeBase o "join" X.env (eval o X.env) = eval o X.env := by rfl) (hline : (apos.endLine == pos.line) = true := by rfl) :
    TrE X G W (.Call (.Attribute o "join" apos) [e] [] pos) (eJoin a b) := by
  obtain ⟨t, p, d⟩ := ho
  obtain ⟨u, q, d2⟩ := he
  refine ⟨_, pe_join p q hs hbase hline, fun F H σ S T Q st z => d.dat F H σ S T _ st (PR.bind z fun x S1 y => ?_)⟩
  intro v F1 H1 T1 s1 st1 r1
  cases r1 with
  | str z =>
    refine ⟨⟨z, rfl⟩, ?_⟩
    have y : PR G W F H σ T (KE G F H σ T Q) ((eDat b S1).bind fun y => ofO (fJoin z.cps.toList y)) := y
    refine d2.dat F1 H1 σ S1 T1 _ st1 (PR.bind (PR.re s1 (fun _ _ h => h) y) fun l S2 y2 => ?_)
    intro v2 F2 H2 T2 s2 st2 r2
    cases r2 with
    | @lst c vs ds hc rs =>
      cases e2 : strsOf ds with
      | none =>
        have : fJoin z.cps.toList (.lst ds) = none := by show (strsOf ds).bind _ = none; rw [e2]; rfl
        rw [this] at y2; exact y2.elim
      | some ss =>
        obtain ⟨zs, ex, ez⟩ := strs_of rs e2
        subst ex ez
        have e3 : fJoin z.cps.toList (.lst ds) = if ((zs.map fun z => z.cps.toList).map (·.length)).sum + (zs.map fun z => z.cps.toList).length * z.cps.toList.length ≤ sizeMax then kz (.str (joinD z.cps.toList (zs.map fun z => z.cps.toList))) else none := by
          show (strsOf ds).bind _ = _; rw [e2]; rfl
        rw [e3] at y2
        split at y2
        · rename_i hz
          have y2 : KE G F H σ T Q (.fz, .str (joinD z.cps.toList (zs.map fun z => z.cps.toList))) S2 := y2
          refine ⟨z, c, zs, rfl, rfl, .inl (.inl (.inl (st2.sub _ _ hc))), ?_, ?_⟩
          · have e4 : (zs.map (·.length)) = ((zs.map fun z => z.cps.toList).map (·.length)) := by
              rw [List.map_map]
              exact List.map_congr_left fun z _ => str_len z
            rw [e4, str_len z]
            have hz2 := hz
            rw [List.length_map (as := zs)] at hz2
            exact hz2
          · have e5 : (Txt.join z zs).cps.toList = joinD z.cps.toList (zs.map fun z => z.cps.toList) := by
              rw [TL.join_eq]
              exact (TL.tl_join z zs).trans (joinD_eq _ _)
            rw [← e5] at y2
            exact KE.val (KE.re (s1.trans s2) y2) st2 (.str _)
        · exact y2.elim
    | _ => exact y2.elim
  | _ => exact y.elim
/-! ### a look that gives a new list -/
theorem flat_reps {F : Hp} (F' : Hp) : ∀ {vs : List V} {ds : List D}, ds.all D.flat = true → Reps G F vs ds → Reps G F' vs ds
  | _, _, _, .nil => .nil
  | _, _, h, .cons r s => by
    obtain ⟨h1, h2⟩ := Bool.and_eq_true_iff.mp (show (D.flat _ && List.all _ D.flat) = true from h)
    exact .cons (flat_rep h1 r F') (flat_reps F' h2 s)
theorem tr_peekL {e : Expr} {m : E} {W' : WX} (h : TrE X G W' e m) : TrE X G W e (ePeekL m) := by
  obtain ⟨t, hp, hd⟩ := h
  refine ⟨t, hp, fun F H σ S T Q st p => ?_⟩
  have st2 : St' G H H σ (S.map frz) nil0 := ⟨st.pi, Same.refl H, slots_frz st.sub st.sl, fun _ => Nat.zero_le _, fun _ _ => rfl⟩
  unfold ePeekL at p
  refine hd H H σ (S.map frz) nil0 Q st2 ?_
  cases e : m (S.map frz) with
  | exc x S => rw [e] at p; exact p.elim
  | bad => rw [e] at p; exact p.elim
  | ok kd S1 =>
    rw [e] at p
    obtain ⟨kk, d⟩ := kd
    split at p
    · rename_i ds S2 e3
      cases e3
      split at p
      · rename_i fl
        have p : KE G F H σ T Q (.li .fz, .lst ds) S := p
        intro v F' H' T' f s' st' o le di
        have sHH : Same H H' := fun a u e => s'.fr a u rfl e
        cases o with
        | @li _ a vs _ g hh r =>
          obtain ⟨r1, e1⟩ := reps_fz r
          subst e1
          have hn : ∀ b, add (one a) nil0 b ≠ 0 → H b = none := fun b n => (s'.nT b (by simp only [add] at *; omega)).resolve_left fun z => z rfl
          have ha : H a = none := hn a (by simp [add, one])
          have fa : F a = none := st.sub.free ha
          have tz : ∀ b, add (one a) nil0 b ≠ 0 → T b = 0 := fun b n => Decidable.byContradiction fun z => st.sl.there b z (hn b n)
          refine p (.ref a) F H' T (add (one a) nil0) ⟨Same.refl F, fun a u _ e => sHH a u e, fun b n => ?_, fun a h n => absurd h n, s'.tl⟩ ⟨st.pi, fun a u e => sHH _ _ (st.sub _ _ e), st.sl.mono (Same.refl F) fun a u _ e => sHH a u e, st.le, st.di⟩ (.li hh (owns_fz (flat_reps F fl r1))) (fun b => ?_) (fun b n => ?_)
          · by_cases z : T b = 0
            · exact .inr (hn b (by simp only [add] at *; omega))
            · exact .inl z
          · have h1 := st.le b
            by_cases z : add (one a) nil0 b = 0
            · omega
            · have h2 := tz b z; have : add (one a) nil0 b ≤ 1 := by simp only [add, one, nil0]; split <;> omega
              omega
          · by_cases z : b = a
            · subst z; rw [fa] at n; exact absurd rfl n
            · simp [add, one, nil0, z]
      · exact p.elim
    · exact p.elim
end
end TB

namespace TB
open PySem PySem.Spec PyProof.Rows L2
section
variable {X : Cx} {G : Cfgx} {W : WX} {k : Nat}
/-! ### dicts -/
theorem tr_dnew {pos : Pos} : TrE X G W (.Dict [] [] pos) eDnew := ⟨_, pe_dnewK, fun F H σ S T Q st z => by
  have z : KE G F H σ T Q (.dK .fz, .dic []) S := z
  intro p hp
  obtain ⟨st2, s, le, fp⟩ := st.newT (o := .dK []) hp
  refine z (.ref p) F _ T (add (one p) nil0) (s.castR fun a => rfl) st2 (.dK (kds := []) upd_same rfl .nil) (fun a => le a) fun a n => ?_
  by_cases q : a = p
  · subst q; rw [fp] at n; exact absurd rfl n
  · simp [add, one, nil0, q]⟩
theorem key_of {F : Hp} {v : V} {d : D} (h : isKey d = true) (r : Rep G F v d) : ∃ kk, v = kV kk ∧ d = keyD kk := by
  cases r <;> first | cases h | skip
  · exact ⟨.inl _, rfl, rfl⟩
  · exact ⟨.inr _, rfl, rfl⟩
theorem key_eqv (a b : Key) : D.eqv (keyD a) (keyD b) = decide (a = b) := by
  cases a with
  | inl i => cases b with
    | inl j => simp [keyD, D.eqv, BEq.beq]
    | inr z => simp [keyD, D.eqv]
  | inr w => cases b with
    | inl j => simp [keyD, D.eqv]
    | inr z =>
      show (w.cps.toList == z.cps.toList) = _
      have e : (Sum.inr w : Key) = Sum.inr z ↔ w.cps.toList = z.cps.toList := by
        constructor
        · intro h; cases h; rfl
        · intro h
          cases w; cases z
          have h2 := Array.toList_inj.mp h
          simp at h2
          rw [h2]
      rw [Bool.eq_iff_iff, beq_iff_eq, decide_eq_true_iff]
      exact e.symm
theorem put_any {kvs : List (Key × V)} {kds : List (D × D)} (hk : kds.map (·.1) = kvs.map (fun p => keyD p.1)) (kk : Key) : (kds.any fun p => D.eqv p.1 (keyD kk)) = kvs.any fun kv => decide (kv.1 = kk) := by
  induction kvs generalizing kds with
  | nil => cases kds with
    | nil => rfl
    | cons a b => simp at hk
  | cons p r ih => cases kds with
    | nil => simp at hk
    | cons a b =>
      obtain ⟨h1, h2⟩ := List.cons.inj (show a.1 :: b.map (·.1) = keyD p.1 :: r.map (fun p => keyD p.1) from hk)
      rw [List.any_cons, List.any_cons, ih h2, h1, key_eqv]
theorem put_map {F : Hp} {kvs : List (Key × V)} {kds : List (D × D)} (hk : kds.map (·.1) = kvs.map (fun p => keyD p.1)) (hr : Reps G F (kvs.map (·.2)) (kds.map (·.2))) (kk : Key) {v : V} {d : D} (r : Rep G F v d) :
    (kds.map fun p => if D.eqv p.1 (keyD kk) = true then (p.1, d) else p).map (·.1) = (kvs.map fun kv => if kv.1 = kk then (kv.1, v) else kv).map (fun p => keyD p.1) ∧ Reps G F ((kvs.map fun kv => if kv.1 = kk then (kv.1, v) else kv).map (·.2)) ((kds.map fun p => if D.eqv p.1 (keyD kk) = true then (p.1, d) else p).map (·.2)) := by
  induction kvs generalizing kds with
  | nil => cases kds with
    | nil => exact ⟨rfl, .nil⟩
    | cons a b => simp at hk
  | cons p q ih => cases kds with
    | nil => simp at hk
    | cons a b =>
      obtain ⟨h1, h2⟩ := List.cons.inj (show a.1 :: b.map (·.1) = keyD p.1 :: q.map (fun p => keyD p.1) from hk)
      cases hr with
      | cons r1 r2 =>
        obtain ⟨i1, i2⟩ := ih h2 r2
        have e : D.eqv a.1 (keyD kk) = decide (p.1 = kk) := by rw [h1, key_eqv]
        by_cases z : p.1 = kk
        · rw [decide_eq_true z] at e
          simp only [List.map_cons, e, if_pos z, if_true]
          exact ⟨by rw [i1, h1], .cons r i2⟩
        · rw [decide_eq_false z] at e
          simp only [List.map_cons, e, if_neg z, Bool.false_eq_true, if_false]
          exact ⟨by rw [i1, h1], .cons r1 i2⟩
theorem put_rep {F : Hp} {kvs : List (Key × V)} {kds : List (D × D)} (hk : kds.map (·.1) = kvs.map (fun p => keyD p.1)) (hr : Reps G F (kvs.map (·.2)) (kds.map (·.2))) (kk : Key) {v : V} {d : D} (r : Rep G F v d) :
    (putD kds (keyD kk) d).map (·.1) = (putK kvs kk v).map (fun p => keyD p.1) ∧ Reps G F ((putK kvs kk v).map (·.2)) ((putD kds (keyD kk) d).map (·.2)) := by
  unfold putD putK
  rw [put_any hk kk]
  split
  · exact put_map hk hr kk r
  · rw [List.map_append, List.map_append, List.map_append, List.map_append, hk]
    exact ⟨rfl, hr.app (.cons r .nil)⟩
theorem tr_dput (i : Nat) {x : PySem.Str} {e kx : Expr} {m n : E} {p pos' pos : Pos} (C : Cok X G W k) (h : TrE X G W e m) (h2 : TrE X G W kx n)
    (hN : X.N[i]? = some x := by rfl) (hv : Vis X.env.scope x := by first | exact Or.inl rfl | exact Or.inr (Or.inl rfl) | exact Or.inr (Or.inr rfl)) (hd : (x == ("__debug__" : PySem.Str)) = false := by decide) (hcd : (x == ("__classdict__" : PySem.Str)) = false := by decide)
    (hs : swapsWith e (some (.Subscript (.Name x p) kx pos')) pos.line X.env = pure false := by rfl) :
    TrS X G W (.Assign [.Subscript (.Name x p) kx pos'] e pos) (sDput i n m) := by
  obtain ⟨t, q, d⟩ := h
  obtain ⟨u, q2, d2⟩ := h2
  have hu : X.A.units + 1 < cLine := by have := C.room.units; omega
  refine ⟨_, ps_dput hu (pe_var hN hv hd hcd) q2 q hs, fun F H σ S T D st z => d.dat F H σ S T _ st (PRs.bind z fun y S1 z1 => ?_)⟩
  intro v F1 H1 T1 s1 st1 r1
  obtain ⟨⟨xs0, e0⟩, z1⟩ := has_dictS st1 (PRs.reS s1 z1)
  obtain ⟨a, vs0, hv0, _⟩ := own_dict st1 e0
  refine ⟨_, hv0, ?_⟩
  refine d2.dat F1 H1 σ S1 T1 _ st1 (PRs.bind z1 fun kk S2 z2 => ?_)
  intro w F2 H2 T2 s2 st2 r2
  have z2 := PRs.reS s2 z2
  cases e2 : ownK S2 i with
  | none => rw [e2] at z2; exact z2.elim
  | some xs =>
    rw [e2] at z2
    obtain ⟨a', vs, hv2, hH, hk, rs, up⟩ := own_dict st2 e2
    rw [hv0] at hv2
    cases hv2
    have z2 : PRs G W F2 H2 T2 (KS G F2 H2 T2 D) (if isKey kk = true ∧ xs.length < sizeMax then .ok .nx (S2.set i (some (.dK .fz, .dic (putD xs kk y)))) else .bad) := z2
    split at z2
    · rename_i hz
      obtain ⟨key, ev, ed⟩ := key_of hz.1 r2
      subst ev ed
      obtain ⟨p1, p2⟩ := put_rep hk rs key (r1.mono s2.sF)
      obtain ⟨st3, s3⟩ := up (putK vs key v) (putD xs (keyD key) y) p1 p2
      have hl : vs.length = xs.length := by
        have := congrArg List.length hk
        simpa using this.symm
      exact ⟨a, _, rfl, DPut.k hH (by rw [hl]; exact hz.2), (show KS G F2 H2 T2 D .nx _ from z2) σ F2 _ T2 s3 st3⟩
    · exact z2.elim
/-! ### list(range(n)) -/
theorem tr_listRg1 {a : Expr} {m : E} {p q pos pos2 : Pos} (C : Cok X G W k) (h : TrE X G W a m) (hm : X.mg "list" = none) (hm2 : X.mg "range" = none) (hg : Gl X "list" := by rfl) (hg2 : Gl X "range" := by rfl) (na2 : starEach [a] X.env = (false, eval a X.env) :: starEach [] X.env := by rfl)
    (na : starEach [.Call (.Name "range" q) [a] [] pos2] X.env = (false, eval (.Call (.Name "range" q) [a] [] pos2) X.env) :: starEach [] X.env := by rfl) : TrE X G W (.Call (.Name "list" p) [.Call (.Name "range" q) [a] [] pos2] [] pos) (eLRg1 m) := by
  obtain ⟨t, pa, d⟩ := h
  refine ⟨_, pe_listRg C.calm hg hm (prg_1 hg2 hm2 pa na2) na, fun F H σ S T Q st z => d.dat F H σ S T _ st (PR.bind z fun x S1 y => ?_)⟩
  intro v F1 H1 T1 s1 st1 r1
  cases r1 with
  | int j =>
    have y : PR G W F H σ T (KE G F H σ T Q) ((if j.natAbs ≤ sizeMax then M.pure (.li .fz, .lst (rangeL 0 j.toNat)) else fun _ => .bad) S1) := y
    split at y
    · rename_i hz
      have y : KE G F H σ T Q (.li .fz, .lst (rangeL 0 j.toNat)) S1 := y
      have l : limN = 4611686018427387904 := rfl
      have l2 : (sizeMax : Int) = 16777216 := rfl
      refine ⟨j, rfl, ⟨by omega, by omega, by omega, by omega, by omega⟩, fun p hp => KE.newL (y.re s1) st1 ?_ p hp⟩
      unfold rgV rangeL
      rw [show (j - 0).toNat = j.toNat by omega]
      have : ∀ l : List Nat, Reps G F1 (l.map fun i => V.int (0 + (i : Nat))) (l.map fun (i : Nat) => D.int (0 + (i : Int))) := by
        intro l
        induction l with
        | nil => exact .nil
        | cons a b ih => exact .cons (.int _) ih
      exact this _
    · exact y.elim
  | _ => exact y.elim
/-! ### insert, pop -/
theorem tr_insert (i : Nat) {x : PySem.Str} {e e2 : Expr} {m m2 : E} {p apos cpos : Pos} (h : TrE X G W e m) (h2 : TrE X G W e2 m2) (hs : starEach [e, e2] X.env = (false, eval e X.env) :: starEach [e2] X.env := by rfl) (hs2 : starEach [e2] X.env = (false, eval e2 X.env) :: starEach [] X.env := by rfl)
    (hN : X.N[i]? = some x := by rfl) (hv : Vis X.env.scope x := by first | exact Or.inl rfl | exact Or.inr (Or.inl rfl) | exact Or.inr (Or.inr rfl)) (hd : (x == ("__debug__" : PySem.Str)) = false := by decide) (hcd : (x == ("__classdict__" : PySem.Str)) = false := by decide)
    (hbase : attributeBase (.Name x p) "insert" X.env (eval (.Name x p) X.env) = eval (.Name x p) X.env := by rfl)
    (hfew : ((backTo cpos (starEach [e, e2] X.env)).all (fun x => !x.1) && (backToKw cpos (keywordEach [] X.env)).all (fun x => x.1.isSome)
      && decide ([e, e2].length + ([] : List Keyword).length + (if ([] : List Keyword).isEmpty then 0 else 1) < 30)) = true := by rfl)
    (hline : (apos.endLine == cpos.line) = true := by rfl) (hplain : (backTo cpos (starEach [e2] X.env)).any (·.1) = false := by rfl) :
    TrE X G W (.Call (.Attribute (.Name x p) "insert" apos) [e, e2] [] cpos) (eMth fInsert i [m, m2]) :=
  tr_mth i F.slot_list_insert F.type_list_insert mt_insert mo_insert (tra_cons h (tra_cons h2 tra_nil hs2) hs) hN hv hd hcd hbase hfew hline hs hplain
theorem tr_popAt (i : Nat) {x : PySem.Str} {e : Expr} {m : E} {p apos cpos : Pos} (h : TrE X G W e m) (hs : starEach [e] X.env = (false, eval e X.env) :: starEach [] X.env := by rfl)
    (hN : X.N[i]? = some x := by rfl) (hv : Vis X.env.scope x := by first | exact Or.inl rfl | exact Or.inr (Or.inl rfl) | exact Or.inr (Or.inr rfl)) (hd : (x == ("__debug__" : PySem.Str)) = false := by decide) (hcd : (x == ("__classdict__" : PySem.Str)) = false := by decide)
    (hbase : attributeBase (.Name x p) "pop" X.env (eval (.Name x p) X.env) = eval (.Name x p) X.env := by rfl)
    (hfew : ((backTo cpos (starEach [e] X.env)).all (fun x => !x.1) && (backToKw cpos (keywordEach [] X.env)).all (fun x => x.1.isSome)
      && decide ([e].length + ([] : List Keyword).length + (if ([] : List Keyword).isEmpty then 0 else 1) < 30)) = true := by rfl)
    (hline : (apos.endLine == cpos.line) = true := by rfl) (hplain : (backTo cpos (starEach [] X.env)).any (·.1) = false := by rfl) :
    TrE X G W (.Call (.Attribute (.Name x p) "pop" apos) [e] [] cpos) (eMth fPopAt i [m]) :=
  tr_mth i F.slot_list_pop F.type_list_pop mt_popAt mo_popAt (tra_cons h tra_nil hs) hN hv hd hcd hbase hfew hline hs hplain
end
end TB

namespace TB
open PySem PySem.Spec PyProof.Rows L2
/-! ### xs[a:c] = ys, c beyond the end too -/
theorem bounds_cut {a c n : Nat} (ha : a ≤ n) : sliceBounds (some (a : Int)) (some (c : Int)) none n = ((a : Int), ((min c n : Nat) : Int), 1) := by
  simp only [sliceBounds, Option.getD_none]
  have h1 : ¬ ((a : Int) < 0) := by omega
  have h2 : ¬ ((c : Int) < 0) := by omega
  simp only [h1, h2, if_false, show (1 : Int) > 0 by decide, if_true]
  congr 1
  · omega
  · congr 1; omega
section
variable {prog : Program} {w : World} {A : Around} {E : Value → Shared → Prop} {s : Shared}
theorem setSlice_cut {l b sl : Addr} {items new : Array Value} {n n2 : Nat} {vl vu : Value} {a c : Nat} {Q : Unit → Shared → Prop}
    (e : s.heap.get? l = some { cls := .type "list", data := .seq items n }) (e2 : s.heap.get? b = some { cls := .type "list", data := .seq new n2 }) (hne : l ≠ b)
    (hs : s.heap.IsSliceOf sl vl vu .none) (pl : IsPart vl (some (a : Int))) (pu : IsPart vu (some (c : Int))) (hac : a ≤ c) (ha : a ≤ items.size)
    (hsz : items.size + new.size ≤ sizeLine) (h : Q () { s with heap := s.heap.update l (Obj.mapSeq fun xs => xs.extract 0 a ++ new ++ xs.extract (min c items.size) xs.size) }) :
    wpAny (model prog w) A (setItem (.ref l) (.ref sl) (.ref b)) Q E s := by
  have hl : s.heap.IsList l items := PySem.IsL.isList e
  have hb : s.heap.IsList b new := PySem.IsL.isList e2
  obtain ⟨os, hos, hcs, hds⟩ := id hs
  have hTs : s.TypeIs (.ref sl) "slice" := ⟨os, hos, hcs⟩
  have hstep : ¬ ((rawPart none == rawInt 0) = true) := Bool.false_ne_true
  have hsame : Builtin.List.listSameRef (.ref l) (.ref b) = false := beq_eq_false_iff_ne.mpr hne
  have hmax : (max (a : Int) ((min c items.size : Nat) : Int)).toNat = min c items.size := by omega
  have hz' : ((fun xs : Array Value => xs.extract 0 a ++ new ++ xs.extract (min c items.size) xs.size) items).size ≤ sizeLine + 1 := by
    simp only [Array.size_append, Array.size_extract]
    omega
  unfold setItem
  try with_reducible refine wpAny_holding ?_
  first | refine wpAny_bind (wpAny_pure ?_) | skip
  refine wpAny_bind (wpAny_sequenceKey hl.typeIs (by decide) ?_)
  refine wpAny_bind (wpAny_callSpecial?_slot (name := Str.ofString "__setitem__") hl.typeIs slot_list_setitem
    (wpAny_call_entry slot_list_setitem hl.typeIs entry_list_setitem ?_ (args_list_setitem _ _ _)))
  show wpAny _ _ (Builtin.List.listSubscript? (.ref sl) >>= _) _ _ s
  refine wpAny_bind ?_
  unfold Builtin.List.listSubscript?
  refine wpAny_bind (wpAny_specialOf hTs slice_no_index ?_)
  simp only [Option.isNone_none, if_true]
  refine wpAny_pure ?_
  show wpAny _ _ (typeOf (.ref sl) >>= _) _ _ s
  refine wpAny_bind (wpAny_typeOf hTs ?_)
  first
    | rw [if_neg (by decide)]
    | refine PySem.W.KFB.if_not (by decide) ?_
  rw [listSliceParts_eq]
  refine wpAny_bind (wpAny_bind (wpAny_field hos hds (x := .none) rfl (wpAny_bind (wpAny_listPart .none ?_))))
  rw [if_neg hstep]
  refine wpAny_bind (wpAny_field hos hds (x := vl) rfl (wpAny_bind (wpAny_listPart pl ?_)))
  refine wpAny_bind (wpAny_field hos hds (x := vu) rfl (wpAny_bind (wpAny_listPart pu (wpAny_pure ?_))))
  first
    | simp only [hsame, Bool.false_eq_true, if_false]
    | refine PySem.W.KFB.if_not hsame ?_
    | (dsimp only
       rw [if_neg (by rw [hsame]; exact Bool.false_ne_true)])
  refine wpAny_bind (m := Builtin.List.listAllItems (.ref b) "must assign iterable to extended slice") ?_
  unfold Builtin.List.listAllItems
  refine wpAny_bind (wpAny_typeOf hb.typeIs ?_)
  first
    | refine PySem.W.KFB.if_so (by decide) ?_
    | rw [if_pos (by decide)]
    | simp only [beq_self_eq_true, Bool.true_or, if_true]
  unfold Builtin.List.listItems
  refine wpAny_bind (wpAny_seqItems e2 rfl (wpAny_pure ?_))
  refine wpAny_bind (wpAny_bind (wpAny_seqItems e rfl (wpAny_pure ?_)))
  refine wpAny_bind (wpAny_of_eq ((sliceIndices_raw (some (a : Int)) (some (c : Int)) none items.size (by simp)).trans (congrArg (pure : Int × Int × Int → Sem (Int × Int × Int)) (bounds_cut ha))) ?_)
  show wpAny _ _ (if ((1 : Int) == 1) = true then _ else _) _ _ s
  rw [if_pos (by decide)]
  refine wpAny_bind (wpAny_rule ?_)
  first
    | simp only [notLongL hsz, Bool.false_eq_true, if_false]
    | refine PySem.W.KFB.if_not (notLongL hsz) ?_
  first | refine wpAny_bind (wpAny_pure ?_) | skip
  show wpAny _ _ (updateSeq l (fun xs => xs.extract 0 ((a : Int)).toNat ++ new ++ xs.extract (max (a : Int) ((min c items.size : Nat) : Int)).toNat xs.size) >>= _) _ _ s
  rw [hmax, Int.toNat_natCast]
  refine wpAny_bind (wpAny_updateSeq (hz := Nat.le_trans (Nat.le_add_right _ _) hsz) (_hz' := hz') e rfl ?_)
  refine wpAny_bind (wpAny_letGo ?_)
  first
    | exact wpAny_bind (wpAny_pure (wpAny_pure ⟨.none, rfl, wpAny_pure h⟩))
    | exact wpAny_pure ⟨.none, rfl, wpAny_pure h⟩
end
def gSl (to : TE) (tl th : TO) : TG := fun v σ H Q => to σ H fun o H1 => tl σ H1 fun x H2 => th σ H2 fun y H3 => ∃ (l b : Addr) (xs ys : List V) (i j : Nat), o = .ref l ∧ v = .ref b ∧ x = some (i : Int) ∧ y = some (j : Int) ∧ H3 l = some (.lst xs) ∧ H3 b = some (.lst ys) ∧ l ≠ b ∧ i ≤ j ∧ i ≤ xs.length ∧
  xs.length + ys.length ≤ sizeLine ∧ Q σ (upd H3 l (.lst (xs.take i ++ ys ++ xs.drop j)))
section
variable {X : Cx} {G : Cfgx} {W : WX} {k : Nat}
theorem pg_sl {o : Expr} {a b : Option Expr} {to : TE} {tl th : TO} {p2 pos : Pos} (ho : PE X o to) (ha : PO X a tl) (hb : PO X b th)
    (has : ∀ v, assign (.Subscript o (.Slice a b none p2) pos) X.env v = (do
      let ov ← holding [v] (eval o X.env)
      let iv ← holding [v, ov] (eval (.Slice a b none p2) X.env)
      standAt pos
      holding [v, ov, iv] (setItem ov iv v)
      release [iv, v, ov] []) := by intro _; rfl) : PG X (.Subscript o (.Slice a b none p2) pos) (gSl to tl th) := by
  refine ⟨fun pins s σ H v u Q I r h => ?_⟩
  rw [has]
  refine wpAny_bind (wpAny_holding (thn (ho.run pins s σ H _ I h) fun ov s1 ⟨x, H1, I1, r1, q1⟩ => ?_))
  refine wpAny_bind (wpAny_holding (wpAny_Slice (thn (ha.run pins s1 σ H1 _ I1 q1) fun vl s2 ⟨l, H2, I2, pl, q2⟩ => thn (hb.run pins s2 σ H2 _ I2 q2) fun vu s3 ⟨h2, H3, I3, pu, q3⟩ => ?_)))
  rw [evalPart_none]
  refine wpAny_pure ?_
  obtain ⟨ad, bd, xs, ys, i, j, rfl, rfl, rfl, rfl, hl, hbb, hne, hij, hi, hz, q⟩ := q3
  cases r
  cases r1
  have I4 : Inv X pins σ H3 { s3 with heap := s3.heap.push { cls := .type "slice", data := .fields #[vl, vu, .none] } } := I3.kept (t' := s3.toks) fun b ob q => Heap.get?_push_of_some _ q
  refine wpAny_bind (wpAny_standAt (wpAny_bind (wpAny_holding ?_)))
  obtain ⟨z, its, n, rr, hl1, e⟩ := I4.lstM hl
  obtain ⟨z2, its2, n2, rr2, hl2, e2⟩ := I4.lstM hbb
  refine setSlice_cut (a := i) (c := j) e e2 hne (Heap.IsSliceOf.new ..) pl pu hij (by rw [List.size_toArray]; omega) (by rw [List.size_toArray, List.size_toArray]; omega) ?_
  refine wpAny_release ⟨σ, _, ?_, q⟩
  refine I4.lset (its' := its.take i ++ its2 ++ its.drop j) hl e ?_ (Vals.append (Vals.append (rr.take _) rr2) (rr.drop _)) ?_
  · show its.toArray.extract 0 i ++ its2.toArray ++ its.toArray.extract (min j its.toArray.size) its.toArray.size = _
    rw [splice_eq its its2 i (min j its.toArray.size), List.size_toArray]
    congr 2
    by_cases hj : j ≤ its.length
    · rw [Nat.min_eq_left hj]
    · rw [Nat.min_eq_right (by omega), List.drop_of_length_le (by omega), List.drop_of_length_le (by omega)]
  · rw [List.length_append, List.length_append, List.length_take, List.length_drop]
    omega
theorem tr_setSl (i : Nat) {x : PySem.Str} {e kx ky : Expr} {m n n2 : E} {p p2 pos' pos : Pos} (h : TrE X G W e m) (h2 : TrE X G W kx n) (h3 : TrE X G W ky n2)
    (hN : X.N[i]? = some x := by rfl) (hv : Vis X.env.scope x := by first | exact Or.inl rfl | exact Or.inr (Or.inl rfl) | exact Or.inr (Or.inr rfl)) (hd : (x == ("__debug__" : PySem.Str)) = false := by decide) (hcd : (x == ("__classdict__" : PySem.Str)) = false := by decide)
    (ha : ∀ v, assign (.Subscript (.Name x p) (.Slice (some kx) (some ky) none p2) pos') X.env v = (do
      let ov ← holding [v] (eval (.Name x p) X.env)
      let iv ← holding [v, ov] (eval (.Slice (some kx) (some ky) none p2) X.env)
      standAt pos'
      holding [v, ov, iv] (setItem ov iv v)
      release [iv, v, ov] []) := by intro _; rfl)
    (hs : swapsWithSole [.Subscript (.Name x p) (.Slice (some kx) (some ky) none p2) pos'] e pos.line X.env = pure false := by rfl) (hw : swappedStores [.Subscript (.Name x p) (.Slice (some kx) (some ky) none p2) pos'] e X.env = pure none := by rfl) (h1 : (assignEach [.Subscript (.Name x p) (.Slice (some kx) (some ky) none p2) pos'] X.env).map (·.2) = [assign (.Subscript (.Name x p) (.Slice (some kx) (some ky) none p2) pos') X.env] := by rfl) :
    TrS X G W (.Assign [.Subscript (.Name x p) (.Slice (some kx) (some ky) none p2) pos'] e pos) (sSetSl i n n2 m) := by
  obtain ⟨t, q, d⟩ := h
  obtain ⟨u, q2, d2⟩ := h2
  obtain ⟨w, q3, d3⟩ := h3
  refine ⟨_, ps_asg q (pg_sl (pe_var hN hv hd hcd) (po_some q2) (po_some q3) ha) hs hw h1, fun F H σ S T D st z => d.dat F H σ S T _ st (PRs.bind z fun y S1 z1 => ?_)⟩
  intro v F1 H1 T1 s1 st1 r1
  obtain ⟨⟨xs0, e0⟩, z1⟩ := has_listS st1 (PRs.reS s1 z1)
  obtain ⟨a, vs0, hv0, _⟩ := own_list st1 e0
  refine ⟨_, hv0, ?_⟩
  refine d2.dat F1 H1 σ S1 T1 _ st1 (PRs.bind z1 fun kl S2 z2 => ?_)
  intro vl F2 H2 T2 s2 st2 r2
  have z2 := PRs.reS s2 z2
  refine (show ∃ i, vl = V.int i ∧ tPart w σ H2 _ from ?_)
  cases r2 with
  | int il =>
    refine ⟨il, rfl, ?_⟩
    refine d3.dat F2 H2 σ S2 T2 _ st2 (PRs.bind z2 fun kh S3 z3 => ?_)
    intro vh F3 H3 T3 s3 st3 r3
    have z3 := PRs.reS s3 z3
    cases r3 with
    | int ih =>
      refine ⟨ih, rfl, ?_⟩
      have r1 := (r1.mono s2.sF).mono s3.sF
      cases r1 with
      | @lst b us ys hb ru =>
        have z3 : PRs G W F3 H3 T3 (KS G F3 H3 T3 D) (match ownL S3 i with | some xs => if 0 ≤ il ∧ il ≤ ih ∧ il ≤ xs.length ∧ xs.length + ys.length ≤ sizeMax then .ok .nx (S3.set i (some (.li .fz, .lst (xs.take il.toNat ++ ys ++ xs.drop ih.toNat)))) else .bad | none => .bad) := z3
        cases e2 : ownL S3 i with
        | none => rw [e2] at z3; exact z3.elim
        | some xs =>
          rw [e2] at z3
          obtain ⟨a', vs, hv2, hH, rs, t1, up⟩ := own_list st3 e2
          rw [hv0] at hv2
          cases hv2
          have z3 : PRs G W F3 H3 T3 (KS G F3 H3 T3 D) (if 0 ≤ il ∧ il ≤ ih ∧ il ≤ xs.length ∧ xs.length + ys.length ≤ sizeMax then .ok .nx (S3.set i (some (.li .fz, .lst (xs.take il.toNat ++ ys ++ xs.drop ih.toNat)))) else .bad) := z3
          split at z3
          · rename_i hz
            obtain ⟨z4, z5, z6, z7⟩ := hz
            obtain ⟨st4, s4⟩ := up (vs.take il.toNat ++ us ++ vs.drop ih.toNat) _ (((rs.take _).app ru).app (rs.drop _))
            have hne : a ≠ b := fun q => by
              subst q
              rw [t1] at hb; cases hb
            exact ⟨a, b, vs, us, il.toNat, ih.toNat, rfl, rfl, by rw [Int.toNat_of_nonneg z4], by rw [Int.toNat_of_nonneg (by omega)], hH, st3.sub _ _ hb, hne, by omega, by rw [rs.len]; omega, by rw [rs.len, ru.len]; exact z7, (show KS G F3 H3 T3 D .nx _ from z3) σ F3 _ T3 s4 st4⟩
          · exact z3.elim
      | _ => exact z3.elim
    | _ => exact z3.elim
  | _ => exact z2.elim
theorem tr_slO (i : Nat) {x : PySem.Str} {lo hi : Option Expr} {ml mh : Option E} {p p2 pos : Pos} (hl : TrO X G W lo ml) (hh : TrO X G W hi mh) (hN : X.N[i]? = some x := by rfl) (hv : Vis X.env.scope x := by first | exact Or.inl rfl | exact Or.inr (Or.inl rfl) | exact Or.inr (Or.inr rfl)) (hd : (x == ("__debug__" : PySem.Str)) = false := by decide) (hcd : (x == ("__classdict__" : PySem.Str)) = false := by decide) :
    TrE X G W (.Subscript (.Name x p) (.Slice lo hi none p2) pos) (eSlO i ml mh) := by
  obtain ⟨u, q, d2⟩ := hl
  obtain ⟨w, r, d3⟩ := hh
  refine ⟨_, pe_slice sl_list (pe_var hN hv hd hcd) q r, fun F H σ S T Q st z => ?_⟩
  obtain ⟨⟨xs0, e0⟩, z1⟩ := has_list st z
  obtain ⟨a, vs0, hv0, _⟩ := own_list st e0
  refine ⟨_, hv0, ?_⟩
  refine d2 F H σ S T _ st (PR.bind z1 fun l S2 y2 => ?_)
  intro F2 H2 T2 s2 st2
  refine d3 F2 H2 σ S2 T2 _ st2 (PR.bind (PR.re s2 (fun _ _ h => h) y2) fun h S3 y3 => ?_)
  intro F3 H3 T3 s3 st3
  cases e2 : ownL S3 i with
  | none => rw [e2] at y3; exact y3.elim
  | some xs =>
    rw [e2] at y3
    obtain ⟨a', vs, hv2, hH, rs, _, up⟩ := own_list st3 e2
    rw [hv0] at hv2
    cases hv2
    have y3 : KE G F H σ T Q (.li .fz, .lst (cutL xs l h)) S3 := y3
    exact ⟨a, vs, rfl, .inl (.inl hH), fun p hp => KE.newL (y3.re (s2.trans s3)) st3 (rs.cut l h) p hp⟩
end
end TB

namespace TB
open PySem PySem.Spec PyProof.Rows L2
theorem S2.or {G : Cfgx} {r r' : R2} {f g : D → D → Option KD} (h : S2 G r f) (h' : S2 G r' g) : S2 G (fun x y H Q => r x y H Q ∨ r' x y H Q) (fOr f g) := by
  intro F H σ S T x y dx dy kd Q st rx ry e q
  unfold fOr at e
  cases e1 : f dx dy with
  | some a => rw [e1] at e; cases e; exact .inl (h F H σ S T x y dx dy kd Q st rx ry e1 q)
  | none => rw [e1] at e; exact .inr (h' F H σ S T x y dx dy kd Q st rx ry e q)
section
variable {X : Cx} {G : Cfgx} {W : WX} {k : Nat}
theorem cls_inA (hK : X.K = G.K) : ∃ r, OpR X (compareOp .In) r ∧ S2 G r fInA := by
  obtain ⟨r, h1, h2⟩ := cls_in (X := X) (G := G) hK
  obtain ⟨r', g1, g2⟩ := cls_inS (X := X) (G := G)
  exact ⟨_, orR h1 g1, h2.or g2⟩
theorem cls_notInA (hK : X.K = G.K) : ∃ r, OpR X (compareOp .NotIn) r ∧ S2 G r fNotInA := by
  obtain ⟨r, h1, h2⟩ := cls_notIn (X := X) (G := G) hK
  obtain ⟨r', g1, g2⟩ := cls_notInS (X := X) (G := G)
  exact ⟨_, orR h1 g1, h2.or g2⟩
theorem cls_isA : ∃ r, OpR X (compareOp .Is) r ∧ S2 G r fIsA := by
  obtain ⟨r, h1, h2⟩ := cls_isN (X := X) (G := G)
  obtain ⟨r', g1, g2⟩ := cls_isB (X := X) (G := G)
  exact ⟨_, orR h1 g1, h2.or g2⟩
theorem cls_notA : ∃ r, OpR X (compareOp .IsNot) r ∧ S2 G r fIsNotA := by
  obtain ⟨r, h1, h2⟩ := cls_notN (X := X) (G := G)
  obtain ⟨r', g1, g2⟩ := cls_notB (X := X) (G := G)
  exact ⟨_, orR h1 g1, h2.or g2⟩
theorem tr_Add (C : Cok X G W k) {a b : Expr} {ma mb : E} {pos : Pos} (ha : TrE X G W a ma) (hb : TrE X G W b mb) : TrE X G W (.BinOp a .Add b pos) (eOp fAdd ma mb) := by
  obtain ⟨r, h1, h2⟩ := cls_add (X := X) (G := G) C.hK
  exact tr_op h1 h2 ha hb
theorem tr_Sub (C : Cok X G W k) {a b : Expr} {ma mb : E} {pos : Pos} (ha : TrE X G W a ma) (hb : TrE X G W b mb) : TrE X G W (.BinOp a .Sub b pos) (eOp fSub ma mb) := by
  obtain ⟨r, h1, h2⟩ := cls_sub (X := X) (G := G)
  exact tr_op h1 h2 ha hb
theorem tr_Mult (C : Cok X G W k) {a b : Expr} {ma mb : E} {pos : Pos} (ha : TrE X G W a ma) (hb : TrE X G W b mb) : TrE X G W (.BinOp a .Mult b pos) (eOp fMul ma mb) := by
  obtain ⟨r, h1, h2⟩ := cls_mul (X := X) (G := G) C.hK
  exact tr_op h1 h2 ha hb
theorem tr_Mod (C : Cok X G W k) {a b : Expr} {ma mb : E} {pos : Pos} (ha : TrE X G W a ma) (hb : TrE X G W b mb) : TrE X G W (.BinOp a .Mod b pos) (eOp fMod ma mb) := by
  obtain ⟨r, h1, h2⟩ := cls_mod (X := X) (G := G)
  exact tr_op h1 h2 ha hb
theorem tr_FloorDiv (C : Cok X G W k) {a b : Expr} {ma mb : E} {pos : Pos} (ha : TrE X G W a ma) (hb : TrE X G W b mb) : TrE X G W (.BinOp a .FloorDiv b pos) (eOp fDiv ma mb) := by
  obtain ⟨r, h1, h2⟩ := cls_div (X := X) (G := G)
  exact tr_op h1 h2 ha hb
theorem tr_Pow (C : Cok X G W k) {a b : Expr} {ma mb : E} {pos : Pos} (ha : TrE X G W a ma) (hb : TrE X G W b mb) : TrE X G W (.BinOp a .Pow b pos) (eOp fPow ma mb) := by
  obtain ⟨r, h1, h2⟩ := cls_pow (X := X) (G := G)
  exact tr_op h1 h2 ha hb
theorem tr_Lt (C : Cok X G W k) {a b : Expr} {ma mb : E} {pos : Pos} (ha : TrE X G W a ma) (hb : TrE X G W b mb) (hm : behindInMarks .Lt b = false := by rfl) : TrE X G W (.Compare a [.Lt] [b] pos) (eOp fLt ma mb) := by
  obtain ⟨r, h1, h2⟩ := cls_lt (X := X) (G := G)
  exact tr_cmp h1 h2 ha hb hm
theorem tt_Lt (C : Cok X G W k) {a b : Expr} {ma mb : E} {pos : Pos} (ha : TrE X G W a ma) (hb : TrE X G W b mb) (hm : behindInMarks .Lt b = false := by rfl) : TrT X G W (.Compare a [.Lt] [b] pos) (eBool (eOp fLt ma mb)) := by
  obtain ⟨r, h1, h2⟩ := cls_lt (X := X) (G := G)
  exact tt_cmp h1 h2 ha hb hm
theorem tr_LtE (C : Cok X G W k) {a b : Expr} {ma mb : E} {pos : Pos} (ha : TrE X G W a ma) (hb : TrE X G W b mb) (hm : behindInMarks .LtE b = false := by rfl) : TrE X G W (.Compare a [.LtE] [b] pos) (eOp fLe ma mb) := by
  obtain ⟨r, h1, h2⟩ := cls_le (X := X) (G := G)
  exact tr_cmp h1 h2 ha hb hm
theorem tt_LtE (C : Cok X G W k) {a b : Expr} {ma mb : E} {pos : Pos} (ha : TrE X G W a ma) (hb : TrE X G W b mb) (hm : behindInMarks .LtE b = false := by rfl) : TrT X G W (.Compare a [.LtE] [b] pos) (eBool (eOp fLe ma mb)) := by
  obtain ⟨r, h1, h2⟩ := cls_le (X := X) (G := G)
  exact tt_cmp h1 h2 ha hb hm
theorem tr_Gt (C : Cok X G W k) {a b : Expr} {ma mb : E} {pos : Pos} (ha : TrE X G W a ma) (hb : TrE X G W b mb) (hm : behindInMarks .Gt b = false := by rfl) : TrE X G W (.Compare a [.Gt] [b] pos) (eOp fGt ma mb) := by
  obtain ⟨r, h1, h2⟩ := cls_gt (X := X) (G := G)
  exact tr_cmp h1 h2 ha hb hm
theorem tt_Gt (C : Cok X G W k) {a b : Expr} {ma mb : E} {pos : Pos} (ha : TrE X G W a ma) (hb : TrE X G W b mb) (hm : behindInMarks .Gt b = false := by rfl) : TrT X G W (.Compare a [.Gt] [b] pos) (eBool (eOp fGt ma mb)) := by
  obtain ⟨r, h1, h2⟩ := cls_gt (X := X) (G := G)
  exact tt_cmp h1 h2 ha hb hm
theorem tr_GtE (C : Cok X G W k) {a b : Expr} {ma mb : E} {pos : Pos} (ha : TrE X G W a ma) (hb : TrE X G W b mb) (hm : behindInMarks .GtE b = false := by rfl) : TrE X G W (.Compare a [.GtE] [b] pos) (eOp fGe ma mb) := by
  obtain ⟨r, h1, h2⟩ := cls_ge (X := X) (G := G)
  exact tr_cmp h1 h2 ha hb hm
theorem tt_GtE (C : Cok X G W k) {a b : Expr} {ma mb : E} {pos : Pos} (ha : TrE X G W a ma) (hb : TrE X G W b mb) (hm : behindInMarks .GtE b = false := by rfl) : TrT X G W (.Compare a [.GtE] [b] pos) (eBool (eOp fGe ma mb)) := by
  obtain ⟨r, h1, h2⟩ := cls_ge (X := X) (G := G)
  exact tt_cmp h1 h2 ha hb hm
theorem tr_Eq (C : Cok X G W k) {a b : Expr} {ma mb : E} {pos : Pos} (ha : TrE X G W a ma) (hb : TrE X G W b mb) (hm : behindInMarks .Eq b = false := by rfl) : TrE X G W (.Compare a [.Eq] [b] pos) (eOp fEq ma mb) := by
  obtain ⟨r, h1, h2⟩ := cls_eq (X := X) (G := G) C.hK C.room
  exact tr_cmp h1 h2 ha hb hm
theorem tt_Eq (C : Cok X G W k) {a b : Expr} {ma mb : E} {pos : Pos} (ha : TrE X G W a ma) (hb : TrE X G W b mb) (hm : behindInMarks .Eq b = false := by rfl) : TrT X G W (.Compare a [.Eq] [b] pos) (eBool (eOp fEq ma mb)) := by
  obtain ⟨r, h1, h2⟩ := cls_eq (X := X) (G := G) C.hK C.room
  exact tt_cmp h1 h2 ha hb hm
theorem tr_NotEq (C : Cok X G W k) {a b : Expr} {ma mb : E} {pos : Pos} (ha : TrE X G W a ma) (hb : TrE X G W b mb) (hm : behindInMarks .NotEq b = false := by rfl) : TrE X G W (.Compare a [.NotEq] [b] pos) (eOp fNe ma mb) := by
  obtain ⟨r, h1, h2⟩ := cls_ne (X := X) (G := G) C.hK C.room
  exact tr_cmp h1 h2 ha hb hm
theorem tt_NotEq (C : Cok X G W k) {a b : Expr} {ma mb : E} {pos : Pos} (ha : TrE X G W a ma) (hb : TrE X G W b mb) (hm : behindInMarks .NotEq b = false := by rfl) : TrT X G W (.Compare a [.NotEq] [b] pos) (eBool (eOp fNe ma mb)) := by
  obtain ⟨r, h1, h2⟩ := cls_ne (X := X) (G := G) C.hK C.room
  exact tt_cmp h1 h2 ha hb hm
theorem tr_In (C : Cok X G W k) {a b : Expr} {ma mb : E} {pos : Pos} (ha : TrE X G W a ma) (hb : TrE X G W b mb) (hm : behindInMarks .In b = false := by rfl) : TrE X G W (.Compare a [.In] [b] pos) (eOp fInA ma mb) := by
  obtain ⟨r, h1, h2⟩ := cls_inA (X := X) (G := G) C.hK
  exact tr_cmp h1 h2 ha hb hm
theorem tt_In (C : Cok X G W k) {a b : Expr} {ma mb : E} {pos : Pos} (ha : TrE X G W a ma) (hb : TrE X G W b mb) (hm : behindInMarks .In b = false := by rfl) : TrT X G W (.Compare a [.In] [b] pos) (eBool (eOp fInA ma mb)) := by
  obtain ⟨r, h1, h2⟩ := cls_inA (X := X) (G := G) C.hK
  exact tt_cmp h1 h2 ha hb hm
theorem tr_NotIn (C : Cok X G W k) {a b : Expr} {ma mb : E} {pos : Pos} (ha : TrE X G W a ma) (hb : TrE X G W b mb) (hm : behindInMarks .NotIn b = false := by rfl) : TrE X G W (.Compare a [.NotIn] [b] pos) (eOp fNotInA ma mb) := by
  obtain ⟨r, h1, h2⟩ := cls_notInA (X := X) (G := G) C.hK
  exact tr_cmp h1 h2 ha hb hm
theorem tt_NotIn (C : Cok X G W k) {a b : Expr} {ma mb : E} {pos : Pos} (ha : TrE X G W a ma) (hb : TrE X G W b mb) (hm : behindInMarks .NotIn b = false := by rfl) : TrT X G W (.Compare a [.NotIn] [b] pos) (eBool (eOp fNotInA ma mb)) := by
  obtain ⟨r, h1, h2⟩ := cls_notInA (X := X) (G := G) C.hK
  exact tt_cmp h1 h2 ha hb hm
theorem tr_Is (C : Cok X G W k) {a b : Expr} {ma mb : E} {pos : Pos} (ha : TrE X G W a ma) (hb : TrE X G W b mb) (hm : behindInMarks .Is b = false := by rfl) : TrE X G W (.Compare a [.Is] [b] pos) (eOp fIsA ma mb) := by
  obtain ⟨r, h1, h2⟩ := cls_isA (X := X) (G := G)
  exact tr_cmp h1 h2 ha hb hm
theorem tt_Is (C : Cok X G W k) {a b : Expr} {ma mb : E} {pos : Pos} (ha : TrE X G W a ma) (hb : TrE X G W b mb) (hm : behindInMarks .Is b = false := by rfl) : TrT X G W (.Compare a [.Is] [b] pos) (eBool (eOp fIsA ma mb)) := by
  obtain ⟨r, h1, h2⟩ := cls_isA (X := X) (G := G)
  exact tt_cmp h1 h2 ha hb hm
theorem tr_IsNot (C : Cok X G W k) {a b : Expr} {ma mb : E} {pos : Pos} (ha : TrE X G W a ma) (hb : TrE X G W b mb) (hm : behindInMarks .IsNot b = false := by rfl) : TrE X G W (.Compare a [.IsNot] [b] pos) (eOp fIsNotA ma mb) := by
  obtain ⟨r, h1, h2⟩ := cls_notA (X := X) (G := G)
  exact tr_cmp h1 h2 ha hb hm
theorem tt_IsNot (C : Cok X G W k) {a b : Expr} {ma mb : E} {pos : Pos} (ha : TrE X G W a ma) (hb : TrE X G W b mb) (hm : behindInMarks .IsNot b = false := by rfl) : TrT X G W (.Compare a [.IsNot] [b] pos) (eBool (eOp fIsNotA ma mb)) := by
  obtain ⟨r, h1, h2⟩ := cls_notA (X := X) (G := G)
  exact tt_cmp h1 h2 ha hb hm
theorem tr_Lt_Lt (C : Cok X G W k) {a b c : Expr} {ma mb mc : E} {pos : Pos} (ha : TrE X G W a ma) (hb : TrE X G W b mb) (hc : TrE X G W c mc) (hm : lastMarks [.Lt, .Lt] [b, c] = false := by with_unfolding_all rfl) : TrE X G W (.Compare a [.Lt, .Lt] [b, c] pos) (eChain fLt fLt ma mb mc) := by
  obtain ⟨r, h1, h2⟩ := cls_lt (X := X) (G := G)
  obtain ⟨r', g1, g2⟩ := cls_lt (X := X) (G := G)
  exact tr_chain h1 g1 h2 g2 ha hb hc hm
theorem tt_Lt_Lt (C : Cok X G W k) {a b c : Expr} {ma mb mc : E} {pos : Pos} (ha : TrE X G W a ma) (hb : TrE X G W b mb) (hc : TrE X G W c mc) (hm : lastMarks [.Lt, .Lt] [b, c] = false := by with_unfolding_all rfl) : TrT X G W (.Compare a [.Lt, .Lt] [b, c] pos) (eBool (eChain fLt fLt ma mb mc)) := by
  obtain ⟨r, h1, h2⟩ := cls_lt (X := X) (G := G)
  obtain ⟨r', g1, g2⟩ := cls_lt (X := X) (G := G)
  exact tt_chain h1 g1 h2 g2 ha hb hc hm
theorem tr_Lt_LtE (C : Cok X G W k) {a b c : Expr} {ma mb mc : E} {pos : Pos} (ha : TrE X G W a ma) (hb : TrE X G W b mb) (hc : TrE X G W c mc) (hm : lastMarks [.Lt, .LtE] [b, c] = false := by with_unfolding_all rfl) : TrE X G W (.Compare a [.Lt, .LtE] [b, c] pos) (eChain fLt fLe ma mb mc) := by
  obtain ⟨r, h1, h2⟩ := cls_lt (X := X) (G := G)
  obtain ⟨r', g1, g2⟩ := cls_le (X := X) (G := G)
  exact tr_chain h1 g1 h2 g2 ha hb hc hm
theorem tt_Lt_LtE (C : Cok X G W k) {a b c : Expr} {ma mb mc : E} {pos : Pos} (ha : TrE X G W a ma) (hb : TrE X G W b mb) (hc : TrE X G W c mc) (hm : lastMarks [.Lt, .LtE] [b, c] = false := by with_unfolding_all rfl) : TrT X G W (.Compare a [.Lt, .LtE] [b, c] pos) (eBool (eChain fLt fLe ma mb mc)) := by
  obtain ⟨r, h1, h2⟩ := cls_lt (X := X) (G := G)
  obtain ⟨r', g1, g2⟩ := cls_le (X := X) (G := G)
  exact tt_chain h1 g1 h2 g2 ha hb hc hm
theorem tr_Lt_Gt (C : Cok X G W k) {a b c : Expr} {ma mb mc : E} {pos : Pos} (ha : TrE X G W a ma) (hb : TrE X G W b mb) (hc : TrE X G W c mc) (hm : lastMarks [.Lt, .Gt] [b, c] = false := by with_unfolding_all rfl) : TrE X G W (.Compare a [.Lt, .Gt] [b, c] pos) (eChain fLt fGt ma mb mc) := by
  obtain ⟨r, h1, h2⟩ := cls_lt (X := X) (G := G)
  obtain ⟨r', g1, g2⟩ := cls_gt (X := X) (G := G)
  exact tr_chain h1 g1 h2 g2 ha hb hc hm
theorem tt_Lt_Gt (C : Cok X G W k) {a b c : Expr} {ma mb mc : E} {pos : Pos} (ha : TrE X G W a ma) (hb : TrE X G W b mb) (hc : TrE X G W c mc) (hm : lastMarks [.Lt, .Gt] [b, c] = false := by with_unfolding_all rfl) : TrT X G W (.Compare a [.Lt, .Gt] [b, c] pos) (eBool (eChain fLt fGt ma mb mc)) := by
  obtain ⟨r, h1, h2⟩ := cls_lt (X := X) (G := G)
  obtain ⟨r', g1, g2⟩ := cls_gt (X := X) (G := G)
  exact tt_chain h1 g1 h2 g2 ha hb hc hm
theorem tr_Lt_GtE (C : Cok X G W k) {a b c : Expr} {ma mb mc : E} {pos : Pos} (ha : TrE X G W a ma) (hb : TrE X G W b mb) (hc : TrE X G W c mc) (hm : lastMarks [.Lt, .GtE] [b, c] = false := by with_unfolding_all rfl) : TrE X G W (.Compare a [.Lt, .GtE] [b, c] pos) (eChain fLt fGe ma mb mc) := by
  obtain ⟨r, h1, h2⟩ := cls_lt (X := X) (G := G)
  obtain ⟨r', g1, g2⟩ := cls_ge (X := X) (G := G)
  exact tr_chain h1 g1 h2 g2 ha hb hc hm
theorem tt_Lt_GtE (C : Cok X G W k) {a b c : Expr} {ma mb mc : E} {pos : Pos} (ha : TrE X G W a ma) (hb : TrE X G W b mb) (hc : TrE X G W c mc) (hm : lastMarks [.Lt, .GtE] [b, c] = false := by with_unfolding_all rfl) : TrT X G W (.Compare a [.Lt, .GtE] [b, c] pos) (eBool (eChain fLt fGe ma mb mc)) := by
  obtain ⟨r, h1, h2⟩ := cls_lt (X := X) (G := G)
  obtain ⟨r', g1, g2⟩ := cls_ge (X := X) (G := G)
  exact tt_chain h1 g1 h2 g2 ha hb hc hm
theorem tr_LtE_Lt (C : Cok X G W k) {a b c : Expr} {ma mb mc : E} {pos : Pos} (ha : TrE X G W a ma) (hb : TrE X G W b mb) (hc : TrE X G W c mc) (hm : lastMarks [.LtE, .Lt] [b, c] = false := by with_unfolding_all rfl) : TrE X G W (.Compare a [.LtE, .Lt] [b, c] pos) (eChain fLe fLt ma mb mc) := by
  obtain ⟨r, h1, h2⟩ := cls_le (X := X) (G := G)
  obtain ⟨r', g1, g2⟩ := cls_lt (X := X) (G := G)
  exact tr_chain h1 g1 h2 g2 ha hb hc hm
theorem tt_LtE_Lt (C : Cok X G W k) {a b c : Expr} {ma mb mc : E} {pos : Pos} (ha : TrE X G W a ma) (hb : TrE X G W b mb) (hc : TrE X G W c mc) (hm : lastMarks [.LtE, .Lt] [b, c] = false := by with_unfolding_all rfl) : TrT X G W (.Compare a [.LtE, .Lt] [b, c] pos) (eBool (eChain fLe fLt ma mb mc)) := by
  obtain ⟨r, h1, h2⟩ := cls_le (X := X) (G := G)
  obtain ⟨r', g1, g2⟩ := cls_lt (X := X) (G := G)
  exact tt_chain h1 g1 h2 g2 ha hb hc hm
theorem tr_LtE_LtE (C : Cok X G W k) {a b c : Expr} {ma mb mc : E} {pos : Pos} (ha : TrE X G W a ma) (hb : TrE X G W b mb) (hc : TrE X G W c mc) (hm : lastMarks [.LtE, .LtE] [b, c] = false := by with_unfolding_all rfl) : TrE X G W (.Compare a [.LtE, .LtE] [b, c] pos) (eChain fLe fLe ma mb mc) := by
  obtain ⟨r, h1, h2⟩ := cls_le (X := X) (G := G)
  obtain ⟨r', g1, g2⟩ := cls_le (X := X) (G := G)
  exact tr_chain h1 g1 h2 g2 ha hb hc hm
theorem tt_LtE_LtE (C : Cok X G W k) {a b c : Expr} {ma mb mc : E} {pos : Pos} (ha : TrE X G W a ma) (hb : TrE X G W b mb) (hc : TrE X G W c mc) (hm : lastMarks [.LtE, .LtE] [b, c] = false := by with_unfolding_all rfl) : TrT X G W (.Compare a [.LtE, .LtE] [b, c] pos) (eBool (eChain fLe fLe ma mb mc)) := by
  obtain ⟨r, h1, h2⟩ := cls_le (X := X) (G := G)
  obtain ⟨r', g1, g2⟩ := cls_le (X := X) (G := G)
  exact tt_chain h1 g1 h2 g2 ha hb hc hm
theorem tr_LtE_Gt (C : Cok X G W k) {a b c : Expr} {ma mb mc : E} {pos : Pos} (ha : TrE X G W a ma) (hb : TrE X G W b mb) (hc : TrE X G W c mc) (hm : lastMarks [.LtE, .Gt] [b, c] = false := by with_unfolding_all rfl) : TrE X G W (.Compare a [.LtE, .Gt] [b, c] pos) (eChain fLe fGt ma mb mc) := by
  obtain ⟨r, h1, h2⟩ := cls_le (X := X) (G := G)
  obtain ⟨r', g1, g2⟩ := cls_gt (X := X) (G := G)
  exact tr_chain h1 g1 h2 g2 ha hb hc hm
theorem tt_LtE_Gt (C : Cok X G W k) {a b c : Expr} {ma mb mc : E} {pos : Pos} (ha : TrE X G W a ma) (hb : TrE X G W b mb) (hc : TrE X G W c mc) (hm : lastMarks [.LtE, .Gt] [b, c] = false := by with_unfolding_all rfl) : TrT X G W (.Compare a [.LtE, .Gt] [b, c] pos) (eBool (eChain fLe fGt ma mb mc)) := by
  obtain ⟨r, h1, h2⟩ := cls_le (X := X) (G := G)
  obtain ⟨r', g1, g2⟩ := cls_gt (X := X) (G := G)
  exact tt_chain h1 g1 h2 g2 ha hb hc hm
theorem tr_LtE_GtE (C : Cok X G W k) {a b c : Expr} {ma mb mc : E} {pos : Pos} (ha : TrE X G W a ma) (hb : TrE X G W b mb) (hc : TrE X G W c mc) (hm : lastMarks [.LtE, .GtE] [b, c] = false := by with_unfolding_all rfl) : TrE X G W (.Compare a [.LtE, .GtE] [b, c] pos) (eChain fLe fGe ma mb mc) := by
  obtain ⟨r, h1, h2⟩ := cls_le (X := X) (G := G)
  obtain ⟨r', g1, g2⟩ := cls_ge (X := X) (G := G)
  exact tr_chain h1 g1 h2 g2 ha hb hc hm
theorem tt_LtE_GtE (C : Cok X G W k) {a b c : Expr} {ma mb mc : E} {pos : Pos} (ha : TrE X G W a ma) (hb : TrE X G W b mb) (hc : TrE X G W c mc) (hm : lastMarks [.LtE, .GtE] [b, c] = false := by with_unfolding_all rfl) : TrT X G W (.Compare a [.LtE, .GtE] [b, c] pos) (eBool (eChain fLe fGe ma mb mc)) := by
  obtain ⟨r, h1, h2⟩ := cls_le (X := X) (G := G)
  obtain ⟨r', g1, g2⟩ := cls_ge (X := X) (G := G)
  exact tt_chain h1 g1 h2 g2 ha hb hc hm
theorem tr_Gt_Lt (C : Cok X G W k) {a b c : Expr} {ma mb mc : E} {pos : Pos} (ha : TrE X G W a ma) (hb : TrE X G W b mb) (hc : TrE X G W c mc) (hm : lastMarks [.Gt, .Lt] [b, c] = false := by with_unfolding_all rfl) : TrE X G W (.Compare a [.Gt, .Lt] [b, c] pos) (eChain fGt fLt ma mb mc) := by
  obtain ⟨r, h1, h2⟩ := cls_gt (X := X) (G := G)
  obtain ⟨r', g1, g2⟩ := cls_lt (X := X) (G := G)
  exact tr_chain h1 g1 h2 g2 ha hb hc hm
theorem tt_Gt_Lt (C : Cok X G W k) {a b c : Expr} {ma mb mc : E} {pos : Pos} (ha : TrE X G W a ma) (hb : TrE X G W b mb) (hc : TrE X G W c mc) (hm : lastMarks [.Gt, .Lt] [b, c] = false := by with_unfolding_all rfl) : TrT X G W (.Compare a [.Gt, .Lt] [b, c] pos) (eBool (eChain fGt fLt ma mb mc)) := by
  obtain ⟨r, h1, h2⟩ := cls_gt (X := X) (G := G)
  obtain ⟨r', g1, g2⟩ := cls_lt (X := X) (G := G)
  exact tt_chain h1 g1 h2 g2 ha hb hc hm
theorem tr_Gt_LtE (C : Cok X G W k) {a b c : Expr} {ma mb mc : E} {pos : Pos} (ha : TrE X G W a ma) (hb : TrE X G W b mb) (hc : TrE X G W c mc) (hm : lastMarks [.Gt, .LtE] [b, c] = false := by with_unfolding_all rfl) : TrE X G W (.Compare a [.Gt, .LtE] [b, c] pos) (eChain fGt fLe ma mb mc) := by
  obtain ⟨r, h1, h2⟩ := cls_gt (X := X) (G := G)
  obtain ⟨r', g1, g2⟩ := cls_le (X := X) (G := G)
  exact tr_chain h1 g1 h2 g2 ha hb hc hm
theorem tt_Gt_LtE (C : Cok X G W k) {a b c : Expr} {ma mb mc : E} {pos : Pos} (ha : TrE X G W a ma) (hb : TrE X G W b mb) (hc : TrE X G W c mc) (hm : lastMarks [.Gt, .LtE] [b, c] = false := by with_unfolding_all rfl) : TrT X G W (.Compare a [.Gt, .LtE] [b, c] pos) (eBool (eChain fGt fLe ma mb mc)) := by
  obtain ⟨r, h1, h2⟩ := cls_gt (X := X) (G := G)
  obtain ⟨r', g1, g2⟩ := cls_le (X := X) (G := G)
  exact tt_chain h1 g1 h2 g2 ha hb hc hm
theorem tr_Gt_Gt (C : Cok X G W k) {a b c : Expr} {ma mb mc : E} {pos : Pos} (ha : TrE X G W a ma) (hb : TrE X G W b mb) (hc : TrE X G W c mc) (hm : lastMarks [.Gt, .Gt] [b, c] = false := by with_unfolding_all rfl) : TrE X G W (.Compare a [.Gt, .Gt] [b, c] pos) (eChain fGt fGt ma mb mc) := by
  obtain ⟨r, h1, h2⟩ := cls_gt (X := X) (G := G)
  obtain ⟨r', g1, g2⟩ := cls_gt (X := X) (G := G)
  exact tr_chain h1 g1 h2 g2 ha hb hc hm
theorem tt_Gt_Gt (C : Cok X G W k) {a b c : Expr} {ma mb mc : E} {pos : Pos} (ha : TrE X G W a ma) (hb : TrE X G W b mb) (hc : TrE X G W c mc) (hm : lastMarks [.Gt, .Gt] [b, c] = false := by with_unfolding_all rfl) : TrT X G W (.Compare a [.Gt, .Gt] [b, c] pos) (eBool (eChain fGt fGt ma mb mc)) := by
  obtain ⟨r, h1, h2⟩ := cls_gt (X := X) (G := G)
  obtain ⟨r', g1, g2⟩ := cls_gt (X := X) (G := G)
  exact tt_chain h1 g1 h2 g2 ha hb hc hm
theorem tr_Gt_GtE (C : Cok X G W k) {a b c : Expr} {ma mb mc : E} {pos : Pos} (ha : TrE X G W a ma) (hb : TrE X G W b mb) (hc : TrE X G W c mc) (hm : lastMarks [.Gt, .GtE] [b, c] = false := by with_unfolding_all rfl) : TrE X G W (.Compare a [.Gt, .GtE] [b, c] pos) (eChain fGt fGe ma mb mc) := by
  obtain ⟨r, h1, h2⟩ := cls_gt (X := X) (G := G)
  obtain ⟨r', g1, g2⟩ := cls_ge (X := X) (G := G)
  exact tr_chain h1 g1 h2 g2 ha hb hc hm
theorem tt_Gt_GtE (C : Cok X G W k) {a b c : Expr} {ma mb mc : E} {pos : Pos} (ha : TrE X G W a ma) (hb : TrE X G W b mb) (hc : TrE X G W c mc) (hm : lastMarks [.Gt, .GtE] [b, c] = false := by with_unfolding_all rfl) : TrT X G W (.Compare a [.Gt, .GtE] [b, c] pos) (eBool (eChain fGt fGe ma mb mc)) := by
  obtain ⟨r, h1, h2⟩ := cls_gt (X := X) (G := G)
  obtain ⟨r', g1, g2⟩ := cls_ge (X := X) (G := G)
  exact tt_chain h1 g1 h2 g2 ha hb hc hm
theorem tr_GtE_Lt (C : Cok X G W k) {a b c : Expr} {ma mb mc : E} {pos : Pos} (ha : TrE X G W a ma) (hb : TrE X G W b mb) (hc : TrE X G W c mc) (hm : lastMarks [.GtE, .Lt] [b, c] = false := by with_unfolding_all rfl) : TrE X G W (.Compare a [.GtE, .Lt] [b, c] pos) (eChain fGe fLt ma mb mc) := by
  obtain ⟨r, h1, h2⟩ := cls_ge (X := X) (G := G)
  obtain ⟨r', g1, g2⟩ := cls_lt (X := X) (G := G)
  exact tr_chain h1 g1 h2 g2 ha hb hc hm
theorem tt_GtE_Lt (C : Cok X G W k) {a b c : Expr} {ma mb mc : E} {pos : Pos} (ha : TrE X G W a ma) (hb : TrE X G W b mb) (hc : TrE X G W c mc) (hm : lastMarks [.GtE, .Lt] [b, c] = false := by with_unfolding_all rfl) : TrT X G W (.Compare a [.GtE, .Lt] [b, c] pos) (eBool (eChain fGe fLt ma mb mc)) := by
  obtain ⟨r, h1, h2⟩ := cls_ge (X := X) (G := G)
  obtain ⟨r', g1, g2⟩ := cls_lt (X := X) (G := G)
  exact tt_chain h1 g1 h2 g2 ha hb hc hm
theorem tr_GtE_LtE (C : Cok X G W k) {a b c : Expr} {ma mb mc : E} {pos : Pos} (ha : TrE X G W a ma) (hb : TrE X G W b mb) (hc : TrE X G W c mc) (hm : lastMarks [.GtE, .LtE] [b, c] = false := by with_unfolding_all rfl) : TrE X G W (.Compare a [.GtE, .LtE] [b, c] pos) (eChain fGe fLe ma mb mc) := by
  obtain ⟨r, h1, h2⟩ := cls_ge (X := X) (G := G)
  obtain ⟨r', g1, g2⟩ := cls_le (X := X) (G := G)
  exact tr_chain h1 g1 h2 g2 ha hb hc hm
theorem tt_GtE_LtE (C : Cok X G W k) {a b c : Expr} {ma mb mc : E} {pos : Pos} (ha : TrE X G W a ma) (hb : TrE X G W b mb) (hc : TrE X G W c mc) (hm : lastMarks [.GtE, .LtE] [b, c] = false := by with_unfolding_all rfl) : TrT X G W (.Compare a [.GtE, .LtE] [b, c] pos) (eBool (eChain fGe fLe ma mb mc)) := by
  obtain ⟨r, h1, h2⟩ := cls_ge (X := X) (G := G)
  obtain ⟨r', g1, g2⟩ := cls_le (X := X) (G := G)
  exact tt_chain h1 g1 h2 g2 ha hb hc hm
theorem tr_GtE_Gt (C : Cok X G W k) {a b c : Expr} {ma mb mc : E} {pos : Pos} (ha : TrE X G W a ma) (hb : TrE X G W b mb) (hc : TrE X G W c mc) (hm : lastMarks [.GtE, .Gt] [b, c] = false := by with_unfolding_all rfl) : TrE X G W (.Compare a [.GtE, .Gt] [b, c] pos) (eChain fGe fGt ma mb mc) := by
  obtain ⟨r, h1, h2⟩ := cls_ge (X := X) (G := G)
  obtain ⟨r', g1, g2⟩ := cls_gt (X := X) (G := G)
  exact tr_chain h1 g1 h2 g2 ha hb hc hm
theorem tt_GtE_Gt (C : Cok X G W k) {a b c : Expr} {ma mb mc : E} {pos : Pos} (ha : TrE X G W a ma) (hb : TrE X G W b mb) (hc : TrE X G W c mc) (hm : lastMarks [.GtE, .Gt] [b, c] = false := by with_unfolding_all rfl) : TrT X G W (.Compare a [.GtE, .Gt] [b, c] pos) (eBool (eChain fGe fGt ma mb mc)) := by
  obtain ⟨r, h1, h2⟩ := cls_ge (X := X) (G := G)
  obtain ⟨r', g1, g2⟩ := cls_gt (X := X) (G := G)
  exact tt_chain h1 g1 h2 g2 ha hb hc hm
theorem tr_GtE_GtE (C : Cok X G W k) {a b c : Expr} {ma mb mc : E} {pos : Pos} (ha : TrE X G W a ma) (hb : TrE X G W b mb) (hc : TrE X G W c mc) (hm : lastMarks [.GtE, .GtE] [b, c] = false := by with_unfolding_all rfl) : TrE X G W (.Compare a [.GtE, .GtE] [b, c] pos) (eChain fGe fGe ma mb mc) := by
  obtain ⟨r, h1, h2⟩ := cls_ge (X := X) (G := G)
  obtain ⟨r', g1, g2⟩ := cls_ge (X := X) (G := G)
  exact tr_chain h1 g1 h2 g2 ha hb hc hm
theorem tt_GtE_GtE (C : Cok X G W k) {a b c : Expr} {ma mb mc : E} {pos : Pos} (ha : TrE X G W a ma) (hb : TrE X G W b mb) (hc : TrE X G W c mc) (hm : lastMarks [.GtE, .GtE] [b, c] = false := by with_unfolding_all rfl) : TrT X G W (.Compare a [.GtE, .GtE] [b, c] pos) (eBool (eChain fGe fGe ma mb mc)) := by
  obtain ⟨r, h1, h2⟩ := cls_ge (X := X) (G := G)
  obtain ⟨r', g1, g2⟩ := cls_ge (X := X) (G := G)
  exact tt_chain h1 g1 h2 g2 ha hb hc hm
theorem tr_Ix (C : Cok X G W k) {a b : Expr} {ma mb : E} {pos : Pos} (ha : TrE X G W a ma) (hb : TrE X G W b mb) (hp : PlainIx b := by exact fun _ _ => rfl) : TrE X G W (.Subscript a b pos) (eOp fIx ma mb) := by
  obtain ⟨r, h1, h2⟩ := cls_ix (X := X) (G := G) C.hK
  exact tr_ix h1 h2 ha hb hp
theorem tr_b_len (C : Cok X G W k) {p pos : Pos} {e : Expr} {es : List Expr} {ms : List E} (hm : X.mg "len" = none) (hg : Gl X "len") (ha : TrA X G W (e :: es) ms) (he : starEach (e :: es) X.env = (false, eval e X.env) :: starEach es X.env := by rfl) (hpl : (backTo pos (starEach es X.env)).any (·.1) = false := by rfl) : TrE X G W (.Call (.Name "len" p) (e :: es) [] pos) (eApp fLen ms) := by
  obtain ⟨r, h1, h2⟩ := cls_len (X := X) (G := G) C.hK
  exact tr_callB h1 h2 hm (by rfl) ha hg (by decide) (by decide) he hpl
theorem tr_b_int (C : Cok X G W k) {p pos : Pos} {e : Expr} {es : List Expr} {ms : List E} (hm : X.mg "int" = none) (hg : Gl X "int") (ha : TrA X G W (e :: es) ms) (he : starEach (e :: es) X.env = (false, eval e X.env) :: starEach es X.env := by rfl) (hpl : (backTo pos (starEach es X.env)).any (·.1) = false := by rfl) : TrE X G W (.Call (.Name "int" p) (e :: es) [] pos) (eApp fIntB ms) := by
  obtain ⟨r, h1, h2⟩ := cls_intB (X := X) (G := G)
  exact tr_callT h1 h2 hm (by rfl) ha hg (by decide) (by decide) he hpl
theorem tr_b_min (C : Cok X G W k) {p pos : Pos} {e : Expr} {es : List Expr} {ms : List E} (hm : X.mg "min" = none) (hg : Gl X "min") (ha : TrA X G W (e :: es) ms) (he : starEach (e :: es) X.env = (false, eval e X.env) :: starEach es X.env := by rfl) (hpl : (backTo pos (starEach es X.env)).any (·.1) = false := by rfl) : TrE X G W (.Call (.Name "min" p) (e :: es) [] pos) (eApp fMin2 ms) := by
  obtain ⟨r, h1, h2⟩ := cls_min2 (X := X) (G := G) C.calm
  exact tr_callB h1 h2 hm (by rfl) ha hg (by decide) (by decide) he hpl
theorem tr_b_max (C : Cok X G W k) {p pos : Pos} {e : Expr} {es : List Expr} {ms : List E} (hm : X.mg "max" = none) (hg : Gl X "max") (ha : TrA X G W (e :: es) ms) (he : starEach (e :: es) X.env = (false, eval e X.env) :: starEach es X.env := by rfl) (hpl : (backTo pos (starEach es X.env)).any (·.1) = false := by rfl) : TrE X G W (.Call (.Name "max" p) (e :: es) [] pos) (eApp fMax2 ms) := by
  obtain ⟨r, h1, h2⟩ := cls_max2 (X := X) (G := G) C.calm
  exact tr_callB h1 h2 hm (by rfl) ha hg (by decide) (by decide) he hpl
theorem tr_b_list (C : Cok X G W k) {p pos : Pos} {e : Expr} {es : List Expr} {ms : List E} (hm : X.mg "list" = none) (hg : Gl X "list") (ha : TrA X G W (e :: es) ms) (he : starEach (e :: es) X.env = (false, eval e X.env) :: starEach es X.env := by rfl) (hpl : (backTo pos (starEach es X.env)).any (·.1) = false := by rfl) : TrE X G W (.Call (.Name "list" p) (e :: es) [] pos) (eApp fList ms) := by
  obtain ⟨r, h1, h2⟩ := cls_list (X := X) (G := G) C.hK C.calm
  exact tr_callT h1 h2 hm (by rfl) ha hg (by decide) (by decide) he hpl
theorem tr_b_tuple (C : Cok X G W k) {p pos : Pos} {e : Expr} {es : List Expr} {ms : List E} (hm : X.mg "tuple" = none) (hg : Gl X "tuple") (ha : TrA X G W (e :: es) ms) (he : starEach (e :: es) X.env = (false, eval e X.env) :: starEach es X.env := by rfl) (hpl : (backTo pos (starEach es X.env)).any (·.1) = false := by rfl) : TrE X G W (.Call (.Name "tuple" p) (e :: es) [] pos) (eApp fTuple ms) := by
  obtain ⟨r, h1, h2⟩ := cls_tuple (X := X) (G := G) C.hK
  exact tr_callT h1 h2 hm (by rfl) ha hg (by decide) (by decide) he hpl
theorem tr_b_all (C : Cok X G W k) {p pos : Pos} {e : Expr} {es : List Expr} {ms : List E} (hm : X.mg "all" = none) (hg : Gl X "all") (ha : TrA X G W (e :: es) ms) (he : starEach (e :: es) X.env = (false, eval e X.env) :: starEach es X.env := by rfl) (hpl : (backTo pos (starEach es X.env)).any (·.1) = false := by rfl) : TrE X G W (.Call (.Name "all" p) (e :: es) [] pos) (eApp fAllB ms) := by
  obtain ⟨r, h1, h2⟩ := cls_all (X := X) (G := G) C.hK C.calm
  exact tr_callB h1 h2 hm (by rfl) ha hg (by decide) (by decide) he hpl
theorem tr_b_sorted (C : Cok X G W k) {p pos : Pos} {e : Expr} {es : List Expr} {ms : List E} (hm : X.mg "sorted" = none) (hg : Gl X "sorted") (ha : TrA X G W (e :: es) ms) (he : starEach (e :: es) X.env = (false, eval e X.env) :: starEach es X.env := by rfl) (hpl : (backTo pos (starEach es X.env)).any (·.1) = false := by rfl) : TrE X G W (.Call (.Name "sorted" p) (e :: es) [] pos) (eApp fSorted ms) := by
  obtain ⟨r, h1, h2⟩ := cls_sorted (X := X) (G := G) C.hK
  exact tr_callB h1 h2 hm (by rfl) ha hg (by decide) (by decide) he hpl
theorem tr_neg (C : Cok X G W k) {a : Expr} {ma : E} {pos : Pos} (ha : TrE X G W a ma) : TrE X G W (.UnaryOp .USub a pos) (eUn fNeg ma) := by
  refine tr_un un_neg (fun F H σ S T x dx kd Q st rx e k => ?_) ha
  cases rx <;> simp only [fNeg, kz, reduceCtorEq] at e
  cases e
  exact ⟨_, rfl, KE.val k st (.int _)⟩
end
end TB

namespace L2
open PySem PySem.Spec PyProof.Rows
/-- the law called, what flies by the world -/
theorem walk_ofEw {l : PySem.W.OpenLaw} {n k : Nat} {q : Program} {loose : List Str} {XP : (Str → Option Value) → Heap → Prop} {YP : World → Heap → Prop} {d : DefRec} {CX : World → CXT} {x : Str}
    (hn : l.most = some n) (hn2 : n ≤ sizeLine) (hdf : d.params.defaults = []) (hr : Room k callerA)
    (F : ∀ (w : World) (mg : Str → Option Value) (fa : Addr) (h : Heap), YP w h → h.Ns mainGlobals mg → mg d.name = some (.ref fa) →
      ∃ (K : PySem.W.Frag) (fd : FuncData) (sp : Sp), K.In h ∧ (∀ (s : Shared) (u : Value), BindsTo s fd ⟨[u], []⟩ [(x, u)]) ∧
        (∀ (H : Hp) (a : Addr) (ns : List Int), ns.length ≤ n → SqL K H a (ns.map V.int) → sp [.ref a] H (fun v _ => v = .bl true) fun _ _ _ => False) ∧
        ∀ base : Heap, K.In base → base.Ns mainGlobals mg → FnOk l.prog w K mg base (CX w) k fa fd [x] sp)
    (hCX : ∀ (w : World) (H : Hp) (s : Shared) (e : Value) (s' : Shared), CX w [] H s (fun _ _ _ => False) e s' → False) :
    PySem.W.WalkO q loose XP YP l.row.toRowW d [] (fun f vs => PySem.call f vs) := by
  refine Att.attach_call hn hdf fun w s₀ s₁ mg mb fa o pm cd doc a vs ns G Y ho hd hcd hmg hobj hints hlen hg => ?_
  obtain ⟨K, fd, sp, KX, hb, hsp, hF⟩ := F w mg fa _ Y G.T.g hmg
  exact law_call KX G.T.g G.T.b G.T.builtins G.T.nolimit hg hobj hints (Nat.le_trans hlen hn2) hr hF hb (fun H hO hS => hsp H a ns hlen hS) fun H e s' => hCX w H s₁ e s'
end L2

namespace LW
open TB
def mb_0 (Γ : Nat → Fn) : St := (sRet (eAnd (eIsi .int (eVar 0)) (eAnd (eNot (eIsi .bool (eVar 0))) (eChain fLe fLe (eVar 1) (eVar 0) (eVar 2)))))
def mb_1 (Γ : Nat → Fn) : St := (sRet (eAnd (eIsi .str (eVar 0)) (eAnd (eChain fLe fLe (eCon (.int 1)) (eApp fLen [(eVar 0)]) (eCon (.int 8))) (eApp fAllB [(eLc (itStr (eVar 0)) (.nm 1) [1] tTrue (eOp fInA (eVar 1) (eCon (.str [97, 98, 99, 100, 101, 102, 103, 104, 105, 106, 107, 108, 109, 110, 111, 112, 113, 114, 115, 116, 117, 118, 119, 120, 121, 122]))))]))))
def mb_2 (Γ : Nat → Fn) : St := (sRet (eApp fAllB [(eLc (itRange2 (eCon (.int 1)) (eApp fLen [(eVar 0)])) (.nm 1) [1] tTrue (eOp fLt (eOp fIx (eVar 0) (eOp fSub (eVar 1) (eCon (.int 1)))) (eOp fIx (eVar 0) (eVar 1))))]))
def mb_3 (Γ : Nat → Fn) : St := (sSeq (sIf (tOr (tNot (eBool (eIsi .tuple (eVar 0)))) (tNot (eBool (eChain fLe fLe (eVar 1) (eApp fLen [(eVar 0)]) (eVar 2))))) (sRet (eCon (.bl false))) sNx) (sRet (eAnd (eApp fAllB [(eLc (itSeq (eVar 0)) (.nm 3) [3] tTrue (eCall (Γ 1) [.v (eVar 3)]))]) (eCall (Γ 2) [.v (eVar 0)]))))
def mb_4 (Γ : Nat → Fn) : St := (sSeq (sIf (tOr (tNot (eBool (eIsi .tuple (eVar 0)))) (tOr (eBool (eOp fNe (eApp fLen [(eVar 0)]) (eCon (.int 6)))) (tNot (eBool (eIsi .str (eOp fIx (eVar 0) (eCon (.int 0)))))))) (sRet (eCon (.bl false))) sNx) (sSeq (sPut (.tp [(.nm 1), (.nm 2), (.nm 3), (.nm 4), (.nm 5), (.nm 6)]) (eVar 0)) (sSeq (sIf (tOr (eBool (eOp fNotInA (eVar 1) (eApp fTup [(eCon (.str [108, 101, 116])), (eCon (.str [98, 97, 114]))]))) (tOr (tNot (eBool (eCall (Γ 3) [.v (eVar 2), .v (eCon (.int 0)), .v (eCon (.int 2))]))) (tNot (eBool (eCall (Γ 3) [.v (eVar 3), .v (eCon (.int 0)), .v (eCon (.int 2))]))))) (sRet (eCon (.bl false))) sNx) (sSeq (sIf (tOr (tNot (eBool (eIsi .tuple (eVar 4)))) (tOr (tNot (eBool (eApp fAllB [(eLc (itSeq (eVar 4)) (.nm 7) [7] tTrue (eCall (Γ 0) [.v (eVar 7), .v (eCon (.int 0)), .v (eCon (.int 6))]))]))) (tNot (eBool (eCall (Γ 2) [.v (eVar 4)]))))) (sRet (eCon (.bl false))) sNx) (sRet (eAnd (eCall (Γ 0) [.v (eVar 5), .v (eCon (.int 1)), .v (eCon (.int 1000000))]) (eCall (Γ 0) [.v (eVar 6), .v (eVar 5), .v (eCon (.int 1000000))])))))))
def mb_5 (Γ : Nat → Fn) : St := (sRet (eAnd (eIsi .tuple (eVar 0)) (eAnd (eOp fLe (eApp fLen [(eVar 0)]) (eCon (.int 6))) (eApp fAllB [(eLc (itSeq (eVar 0)) (.nm 1) [1] tTrue (eCall (Γ 4) [.v (eVar 1)]))]))))
def mb_6 (Γ : Nat → Fn) : St := (sSeq (sSet 2 (eFr (eOp fMul (eCon (.int 15485863)) (eVar 1)))) (sSeq (sIf (eBool (eOp fLt (eVar 1) (eApp fLen [(eVar 0)]))) (sSet 2 (eOp fMod (eOp fIx (eVar 0) (eVar 1)) (eOp fMul (eOp fPow (eCon (.int 10)) (eCon (.int 60))) (eOp fPow (eCon (.int 10)) (eCon (.int 60)))))) (sIf (eBool (eOp fGt (eApp fLen [(eVar 0)]) (eCon (.int 0)))) (sSet 2 (eFr (eOp fAdd (eOp fMod (eOp fIx (eVar 0) (eOp fMod (eVar 1) (eApp fLen [(eVar 0)]))) (eOp fPow (eCon (.int 10)) (eCon (.int 15)))) (eOp fMul (eCon (.int 15485863)) (eVar 1))))) sNx)) (sRet (eApp fLst [(eOp fMul (eVar 2) (eApp fIntB [(eOp fGe (eVar 2) (eOp fPow (eCon (.int 10)) (eCon (.int 18))))])), (eOp fAdd (eCon (.int 1)) (eOp fMod (eOp fAdd (eOp fMul (eVar 2) (eCon (.int 69621))) (eOp fMul (eCon (.int 86028121)) (eOp fAdd (eVar 1) (eCon (.int 1))))) (eCon (.int 2147483646))))]))))
def mb_7 (Γ : Nat → Fn) : St := (sSeq (sIf (eBool (eOp fGt (eIxO 0 (eCon (.int 0))) (eCon (.int 0)))) (sSeq (sSet 2 (eOp fMod (eIxO 0 (eCon (.int 0))) (eVar 1))) (sSeq (sSetIx 0 (eCon (.int 0)) (eOp fDiv (eIxO 0 (eCon (.int 0))) (eVar 1))) (sRet (eVar 2)))) sNx) (sSeq (sSet 2 (eCon (.int 0))) (sSeq (sSet 3 (eCon (.int 1))) (sSeq (sWhile 64 (eBool (eOp fLt (eVar 3) (eVar 1))) (sSeq (sSetIx 0 (eCon (.int 1)) (eOp fMod (eOp fMul (eIxO 0 (eCon (.int 1))) (eCon (.int 69621))) (eCon (.int 2147483647)))) (sSeq (sSet 2 (eFr (eOp fAdd (eOp fMul (eVar 2) (eCon (.int 268435456))) (eOp fDiv (eOp fMod (eOp fMul (eIxO 0 (eCon (.int 1))) (eOp fAdd (eOp fDiv (eIxO 0 (eCon (.int 1))) (eCon (.int 128))) (eCon (.int 3)))) (eCon (.int 2147483629))) (eCon (.int 8)))))) (sSet 3 (eFr (eOp fMul (eVar 3) (eCon (.int 268435456)))))))) (sRet (eOp fMod (eVar 2) (eVar 1)))))))
def mb_8 (Γ : Nat → Fn) : St := (sSeq (sSet 3 eDnew) (sSeq (sFor (itRange1 (eCall (Γ 7) [.b 0, .v (eOp fAdd (eVar 2) (eCon (.int 1)))])) (.nm 4) (sDput 3 (eOp fIx (eVar 1) (eCall (Γ 7) [.b 0, .v (eApp fLen [(eVar 1)])])) (eCon (.bl true)))) (sRet (eApp fTuple [(eApp fSorted [(ePeekL (eApp fList [(eVar 3)]))])]))))
def mb_9 (Γ : Nat → Fn) : St := (sSeq (sSet 4 (eFr (eOp fAdd (eCon (.int 1)) (eOp fIx (eApp fLst [(eCon (.int 0)), (eCall (Γ 7) [.b 0, .v (eCon (.int 9))]), (eCall (Γ 7) [.b 0, .v (eVar 3)])]) (eCall (Γ 7) [.b 0, .v (eCon (.int 3))]))))) (sSeq (sSet 5 (eApp fMin2 [(eOp fPow (eCon (.int 10)) (eCon (.int 6))), (eOp fAdd (eVar 4) (eOp fIx (eApp fLst [(eCon (.int 0)), (eCall (Γ 7) [.b 0, .v (eCon (.int 9))]), (eCall (Γ 7) [.b 0, .v (eVar 3)]), (eOp fPow (eCon (.int 10)) (eCon (.int 6)))]) (eCall (Γ 7) [.b 0, .v (eCon (.int 4))])))])) (sSeq (sSet 6 (eCall (Γ 8) [.b 0, .v (eLRg1 (eCon (.int 7))), .v (eOp fIx (eApp fLst [(eCon (.int 0)), (eCon (.int 3)), (eCon (.int 7))]) (eCall (Γ 7) [.b 0, .v (eCon (.int 3))]))])) (sSeq (sSet 7 (eOp fIx (eApp fLst [(eCon (.str [98, 97, 114])), (eCon (.str [108, 101, 116]))]) (eOp fDiv (eCall (Γ 7) [.b 0, .v (eCon (.int 5))]) (eCon (.int 3))))) (sRet (eApp fTup [(eVar 7), (eCall (Γ 8) [.b 0, .v (eVar 1), .v (eCon (.int 2))]), (eCall (Γ 8) [.b 0, .v (eVar 2), .v (eCon (.int 2))]), (eVar 6), (eVar 4), (eVar 5)]))))))
def mb_10 (Γ : Nat → Fn) : St := (sSeq (sSet 3 (eOp fIx (eApp fLst [(eCon (.int 30)), (eOp fPow (eCon (.int 10)) (eCon (.int 6)))]) (eOp fDiv (eCall (Γ 7) [.b 0, .v (eCon (.int 4))]) (eCon (.int 3))))) (sRet (eApp fTuple [(eLc (itRange1 (eCall (Γ 7) [.b 0, .v (eCon (.int 6))])) (.nm 4) [4] tTrue (eCall (Γ 9) [.b 0, .v (eVar 1), .v (eVar 2), .v (eVar 3)]))])))
def mb_11 (Γ : Nat → Fn) : St := (sSeq (sSet 2 (eCon (.str [97, 98, 99, 100, 101, 102, 103, 104, 105, 106, 107, 108, 109, 110, 111, 112, 113, 114, 115, 116, 117, 118, 119, 120, 121, 122]))) (sSeq (sSet 3 (eJoin (eCon (.str [])) (eLc (itRange1 (eOp fIx (eApp fLst [(eCon (.int 0)), (eCon (.int 1)), (eCon (.int 2)), (eCon (.int 7))]) (eCall (Γ 7) [.b 0, .v (eCon (.int 4))]))) (.nm 6) [6] tTrue (eOp fIx (eVar 2) (eCall (Γ 7) [.b 0, .v (eCon (.int 26))]))))) (sSeq (sSet 4 (eCall (Γ 7) [.b 0, .v (eCon (.int 26))])) (sSeq (sSet 5 (eOp fIx (eApp fLst [(eCon (.int 1)), (eCon (.int 3)), (eCon (.int 5)), (eCon (.int 7))]) (eCall (Γ 7) [.b 0, .v (eCon (.int 4))]))) (sRet (eFr (eApp fSorted [(eLc (itRange1 (eVar 1)) (.nm 6) [6] tTrue (eOp fAdd (eVar 3) (eOp fIx (eVar 2) (eOp fMod (eOp fAdd (eVar 4) (eOp fMul (eVar 5) (eVar 6))) (eCon (.int 26))))))])))))))
def mb_12 (Γ : Nat → Fn) : St := (sSeq (sSet 2 (eCall (Γ 7) [.b 0, .v (eCon (.int 9))])) (sSeq (sIf (tOr (eBool (eOp fLt (eVar 2) (eCon (.int 6)))) (eBool (eOp fEq (eVar 1) (eCon (.int 0))))) (sSeq (sSet 4 (eFr (eApp fLst [(eCon (.int 0)), (eCon (.int 1)), (eUn fNeg (eCon (.int 1))), (eCon (.int 6)), (eCon (.int 7)), (eCon (.bl true)), (eCon (.bl false)), (eCon .non), (eCon (.str [])), (eCon (.str [97])), (eCon (.str [97, 98])), (eCon (.str [65])), (eCon (.str [97, 98, 99, 100, 101, 102, 103, 104, 105])), (eCon (.str [108, 101, 116])), (eCon (.str [98, 111, 117, 103, 104, 116])), (eCon (.str [119, 114, 111, 110, 103])), (eCon (.str [103, 105, 118, 101, 110]))]))) (sRet (eOp fIx (eOp fAdd (eVar 4) (eApp fLst [(eOp fPow (eCon (.int 10)) (eCon (.int 6))), (eOp fAdd (eOp fPow (eCon (.int 10)) (eCon (.int 6))) (eCon (.int 1))), (eApp fTup []), (eApp fLst [])])) (eCall (Γ 7) [.b 0, .v (eCon (.int 21))])))) sNx) (sSeq (sSet 3 (eLc (itRange1 (eCall (Γ 7) [.b 0, .v (eCon (.int 8))])) (.nm 5) [5] tTrue (eCall (Γ 12) [.b 0, .v (eOp fSub (eVar 1) (eCon (.int 1)))]))) (sRet (eOp fIx (eApp fLst [(eFzV 3), (eApp fTuple [(eFzV 3)]), (eApp fTuple [(eFzV 3)])]) (eOp fSub (eVar 2) (eCon (.int 6))))))))
def mb_13 (Γ : Nat → Fn) : St := (sSeq (sSet 3 (eApp fList [(eVar 1)])) (sSeq (sIf (tPeek (eBool (eOp fEq (eVar 3) (eApp fLst [])))) (sRet (eApp fTup [(eCall (Γ 12) [.b 0, .v (eCon (.int 1))])])) sNx) (sSeq (sSet 4 (eCall (Γ 7) [.b 0, .v (ePeek (eApp fLen [(eVar 3)]))])) (sSeq (sIf (tAnd (eBool (eIsi .tuple (eIxO 3 (eVar 4)))) (tAnd (eBool (eOp fGt (eVar 2) (eCon (.int 0)))) (eBool (eOp fGt (eCall (Γ 7) [.b 0, .v (eCon (.int 4))]) (eCon (.int 0)))))) (sSeq (sSetIx 3 (eVar 4) (eCall (Γ 13) [.b 0, .v (eIxO 3 (eVar 4)), .v (eOp fSub (eVar 2) (eCon (.int 1)))])) (sRet (eApp fTuple [(eFzV 3)]))) sNx) (sSeq (sSet 5 (eCall (Γ 7) [.b 0, .v (eCon (.int 8))])) (sSeq (sIf (eBool (eOp fEq (eVar 5) (eCon (.int 0)))) (sDrop (eMth fPopAt 3 [(eVar 4)])) (sIf (eBool (eOp fEq (eVar 5) (eCon (.int 1)))) (sDrop (eMth fInsert 3 [(eVar 4), (eIxO 3 (eVar 4))])) (sIf (eBool (eOp fEq (eVar 5) (eCon (.int 2)))) (sSetSl 3 (eVar 4) (eOp fAdd (eVar 4) (eCon (.int 2))) (eUn fRev (eSlO 3 (some (eVar 4)) (some (eOp fAdd (eVar 4) (eCon (.int 2))))))) (sIf (eBool (eOp fEq (eVar 5) (eCon (.int 3)))) (sSetIx 3 (eVar 4) (eCall (Γ 12) [.b 0, .v (eCon (.int 2))])) (sIf (eBool (eOp fEq (eVar 5) (eCon (.int 4)))) (sSetIx 3 (eVar 4) (eOp fIx (eApp fLst [(eCon (.int 0)), (eCon (.int 1)), (eUn fNeg (eCon (.int 1))), (eCon (.int 6)), (eCon (.int 7)), (eOp fPow (eCon (.int 10)) (eCon (.int 6))), (eOp fAdd (eOp fPow (eCon (.int 10)) (eCon (.int 6))) (eCon (.int 1))), (eCon .non), (eCon (.bl true)), (eCon (.int 3))]) (eCall (Γ 7) [.b 0, .v (eCon (.int 10))]))) (sIf (tAnd (eBool (eOp fEq (eVar 5) (eCon (.int 5)))) (eBool (eIsi .tuple (eIxO 3 (eVar 4))))) (sSetIx 3 (eVar 4) (eApp fList [(eIxO 3 (eVar 4))])) (sIf (tAnd (eBool (eOp fEq (eVar 5) (eCon (.int 6)))) (eBool (eIsi .str (eIxO 3 (eVar 4))))) (sSetIx 3 (eVar 4) (eOp fAdd (eIxO 3 (eVar 4)) (eOp fIx (eApp fLst [(eCon (.str [97])), (eCon (.str [65])), (eCon (.str [32])), (eCon (.str [98, 98, 98, 98, 98, 98, 98, 98]))]) (eCall (Γ 7) [.b 0, .v (eCon (.int 4))])))) (sRet (eFzV 3))))))))) (sRet (eApp fTuple [(eFzV 3)]))))))))
def mb_14 (Γ : Nat → Fn) : St := (sSeq (sIf (tOr (tNot (eBool (eIsi .str (eVar 0)))) (tOr (eBool (eOp fLt (eApp fLen [(eVar 0)]) (eCon (.int 1)))) (eBool (eOp fGt (eApp fLen [(eVar 0)]) (eCon (.int 8)))))) (sRet (eCon (.bl false))) sNx) (sRet (eOp fEq (eLc (itStr (eVar 0)) (.nm 1) [1] (eBool (eOp fNotInA (eVar 1) (eCon (.str [97, 98, 99, 100, 101, 102, 103, 104, 105, 106, 107, 108, 109, 110, 111, 112, 113, 114, 115, 116, 117, 118, 119, 120, 121, 122])))) (eVar 1)) (eApp fLst []))))
def mb_15 (Γ : Nat → Fn) : St := (sSeq (sIf (tOr (tNot (eBool (eIsi .tuple (eVar 0)))) (tOr (eBool (eOp fLt (eApp fLen [(eVar 0)]) (eVar 1))) (eBool (eOp fGt (eApp fLen [(eVar 0)]) (eVar 2))))) (sRet (eCon (.bl false))) sNx) (sRet (eOp fEq (eLc (itRange2 (eCon (.int 1)) (eApp fLen [(eVar 0)])) (.nm 3) [3] (eBool (eOp fGe (eOp fIx (eVar 0) (eOp fSub (eVar 3) (eCon (.int 1)))) (eOp fIx (eVar 0) (eVar 3)))) (eVar 3)) (eApp fLst []))))
def mb_16 (Γ : Nat → Fn) : St := (sSeq (sIf (tOr (tNot (eBool (eIsi .tuple (eVar 0)))) (eBool (eOp fNe (eLc (itSeq (eVar 0)) (.nm 3) [3] (tNot (eBool (eCall (Γ 14) [.v (eVar 3)]))) (eVar 3)) (eApp fLst [])))) (sRet (eCon (.bl false))) sNx) (sRet (eCall (Γ 15) [.v (eVar 0), .v (eVar 1), .v (eVar 2)])))
def mb_17 (Γ : Nat → Fn) : St := (sRet (eAnd (eIsi .int (eVar 0)) (eAnd (eNot (eIsi .bool (eVar 0))) (eAnd (eOp fLe (eVar 1) (eVar 0)) (eOp fLe (eVar 0) (eVar 2))))))
def mb_18 (Γ : Nat → Fn) : St := (sSeq (sIf (tOr (tNot (eBool (eIsi .tuple (eVar 0)))) (tOr (eBool (eOp fNe (eApp fLen [(eVar 0)]) (eCon (.int 6)))) (tNot (eBool (eIsi .str (eOp fIx (eVar 0) (eCon (.int 0)))))))) (sRet (eCon (.bl false))) sNx) (sSeq (sIf (eBool (eOp fNotInA (eOp fIx (eVar 0) (eCon (.int 0))) (eApp fTup [(eCon (.str [108, 101, 116])), (eCon (.str [98, 97, 114]))]))) (sRet (eCon (.bl false))) sNx) (sSeq (sIf (tOr (tNot (eBool (eCall (Γ 16) [.v (eOp fIx (eVar 0) (eCon (.int 1))), .v (eCon (.int 0)), .v (eCon (.int 2))]))) (tOr (tNot (eBool (eCall (Γ 16) [.v (eOp fIx (eVar 0) (eCon (.int 2))), .v (eCon (.int 0)), .v (eCon (.int 2))]))) (tNot (eBool (eIsi .tuple (eOp fIx (eVar 0) (eCon (.int 3)))))))) (sRet (eCon (.bl false))) sNx) (sSeq (sIf (tOr (eBool (eOp fNe (eLc (itSeq (eOp fIx (eVar 0) (eCon (.int 3)))) (.nm 1) [1] (tNot (eBool (eCall (Γ 17) [.v (eVar 1), .v (eCon (.int 0)), .v (eCon (.int 6))]))) (eVar 1)) (eApp fLst []))) (tNot (eBool (eCall (Γ 15) [.v (eOp fIx (eVar 0) (eCon (.int 3))), .v (eCon (.int 0)), .v (eCon (.int 7))])))) (sRet (eCon (.bl false))) sNx) (sRet (eAnd (eCall (Γ 17) [.v (eOp fIx (eVar 0) (eCon (.int 4))), .v (eCon (.int 1)), .v (eOp fPow (eCon (.int 10)) (eCon (.int 6)))]) (eCall (Γ 17) [.v (eOp fIx (eVar 0) (eCon (.int 5))), .v (eOp fIx (eVar 0) (eCon (.int 4))), .v (eOp fPow (eCon (.int 10)) (eCon (.int 6)))])))))))
def mb_19 (Γ : Nat → Fn) : St := (sSeq (sIf (tOr (tNot (eBool (eIsi .tuple (eVar 0)))) (eBool (eOp fGt (eApp fLen [(eVar 0)]) (eCon (.int 6))))) (sRet (eCon (.bl false))) sNx) (sRet (eOp fEq (eLc (itSeq (eVar 0)) (.nm 1) [1] (tNot (eBool (eCall (Γ 18) [.v (eVar 1)]))) (eVar 1)) (eApp fLst []))))
def mb_20 (Γ : Nat → Fn) : St := (sSeq (sFor (itRange1 (eApp fMax2 [(eCon (.int 1)), (eApp fMin2 [(eCon (.int 40)), (eApp fLen [(eVar 0)])])])) (.nm 1) (sSeq (sSet 2 (eCall (Γ 6) [.v (eVar 0), .v (eVar 1)])) (sSeq (sSet 3 (eCall (Γ 10) [.b 2, .v (eCall (Γ 11) [.b 2, .v (eCon (.int 3))]), .v (eCall (Γ 11) [.b 2, .v (eCon (.int 3))])])) (sSeq (sSet 4 (eApp fTup [(eCon (.str [108, 101, 116])), (eApp fTup [(eCon (.str [97])), (eCon (.str [98]))]), (eApp fTup []), (eApp fTup [(eCon (.int 0)), (eCon (.int 6))]), (eCon (.int 1)), (eOp fPow (eCon (.int 10)) (eCon (.int 6)))])) (sSeq (sSet 5 (eApp fLst [(eVar 3), (eOp fMul (eApp fTup [(eVar 4)]) (eOp fAdd (eCon (.int 5)) (eCall (Γ 7) [.b 2, .v (eCon (.int 3))]))), (eApp fList [(eVar 3)]), (eCall (Γ 12) [.b 2, .v (eCon (.int 3))]), (eVar 4), (eApp fTup [(eSl (eVar 4) none (some (eCon (.int 5))))])])) (sSeq (sDrop (eMth fAppend 5 [(eCall (Γ 13) [.b 2, .v (eVar 3), .v (eCon (.int 2))])])) (sSeq (sDrop (eMth fAppend 5 [(eCall (Γ 13) [.b 2, .v (eApp fTup [(eCall (Γ 13) [.b 2, .v (eVar 4), .v (eCon (.int 1))])]), .v (eCon (.int 2))])])) (sSeq (sDrop (eMth fAppend 5 [(eApp fTup [(eOp fAdd (eSl (eVar 4) none (some (eCon (.int 4)))) (eApp fTup [(eOp fAdd (eCon (.int 1)) (eCall (Γ 7) [.b 2, .v (eOp fPow (eCon (.int 10)) (eCon (.int 6)))])), (eOp fAdd (eCon (.int 1)) (eCall (Γ 7) [.b 2, .v (eOp fPow (eCon (.int 10)) (eCon (.int 6)))]))]))])])) (sSeq (sFor (itSeq (eFzV 5)) (.nm 6) (sSeq (sSet 7 (eCall (Γ 5) [.v (eVar 6)])) (sIf (tOr (tNot (eBool (eIsi .bool (eVar 7)))) (eBool (eOp fNe (eVar 7) (eCall (Γ 19) [.v (eVar 6)])))) (sRet (eCon (.bl false))) sNx))) (sIf (eBool (eOp fIsNotA (eCall (Γ 5) [.v (eVar 3)]) (eCon (.bl true)))) (sRet (eCon (.bl false))) sNx)))))))))) (sRet (eCon (.bl true))))
def bodyF (Γ : Nat → Fn) : Nat → Fn
  | 0 => runF 3 [] (mb_0 Γ)
  | 1 => runF 2 [] (mb_1 Γ)
  | 2 => runF 2 [] (mb_2 Γ)
  | 3 => runF 4 [] (mb_3 Γ)
  | 4 => runF 8 [] (mb_4 Γ)
  | 5 => runF 2 [] (mb_5 Γ)
  | 6 => runF 3 [] (mb_6 Γ)
  | 7 => runF 4 [0] (mb_7 Γ)
  | 8 => runF 5 [0] (mb_8 Γ)
  | 9 => runF 8 [0] (mb_9 Γ)
  | 10 => runF 5 [0] (mb_10 Γ)
  | 11 => runF 7 [0] (mb_11 Γ)
  | 12 => runF 6 [0] (mb_12 Γ)
  | 13 => runF 6 [0] (mb_13 Γ)
  | 14 => runF 2 [] (mb_14 Γ)
  | 15 => runF 4 [] (mb_15 Γ)
  | 16 => runF 4 [] (mb_16 Γ)
  | 17 => runF 3 [] (mb_17 Γ)
  | 18 => runF 2 [] (mb_18 Γ)
  | 19 => runF 2 [] (mb_19 Γ)
  | 20 => runF 8 [] (mb_20 Γ)
  | _ => fun _ => .bad
def callF (k : Nat) : Nat → Fn := Nat.rec (fun _ _ => .bad) (fun _ Γ => bodyF Γ) k
end LW

/-! TbP: the mirror evaluated; the laws' draws -/
namespace TB
section
variable {α β : Type}
@[simp] theorem bind_ap (m : M α) (f : α → M β) (S : List Slot) : M.bind m f S = (m S).bind f := rfl
@[simp] theorem rbind_ok (a : α) (S : List Slot) (f : α → M β) : (R.ok a S).bind f = f a S := rfl
@[simp] theorem rbind_bad (f : α → M β) : (R.bad : R α).bind f = .bad := rfl
@[simp] theorem rbind_exc (x : Xc) (S : List Slot) (f : α → M β) : (R.exc x S : R α).bind f = .exc x S := rfl
@[simp] theorem pure_ap (a : α) (S : List Slot) : M.pure a S = R.ok a S := rfl
@[simp] theorem ite_ap (c : Prop) [Decidable c] (f g : M α) (S : List Slot) : (if c then f else g) S = if c then f S else g S := by split <;> rfl
@[simp] theorem rbind_ite (c : Prop) [Decidable c] (x y : R α) (f : α → M β) : (if c then x else y).bind f = if c then x.bind f else y.bind f := by split <;> rfl
end
@[simp] theorem eVar_ap (i : Nat) (S : List Slot) : eVar i S = match S[i]? with | some (some (.fz, d)) => .ok (.fz, d) S | _ => .bad := rfl
@[simp] theorem eMv_ap (i : Nat) (S : List Slot) : eMv i S = match S[i]? with | some (some kd) => .ok kd (S.set i none) | _ => .bad := rfl
@[simp] theorem eFzV_ap (i : Nat) (S : List Slot) : eFzV i S = match S[i]? with | some (some (_, d)) => .ok (.fz, d) (S.set i (some (.fz, d))) | _ => .bad := rfl
@[simp] theorem eCon_ap (d : D) (S : List Slot) : eCon d S = .ok (.fz, d) S := rfl
@[simp] theorem eDat_ap (e : E) (S : List Slot) : eDat e S = (e S).bind fun kd => M.pure kd.2 := rfl
@[simp] theorem eAll_nil (S : List Slot) : eAll [] S = .ok [] S := rfl
@[simp] theorem eAll_cons (e : E) (es : List E) (S : List Slot) : eAll (e :: es) S = (eDat e S).bind fun d S1 => (eAll es S1).bind fun ds S2 => .ok (d :: ds) S2 := rfl
@[simp] theorem ofO_some (kd : KD) (S : List Slot) : ofO (some kd) S = .ok kd S := rfl
@[simp] theorem ofO_none (S : List Slot) : ofO none S = .bad := rfl
@[simp] theorem ofO_ite (c : Prop) [Decidable c] (a b : Option KD) (S : List Slot) : ofO (if c then a else b) S = if c then ofO a S else ofO b S := by split <;> rfl
@[simp] theorem eFr_ap (e : E) (S : List Slot) : eFr e S = (e S).bind fun kd S1 => .ok (.fz, kd.2) S1 := rfl
@[simp] theorem eApp_ap (f : List D → Option KD) (es : List E) (S : List Slot) : eApp f es S = (eAll es S).bind fun ds S1 => ofO (f ds) S1 := rfl
@[simp] theorem eOp_ap (f : D → D → Option KD) (a b : E) (S : List Slot) : eOp f a b S = (eDat a S).bind fun x S1 => (eDat b S1).bind fun y S2 => ofO (f x y) S2 := rfl
@[simp] theorem eUn_ap (f : D → Option KD) (a : E) (S : List Slot) : eUn f a S = (eDat a S).bind fun x S1 => ofO (f x) S1 := rfl
@[simp] theorem eIsi_ap (t : Ty) (a : E) (S : List Slot) : eIsi t a S = (eDat a S).bind fun x S1 => ofO (fIsi t x) S1 := rfl
@[simp] theorem eBool_ap (e : E) (S : List Slot) : eBool e S = (e S).bind fun kd S1 => (match kd.2 with | .bl b => (M.pure b : M Bool) | _ => fun _ => .bad) S1 := rfl
@[simp] theorem eAnd_ap (a b : E) (S : List Slot) : eAnd a b S = (eBool a S).bind fun c S1 => if c = true then b S1 else .ok (.fz, .bl false) S1 := by
  show (eBool a S).bind (fun c => if c = true then b else M.pure (.fz, .bl false)) = _
  congr 1; funext c S1; split <;> rfl
@[simp] theorem eOr_ap (a b : E) (S : List Slot) : eOr a b S = (eBool a S).bind fun c S1 => if c = true then .ok (.fz, .bl true) S1 else b S1 := by
  show (eBool a S).bind (fun c => if c = true then M.pure (.fz, .bl true) else b) = _
  congr 1; funext c S1; split <;> rfl
@[simp] theorem eNot_ap (a : E) (S : List Slot) : eNot a S = (eBool a S).bind fun c S1 => .ok (.fz, .bl (!c)) S1 := rfl
@[simp] theorem tAnd_ap (a b : T) (S : List Slot) : tAnd a b S = (a S).bind fun c S1 => if c = true then b S1 else .ok false S1 := by
  show (a S).bind (fun c => if c = true then b else M.pure false) = _
  congr 1; funext c S1; split <;> rfl
@[simp] theorem tOr_ap (a b : T) (S : List Slot) : tOr a b S = (a S).bind fun c S1 => if c = true then .ok true S1 else b S1 := by
  show (a S).bind (fun c => if c = true then M.pure true else b) = _
  congr 1; funext c S1; split <;> rfl
@[simp] theorem tNot_ap (a : T) (S : List Slot) : tNot a S = (a S).bind fun c S1 => .ok (!c) S1 := rfl
@[simp] theorem tTrue_ap (S : List Slot) : tTrue S = .ok true S := rfl
@[simp] theorem eIf_ap (c : T) (a b : E) (S : List Slot) : eIf c a b S = (c S).bind fun x S1 => if x = true then a S1 else b S1 := by
  show (c S).bind (fun x => if x = true then a else b) = _
  congr 1; funext c S1; split <;> rfl
@[simp] theorem eChain_ap (f g : D → D → Option KD) (a b c : E) (S : List Slot) : eChain f g a b c S = (eDat a S).bind fun x S1 => (eDat b S1).bind fun y S2 => chain2 g c y (f x y) S2 := rfl
@[simp] theorem chain2_ap (g : D → D → Option KD) (c : E) (y : D) (b : Bool) (S : List Slot) : chain2 g c y (some (.fz, .bl b)) S = if b = true then (eDat c S).bind fun z S1 => ofO (g y z) S1 else .ok (.fz, .bl false) S := by
  show (if b = true then M.bind (eDat c) (fun z => ofO (g y z)) else M.pure (.fz, .bl false)) S = _
  split <;> rfl
@[simp] theorem ePeek_ap (e : E) (S : List Slot) : ePeek e S = match e (S.map frz) with | .ok (_, d) _ => (if d.flat = true then .ok (.fz, d) S else .bad) | _ => .bad := rfl
@[simp] theorem tPeek_ap (c : T) (S : List Slot) : tPeek c S = match c (S.map frz) with | .ok b _ => .ok b S | _ => .bad := rfl
@[simp] theorem ePeekL_ap (e : E) (S : List Slot) : ePeekL e S = match e (S.map frz) with | .ok (.li .fz, .lst ds) _ => (if ds.all D.flat = true then .ok (.li .fz, .lst ds) S else .bad) | _ => .bad := rfl
@[simp] theorem sNx_ap (S : List Slot) : sNx S = .ok .nx S := rfl
@[simp] theorem sSet_ap (i : Nat) (e : E) (S : List Slot) : sSet i e S = (e S).bind fun kd S1 => if i < S1.length then .ok .nx (S1.set i (some kd)) else .bad := rfl
@[simp] theorem sPut_ap (g : Tg) (e : E) (S : List Slot) : sPut g e S = (eDat e S).bind fun d S1 => match g.put d S1 with | some S' => .ok .nx S' | none => .bad := rfl
@[simp] theorem sSeq_ap (a b : St) (S : List Slot) : sSeq a b S = (a S).bind fun f S1 => (match f with | .nx => b | f => M.pure f) S1 := rfl
@[simp] theorem sRet_ap (e : E) (S : List Slot) : sRet e S = (e S).bind fun kd S1 => .ok (.rt kd) S1 := rfl
@[simp] theorem sDrop_ap (e : E) (S : List Slot) : sDrop e S = (e S).bind fun _ S1 => .ok .nx S1 := rfl
@[simp] theorem sIf_ap (c : T) (a b : St) (S : List Slot) : sIf c a b S = (c S).bind fun x S1 => if x = true then a S1 else b S1 := by
  show (c S).bind (fun x => if x = true then a else b) = _
  congr 1; funext c S1; split <;> rfl
@[simp] theorem sFor_ap (it : It) (g : Tg) (b : St) (S : List Slot) : sFor it g b S = (it S).bind fun ds S1 => loop g b ds S1 := rfl
@[simp] theorem itSeq_ap (e : E) (S : List Slot) : itSeq e S = (eDat e S).bind fun d S1 => (match itemsOf d with | some xs => (M.pure xs : It) | none => fun _ => .bad) S1 := rfl
@[simp] theorem itStr_ap (e : E) (S : List Slot) : itStr e S = (eDat e S).bind fun d S1 => (match d with | .str s => (M.pure (s.map fun c => D.str [c]) : It) | _ => fun _ => .bad) S1 := rfl
@[simp] theorem itRange1_ap (e : E) (S : List Slot) : itRange1 e S = (eDat e S).bind fun d S1 => (match d with | .int j => (if j.natAbs < limN then (M.pure (rangeL 0 j.toNat) : It) else fun _ => .bad) | _ => fun _ => .bad) S1 := rfl
@[simp] theorem itRange2_ap (a b : E) (S : List Slot) : itRange2 a b S = (eDat a S).bind fun x S1 => (eDat b S1).bind fun y S2 => (match x, y with | .int i, .int j => (if i.natAbs < limN ∧ j.natAbs < limN then (M.pure (rangeL i (j - i).toNat) : It) else fun _ => .bad) | _, _ => fun _ => .bad) S2 := rfl
@[simp] theorem hasL_ap (i : Nat) (S : List Slot) : hasL i S = match ownL S i with | some _ => .ok () S | none => .bad := rfl
@[simp] theorem hasK_ap (i : Nat) (S : List Slot) : hasK i S = match ownK S i with | some _ => .ok () S | none => .bad := rfl
@[simp] theorem sSetIx_ap (i : Nat) (k e : E) (S : List Slot) : sSetIx i k e S = (eDat e S).bind fun y S1 => (hasL i S1).bind fun _ S2 => (eDat k S2).bind fun x S3 => match ownL S3 i, x with
  | some xs, .int j => (match normIx xs.length j with | some n => .ok .nx (S3.set i (some (.li .fz, .lst (xs.set n y)))) | none => .bad)
  | _, _ => .bad := rfl
@[simp] theorem eIxO_ap (i : Nat) (k : E) (S : List Slot) : eIxO i k S = (hasL i S).bind fun _ S2 => (eDat k S2).bind fun x S3 => match ownL S3 i, x with
  | some xs, .int j => (match (normIx xs.length j).bind fun n => xs[n]? with | some d => .ok (.fz, d) S3 | none => .bad)
  | _, _ => .bad := rfl
@[simp] theorem eMth_ap (f : List D → List D → Option (D × List D)) (i : Nat) (es : List E) (S : List Slot) : eMth f i es S = (hasL i S).bind fun _ S2 => (eAll es S2).bind fun ds S3 => match ownL S3 i with
  | some xs => (match f xs ds with | some (r, ys) => .ok (.fz, r) (S3.set i (some (.li .fz, .lst ys))) | none => .bad)
  | none => .bad := rfl
@[simp] theorem sDput_ap (i : Nat) (k e : E) (S : List Slot) : sDput i k e S = (eDat e S).bind fun y S1 => (hasK i S1).bind fun _ S2 => (eDat k S2).bind fun x S3 => match ownK S3 i with
  | some kvs => (if isKey x = true ∧ kvs.length < sizeMax then .ok .nx (S3.set i (some (.dK .fz, .dic (putD kvs x y)))) else .bad)
  | none => .bad := rfl
@[simp] theorem eDnew_ap (S : List Slot) : eDnew S = .ok (.dK .fz, .dic []) S := rfl
@[simp] theorem eOpt_none (S : List Slot) : eOpt none S = .ok none S := rfl
@[simp] theorem eOpt_some (e : E) (S : List Slot) : eOpt (some e) S = (eDat e S).bind fun d S1 => (match d with | .int i => (M.pure (some i) : M (Option Int)) | _ => fun _ => .bad) S1 := rfl
@[simp] theorem eSl_ap (a : E) (lo hi : Option E) (S : List Slot) : eSl a lo hi S = (eDat a S).bind fun x S1 => (eOpt lo S1).bind fun l S2 => (eOpt hi S2).bind fun h S3 => ofO (fSl x l h) S3 := rfl
@[simp] theorem eSlO_ap (i : Nat) (lo hi : Option E) (S : List Slot) : eSlO i lo hi S = (hasL i S).bind fun _ S1 => (eOpt lo S1).bind fun l S2 => (eOpt hi S2).bind fun h S3 => match ownL S3 i with
  | some xs => .ok (.li .fz, .lst (cutL xs l h)) S3
  | none => .bad := rfl
@[simp] theorem eJoin_ap (a b : E) (S : List Slot) : eJoin a b S = (eDat a S).bind fun x S1 => (match x with | .str s => M.bind (eDat b) fun y => ofO (fJoin s y) | _ => fun _ => .bad) S1 := rfl
@[simp] theorem eLRg1_ap (a : E) (S : List Slot) : eLRg1 a S = (eDat a S).bind fun d S1 => (match d with | .int j => (if j.natAbs ≤ sizeMax then (M.pure (.li .fz, .lst (rangeL 0 j.toNat)) : E) else fun _ => .bad) | _ => fun _ => .bad) S1 := rfl
theorem eCall_ap (F : Fn) (as : List Ar) (S : List Slot) : eCall F as S = (arEv as S).bind fun vs S1 => match arIn vs S1 with
  | none => .bad
  | some (ks, S1) => (match F ks with
    | .ret r os => (match arOut vs os S1 with | some S2 => .ok r S2 | none => .bad)
    | .exc x os => (match arOut vs os S1 with | some S2 => .exc x S2 | none => .bad)
    | .bad => .bad) := rfl
theorem arEv_nil (S : List Slot) : arEv [] S = .ok [] S := rfl
theorem arEv_v (e : E) (as : List Ar) (S : List Slot) : arEv (.v e :: as) S = (eDat e S).bind fun d S1 => (arEv as S1).bind fun r S2 => .ok (.v d :: r) S2 := rfl
theorem arEv_b (i : Nat) (as : List Ar) (S : List Slot) : arEv (.b i :: as) S = match S[i]? with | some (some _) => (arEv as S).bind (fun r S2 => .ok (.b i :: r) S2) | _ => .bad := rfl
/-! ### what comes, as a promise -/
def okP {α : Type} (r : R α) (Q : α → List Slot → Prop) : Prop := match r with
  | .ok a S => Q a S
  | _ => False
section
variable {α β : Type}
theorem okP_congr {r r' : R α} {Q : α → List Slot → Prop} (h : r = r') : okP r Q = okP r' Q := by rw [h]
theorem rbind_congr {r r' : R α} {f : α → M β} (h : r = r') : r.bind f = r'.bind f := by rw [h]
@[simp] theorem okP_ok (a : α) (S : List Slot) (Q : α → List Slot → Prop) : okP (.ok a S) Q = Q a S := rfl
@[simp] theorem okP_bad (Q : α → List Slot → Prop) : okP (.bad) Q = False := rfl
@[simp] theorem okP_bind (r : R α) (f : α → M β) (Q : β → List Slot → Prop) : okP (r.bind f) Q = okP r (fun a S => okP (f a S) Q) := by cases r <;> rfl
theorem okP.of {r : R α} {a : α} {S : List Slot} {Q : α → List Slot → Prop} (e : r = .ok a S) (h : Q a S) : okP r Q := by rw [e]; exact h
theorem okP.mono {r : R α} {Q Q' : α → List Slot → Prop} (h : okP r Q) (i : ∀ a S, Q a S → Q' a S) : okP r Q' := by
  cases r with
  | ok a S => exact i a S h
  | exc x S => exact h
  | bad => exact h
theorem okP.ex {r : R α} {Q : α → List Slot → Prop} (h : okP r Q) : ∃ a S, r = .ok a S ∧ Q a S := by
  cases r with
  | ok a S => exact ⟨a, S, rfl, h⟩
  | exc x S => exact h.elim
  | bad => exact h.elim
end
def fin (as : List KD) (Q : KD → List KD → Prop) (f : Fl) (S : List Slot) : Prop := match f with
  | .rt r => (match outsOf as S with | some o => Q r o | none => False)
  | .nx => (match outsOf as S with | some o => Q (.fz, .non) o | none => False)
  | _ => False
@[simp] theorem fin_rt (as : List KD) (Q : KD → List KD → Prop) (r : KD) (S : List Slot) : fin as Q (.rt r) S = (match outsOf as S with | some o => Q r o | none => False) := rfl
@[simp] theorem fin_nx (as : List KD) (Q : KD → List KD → Prop) (S : List Slot) : fin as Q .nx S = (match outsOf as S with | some o => Q (.fz, .non) o | none => False) := rfl
theorem runF_eq (n : Nat) (pk : List Nat) (body : St) (as : List KD) : runF n pk body as = if pinned pk 0 as = true then (match body (as.map some ++ List.replicate (n - as.length) none) with
    | .ok (.rt r) S => frOf as r S
    | .ok .nx S => frOf as (.fz, .non) S
    | .exc x S => (match outsOf as S with | some o => .exc x o | none => .bad)
    | _ => .bad) else .bad := rfl
/-- a function's promise -/
def FnP (F : Fn) (as : List KD) (Q : KD → List KD → Prop) : Prop := ∃ r o, F as = .ret r o ∧ Q r o
theorem runF_wp {n : Nat} {pk : List Nat} {body : St} {as : List KD} {Q : KD → List KD → Prop} (hp : pinned pk 0 as = true) (h : okP (body (as.map some ++ List.replicate (n - as.length) none)) (fin as Q)) : FnP (runF n pk body) as Q := by
  obtain ⟨f, S, e, h⟩ := h.ex
  unfold FnP
  rw [runF_eq, if_pos hp, e]
  cases f with
  | rt r =>
    show ∃ r' o, frOf as r S = .ret r' o ∧ Q r' o
    unfold frOf
    have h : (match outsOf as S with | some o => Q r o | none => False) := h
    cases e2 : outsOf as S with
    | none => rw [e2] at h; exact h.elim
    | some o => rw [e2] at h; exact ⟨r, o, rfl, h⟩
  | nx =>
    show ∃ r' o, frOf as (.fz, .non) S = .ret r' o ∧ Q r' o
    unfold frOf
    have h : (match outsOf as S with | some o => Q (.fz, .non) o | none => False) := h
    cases e2 : outsOf as S with
    | none => rw [e2] at h; exact h.elim
    | some o => rw [e2] at h; exact ⟨_, o, rfl, h⟩
  | bk => exact h.elim
  | ct => exact h.elim
theorem call_wp {F : Fn} {as : List Ar} {S : List Slot} {Q : KD → List Slot → Prop} (h : okP (arEv as S) fun vs S1 => match arIn vs S1 with
    | some (ks, S2) => FnP F ks fun r os => (match arOut vs os S2 with | some S3 => Q r S3 | none => False)
    | none => False) : okP (eCall F as S) Q := by
  rw [eCall_ap, okP_bind]
  refine h.mono fun vs S1 h => ?_
  cases e : arIn vs S1 with
  | none => rw [e] at h; exact h.elim
  | some q =>
    obtain ⟨ks, S2⟩ := q
    rw [e] at h
    obtain ⟨r, os, e2, h⟩ := h
    have h : (match arOut vs os S2 with | some S3 => Q r S3 | none => False) := h
    simp only [e2]
    cases e3 : arOut vs os S2 with
    | none => rw [e3] at h; exact h.elim
    | some S3 => rw [e3] at h; exact h
theorem runF_ret {n : Nat} {pk : List Nat} {body : St} {as : List KD} {r : KD} {S : List Slot} {o : List KD} (hp : pinned pk 0 as = true) (hb : body (as.map some ++ List.replicate (n - as.length) none) = .ok (.rt r) S) (ho : outsOf as S = some o) : runF n pk body as = .ret r o := by
  unfold runF
  rw [if_pos hp, hb]
  show frOf as r S = _
  unfold frOf
  rw [ho]
/-- a while by an invariant and a measure -/
theorem while_inv {c : T} {b : St} (I : Nat → List Slot → Prop) (h : ∀ m S, I m S → c S = .ok false S ∨ (c S = .ok true S ∧ m ≠ 0 ∧ ∃ S', b S = .ok .nx S' ∧ I (m - 1) S')) :
    ∀ n m S, m < n → I m S → ∃ m' S', sWhile n c b S = .ok .nx S' ∧ I m' S' ∧ c S' = .ok false S'
  | 0, _, _, l, _ => absurd l (Nat.not_lt_zero _)
  | n + 1, m, S, l, i => by
    unfold sWhile
    rcases h m S i with e | ⟨e, hm, S', e2, i2⟩
    · exact ⟨m, S, by rw [bind_ap, e]; rfl, i, e⟩
    · obtain ⟨m', S2, e3, i3, e4⟩ := while_inv I h n (m - 1) S' (by omega) i2
      refine ⟨m', S2, ?_, i3, e4⟩
      rw [bind_ap, e, rbind_ok, if_pos rfl, bind_ap, e2, rbind_ok]
      exact e3
/-! ### draws -/
def dr (a b : Int) : KD := (.li .fz, .lst [.int a, .int b])
def DI (kd : KD) : Prop := ∃ a b, kd = dr a b ∧ 0 ≤ a ∧ a < 1000000000000000000000000000000000000000000000000000000000000000000000000000000000000000000000000000000000000000000000000 ∧ 0 ≤ b ∧ b < 2147483648
def DrawOk (F : Fn) : Prop := ∀ kd m, DI kd → 1 ≤ m → m < 1000000000000000000000000000000000000000000000000000000000000 → ∃ r kd', F [kd, (.fz, .int m)] = .ret (.fz, .int r) [kd'] ∧ DI kd' ∧ 0 ≤ r ∧ r < m
def bDraw : St := (sSeq (sIf (eBool (eOp fGt (eIxO 0 (eCon (.int 0))) (eCon (.int 0)))) (sSeq (sSet 2 (eOp fMod (eIxO 0 (eCon (.int 0))) (eVar 1))) (sSeq (sSetIx 0 (eCon (.int 0)) (eOp fDiv (eIxO 0 (eCon (.int 0))) (eVar 1))) (sRet (eVar 2)))) sNx) (sSeq (sSet 2 (eCon (.int 0))) (sSeq (sSet 3 (eCon (.int 1))) (sSeq (sWhile 64 (eBool (eOp fLt (eVar 3) (eVar 1))) (sSeq (sSetIx 0 (eCon (.int 1)) (eOp fMod (eOp fMul (eIxO 0 (eCon (.int 1))) (eCon (.int 69621))) (eCon (.int 2147483647)))) (sSeq (sSet 2 (eFr (eOp fAdd (eOp fMul (eVar 2) (eCon (.int 268435456))) (eOp fDiv (eOp fMod (eOp fMul (eIxO 0 (eCon (.int 1))) (eOp fAdd (eOp fDiv (eIxO 0 (eCon (.int 1))) (eCon (.int 128))) (eCon (.int 3)))) (eCon (.int 2147483629))) (eCon (.int 8)))))) (sSet 3 (eFr (eOp fMul (eVar 3) (eCon (.int 268435456)))))))) (sRet (eOp fMod (eVar 2) (eVar 1)))))))
def wBody : St := (sSeq (sSetIx 0 (eCon (.int 1)) (eOp fMod (eOp fMul (eIxO 0 (eCon (.int 1))) (eCon (.int 69621))) (eCon (.int 2147483647)))) (sSeq (sSet 2 (eFr (eOp fAdd (eOp fMul (eVar 2) (eCon (.int 268435456))) (eOp fDiv (eOp fMod (eOp fMul (eIxO 0 (eCon (.int 1))) (eOp fAdd (eOp fDiv (eIxO 0 (eCon (.int 1))) (eCon (.int 128))) (eCon (.int 3)))) (eCon (.int 2147483629))) (eCon (.int 8)))))) (sSet 3 (eFr (eOp fMul (eVar 3) (eCon (.int 268435456)))))))
theorem draw_ok : DrawOk (runF 4 [0] bDraw) := by
  rintro _ m ⟨a, b, rfl, a0, a1, b0, b1⟩ m1 m2
  unfold dr
  by_cases ha : a > 0
  · have hm : small m := by show m.natAbs < _; omega
    refine ⟨a % m, dr (a / m) b, ?_, ⟨a / m, b, rfl, Int.ediv_nonneg a0 (by omega), Int.lt_of_le_of_lt (Int.ediv_le_self _ a0) a1, b0, b1⟩, Int.emod_nonneg _ (by omega), Int.emod_lt_of_pos _ (by omega)⟩
    have hm0 : 0 < m := by omega
    simp [bDraw, runF, pinned, Kd.isF, ownL, normIx, fGt, kz, ha, fMod, hm0, hm, fDiv, frOf, outsOf, dr]
  · obtain ⟨m', S', e1, ⟨f, w, b', rfl, h0, h1, h2, h3, h4⟩, _⟩ := while_inv (c := eBool (eOp fLt (eVar 3) (eVar 1))) (b := wBody)
      (fun j S => ∃ f w b', S = [some (dr a b'), some (.fz, .int m), some (.fz, .int f), some (.fz, .int w)] ∧ 0 ≤ b' ∧ b' < 2147483648 ∧ 0 ≤ f ∧ f < w * 1073741824 ∧ 1 ≤ w ∧ m ≤ w * 268435456 ^ j) (by
        rintro j S ⟨f, w, b', rfl, h0, h1, h2, h3, h4, h5⟩
        by_cases hw : w < m
        · right
          have hj : j ≠ 0 := by
            intro z; subst z
            simp at h5; omega
          refine ⟨by simp [fLt, kz, hw], hj, ?_⟩
          have q1 : 0 ≤ b' * 69621 % 2147483647 := Int.emod_nonneg _ (by decide)
          have q2 : b' * 69621 % 2147483647 < 2147483647 := Int.emod_lt_of_pos _ (by decide)
          generalize hb2 : b' * 69621 % 2147483647 = b2 at q1 q2
          have q3 : 0 ≤ b2 * (b2 / 128 + 3) % 2147483629 := Int.emod_nonneg _ (by decide)
          have q4 : b2 * (b2 / 128 + 3) % 2147483629 < 2147483629 := Int.emod_lt_of_pos _ (by decide)
          have s1 : small b' := by show b'.natAbs < _; omega
          have s2 : small b2 := by show b2.natAbs < _; omega
          have s3 : small (b2 / 128 + 3) := by show (b2 / 128 + 3).natAbs < _; omega
          have s4 : small f := by show f.natAbs < _; omega
          have s5 : small w := by show w.natAbs < _; omega
          refine ⟨_, by simp [wBody, ownL, dr, normIx, fMul, fMod, kz, s1, s2, s3, s4, s5, fAdd, fDiv, hb2], f * 268435456 + b2 * (b2 / 128 + 3) % 2147483629 / 8, w * 268435456, b2, rfl, q1, by omega, by omega, by omega, by omega, ?_⟩
          have : (268435456 : Int) ^ j = 268435456 * 268435456 ^ (j - 1) := by
            conv => lhs; rw [show j = (j - 1) + 1 by omega, Int.pow_succ]
            exact Int.mul_comm _ _
          rw [this, ← Int.mul_assoc] at h5
          exact h5
        · left
          simp [fLt, kz, hw]) 64 8 [some (dr a b), some (.fz, .int m), some (.fz, .int 0), some (.fz, .int 1)] (by omega) ⟨0, 1, b, rfl, b0, b1, by omega, by omega, by omega, by omega⟩
    have hm0 : 0 < m := by omega
    refine ⟨f % m, dr a b', ?_, ⟨a, b', rfl, a0, a1, h0, h1⟩, Int.emod_nonneg _ (by omega), Int.emod_lt_of_pos _ hm0⟩
    have e2 : bDraw [some (dr a b), some (.fz, .int m), none, none] = .ok (.rt (.fz, .int (f % m))) [some (dr a b'), some (.fz, .int m), some (.fz, .int f), some (.fz, .int w)] := by
      unfold dr at e1 ⊢
      unfold wBody at e1
      simp [bDraw, ownL, normIx, fGt, kz, ha, e1, fMod, hm0]
    exact runF_ret (as := [dr a b, (.fz, .int m)]) rfl e2 rfl
/-- a draw -/
theorem draw_wp {F : Fn} (hF : DrawOk F) {S : List Slot} {i : Nat} {kd0 : KD} {e : E} {Q : KD → List Slot → Prop} (h0 : S[i]? = some (some kd0))
    (he : okP (eDat e S) fun d S1 => match d with
      | .int m => 1 ≤ m ∧ m < 1000000000000000000000000000000000000000000000000000000000000 ∧ (match S1[i]? with | some (some kd) => DI kd ∧ ∀ (r : Int) (kd' : KD), DI kd' → 0 ≤ r → r < m → Q (.fz, .int r) (S1.set i (some kd')) | _ => False)
      | _ => False) : okP (eCall F [.b i, .v e] S) Q := by
  refine call_wp ?_
  rw [arEv_b, h0]
  simp only [okP_bind]
  rw [arEv_v, okP_bind]
  refine he.mono fun d S1 h => ?_
  cases d with
  | int m =>
    obtain ⟨m1, m2, h⟩ := h
    rw [arEv_nil]
    cases e1 : S1[i]? with
    | none => rw [e1] at h; exact h.elim
    | some s =>
      cases s with
      | none => rw [e1] at h; exact h.elim
      | some kd =>
        rw [e1] at h
        obtain ⟨hd, h⟩ := h
        obtain ⟨r, kd', e2, d2, r0, r1⟩ := hF kd m hd m1 m2
        obtain ⟨a, b, rfl, _⟩ := hd
        obtain ⟨a', b', rfl, hh⟩ := id d2
        have h := h r (dr a' b') ⟨a', b', rfl, hh⟩ r0 r1
        rw [rbind_ok, okP_ok, okP_ok]
        have e3 : arIn [.b i, .v (.int m)] S1 = some ([dr a b, (.fz, .int m)], S1.set i none) := by
          simp [arIn, e1, dr, Kd.isF]
        rw [e3]
        refine ⟨_, _, e2, ?_⟩
        have e4 : arOut [.b i, .v (.int m)] [dr a' b'] (S1.set i none) = some (S1.set i (some (dr a' b'))) := by
          simp [arOut]
        simp only [e4]
        exact h
  | _ => exact h.elim
end TB

/-! TbP2: comprehensions and loops evaluated -/
namespace TB
theorem set_self {S : List Slot} {v : Nat} (hv : v < S.length) (h : S[v]? = some s) : S.set v s = S := by
  apply List.ext_getElem?
  intro j
  by_cases q : v = j
  · subst q; rw [List.getElem?_set_self hv, h]
  · rw [List.getElem?_set_ne q]
theorem cLoop_pure {S : List Slot} {v : Nat} {c : T} {e : E} {p : D → Bool} {f : D → D} (hv : v < S.length) : ∀ (ds acc : List D),
    (∀ d ∈ ds, c (S.set v (some (.fz, d))) = .ok (p d) (S.set v (some (.fz, d)))) → (∀ d ∈ ds, p d = true → ∃ k, e (S.set v (some (.fz, d))) = .ok (k, f d) (S.set v (some (.fz, d)))) → acc.length + ds.length ≤ sizeMax →
    cLoop (.nm v) [v] c e ds acc (S.set v none) = .ok (acc ++ (ds.filter p).map f) (S.set v none)
  | [], acc, _, _, _ => by simp [cLoop, M.pure]
  | d :: ds, acc, hc, he, hl => by
    unfold cLoop
    have h1 : Tg.put (.nm v) d (S.set v none) = some (S.set v (some (.fz, d))) := by
      unfold Tg.put
      rw [if_pos (by rw [List.length_set]; exact hv), List.set_set]
    have h2 : ∀ S' : List Slot, wipeS S' [v] = S'.set v none := fun _ => rfl
    have hl2 : acc.length + ds.length + 1 ≤ sizeMax := by simpa [Nat.add_assoc] using hl
    rw [h1]
    show R.bind (c (S.set v (some (.fz, d)))) _ = _
    rw [hc d List.mem_cons_self, rbind_ok]
    cases hp : p d with
    | false =>
      show cLoop (.nm v) [v] c e ds acc (wipeS (S.set v (some (.fz, d))) [v]) = _
      rw [h2, List.set_set, cLoop_pure hv ds acc (fun x hx => hc x (List.mem_cons_of_mem _ hx)) (fun x hx => he x (List.mem_cons_of_mem _ hx)) (by omega)]
      simp [hp]
    | true =>
      obtain ⟨k, hk⟩ := he d List.mem_cons_self hp
      show R.bind (eDat e (S.set v (some (.fz, d)))) _ = _
      rw [eDat_ap, hk]
      show (if acc.length < sizeMax then cLoop (.nm v) [v] c e ds (acc ++ [f d]) (wipeS (S.set v (some (.fz, d))) [v]) else .bad) = _
      rw [if_pos (by omega), h2, List.set_set, cLoop_pure hv ds (acc ++ [f d]) (fun x hx => hc x (List.mem_cons_of_mem _ hx)) (fun x hx => he x (List.mem_cons_of_mem _ hx)) (by rw [List.length_append, List.length_singleton]; omega)]
      simp [hp]
/-- a comprehension that changes nothing -/
theorem lc_pure {S0 S : List Slot} {v : Nat} {it : It} {c : T} {e : E} {ds : List D} (p : D → Bool) (f : D → D) (hit : it S0 = .ok ds S) (hv : v < S.length) (hz : fzAt S v = true)
    (hc : ∀ d ∈ ds, c (S.set v (some (.fz, d))) = .ok (p d) (S.set v (some (.fz, d)))) (he : ∀ d ∈ ds, p d = true → ∃ k, e (S.set v (some (.fz, d))) = .ok (k, f d) (S.set v (some (.fz, d)))) (hl : ds.length ≤ sizeMax) :
    eLc it (.nm v) [v] c e S0 = .ok (.li .fz, .lst ((ds.filter p).map f)) S := by
  unfold eLc
  rw [bind_ap, hit, rbind_ok]
  have h1 : ([v].all (fzAt S) && noDup [v] && (Tg.nm v).sl.all [v].contains) = true := by simp [hz, noDup, Tg.sl]
  rw [if_pos h1]
  have h2 : wipeS S [v] = S.set v none := rfl
  rw [h2, cLoop_pure hv ds [] hc he (by simpa using hl)]
  have h3 : backS S (S.set v none) [v] = S := by
    show (S.set v none).set v (S.getD v none) = S
    rw [List.set_set]
    refine set_self hv ?_
    rw [List.getElem?_eq_getElem hv, List.getD_eq_getElem?_getD, List.getElem?_eq_getElem hv]
    rfl
  simp [h3]
theorem cLoop_inv {v n : Nat} {e : E} (I : List Slot → Prop) (Q : D → Prop) (hI : ∀ S, I S → v < S.length) : ∀ (ds acc : List D) (S : List Slot), I S → acc.length + ds.length ≤ sizeMax →
    (∀ S d, I S → d ∈ ds → ∃ k y S', e (S.set v (some (.fz, d))) = .ok (k, y) S' ∧ I (S'.set v none) ∧ Q y) →
    ∃ ys S', cLoop (.nm v) [v] tTrue e ds acc S = .ok (acc ++ ys) S' ∧ I S' ∧ ys.length = ds.length ∧ ∀ y ∈ ys, Q y
  | [], acc, S, i, _, _ => ⟨[], S, by simp [cLoop, M.pure], i, rfl, fun y hy => by simp at hy⟩
  | d :: ds, acc, S, i, hl, he => by
    have hl2 : acc.length + ds.length + 1 ≤ sizeMax := by simpa [Nat.add_assoc] using hl
    obtain ⟨k, y, S1, e1, i1, q1⟩ := he S d i List.mem_cons_self
    obtain ⟨ys, S2, e2, i2, l2, q2⟩ := cLoop_inv (n := n) I Q hI ds (acc ++ [y]) (S1.set v none) i1 (by rw [List.length_append, List.length_singleton]; omega) fun S d i h => he S d i (List.mem_cons_of_mem _ h)
    refine ⟨y :: ys, S2, ?_, i2, by simp [l2], fun z hz => ?_⟩
    · unfold cLoop
      have h1 : Tg.put (.nm v) d S = some (S.set v (some (.fz, d))) := by
        unfold Tg.put
        rw [if_pos (hI S i)]
      rw [h1]
      show R.bind (eDat e (S.set v (some (.fz, d)))) _ = _
      rw [eDat_ap, e1]
      show (if acc.length < sizeMax then cLoop (.nm v) [v] tTrue e ds (acc ++ [y]) (wipeS S1 [v]) else .bad) = _
      rw [if_pos (by omega)]
      have h2 : wipeS S1 [v] = S1.set v none := rfl
      rw [h2, e2]
      simp
    · rcases List.mem_cons.mp hz with h | h
      · rw [h]; exact q1
      · exact q2 z h
/-- a comprehension whose items keep I -/
theorem lc_inv {S0 S : List Slot} {v : Nat} {it : It} {e : E} {ds : List D} (I : List Slot → Prop) (Q : D → Prop) (hit : it S0 = .ok ds S) (hz : fzAt S v = true) (hl : ds.length ≤ sizeMax) (hI : ∀ S, I S → v < S.length) (i : I (S.set v none))
    (he : ∀ S d, I S → d ∈ ds → ∃ k y S', e (S.set v (some (.fz, d))) = .ok (k, y) S' ∧ I (S'.set v none) ∧ Q y) :
    ∃ ys S', eLc it (.nm v) [v] tTrue e S0 = .ok (.li .fz, .lst ys) (S'.set v (S.getD v none)) ∧ I S' ∧ ys.length = ds.length ∧ ∀ y ∈ ys, Q y := by
  obtain ⟨ys, S', e1, i1, l1, q1⟩ := cLoop_inv (n := 0) I Q hI ds [] (S.set v none) i (by simpa using hl) he
  refine ⟨ys, S', ?_, i1, l1, q1⟩
  unfold eLc
  rw [bind_ap, hit, rbind_ok]
  have h1 : ([v].all (fzAt S) && noDup [v] && (Tg.nm v).sl.all [v].contains) = true := by simp [hz, noDup, Tg.sl]
  rw [if_pos h1]
  have h2 : wipeS S [v] = S.set v none := rfl
  rw [h2, e1]
  rfl
/-- a for by an invariant: J by the items left -/
theorem loop_inv {v : Nat} {b : St} (I : List D → List Slot → Prop) (hI : ∀ ds S, I ds S → v < S.length) (h : ∀ d ds S, I (d :: ds) S → ∃ S', b (S.set v (some (.fz, d))) = .ok .nx S' ∧ I ds S') :
    ∀ ds S, I ds S → ∃ S', loop (.nm v) b ds S = .ok .nx S' ∧ I [] S'
  | [], S, i => ⟨S, rfl, i⟩
  | d :: ds, S, i => by
    obtain ⟨S1, e1, i1⟩ := h d ds S i
    obtain ⟨S2, e2, i2⟩ := loop_inv I hI h ds S1 i1
    refine ⟨S2, ?_, i2⟩
    unfold loop
    have h1 : Tg.put (.nm v) d S = some (S.set v (some (.fz, d))) := by
      unfold Tg.put
      rw [if_pos (hI _ S i)]
    rw [h1]
    show R.bind (b (S.set v (some (.fz, d)))) _ = _
    rw [e1]
    exact e2
/-- the same as promises -/
theorem lc_wp {it : It} {e : E} {v : Nat} {S : List Slot} {Q : KD → List Slot → Prop} (I : List Slot → Prop) (P : D → Prop) (hI : ∀ S, I S → v < S.length)
    (h : okP (it S) fun ds S1 => fzAt S1 v = true ∧ ds.length ≤ sizeMax ∧ I (S1.set v none) ∧ (∀ S d, I S → d ∈ ds → okP (e (S.set v (some (.fz, d)))) fun a S' => I (S'.set v none) ∧ P a.2) ∧
      ∀ ys S', ys.length = ds.length → (∀ y ∈ ys, P y) → I S' → Q (.li .fz, .lst ys) (S'.set v (S1.getD v none))) : okP (eLc it (.nm v) [v] tTrue e S) Q := by
  obtain ⟨ds, S1, e1, hz, hl, i, he, hq⟩ := h.ex
  obtain ⟨ys, S', e2, i2, l2, q2⟩ := lc_inv (e := e) I P e1 hz hl hI i fun S d i hd => by
    obtain ⟨⟨k, y⟩, S', e3, i3, q3⟩ := (he S d i hd).ex
    exact ⟨k, y, S', e3, i3, q3⟩
  exact okP.of e2 (hq ys S' l2 q2 i2)
theorem lcp_wp {it : It} {c : T} {e : E} {v : Nat} {S : List Slot} {Q : KD → List Slot → Prop} (p : D → Bool) (f : D → D)
    (h : okP (it S) fun ds S1 => fzAt S1 v = true ∧ v < S1.length ∧ ds.length ≤ sizeMax ∧ (∀ d ∈ ds, c (S1.set v (some (.fz, d))) = .ok (p d) (S1.set v (some (.fz, d)))) ∧ (∀ d ∈ ds, p d = true → ∃ k, e (S1.set v (some (.fz, d))) = .ok (k, f d) (S1.set v (some (.fz, d)))) ∧
      Q (.li .fz, .lst ((ds.filter p).map f)) S1) : okP (eLc it (.nm v) [v] c e S) Q := by
  obtain ⟨ds, S1, e1, hz, hv, hl, hc, he, hq⟩ := h.ex
  exact okP.of (lc_pure p f e1 hv hz hc he hl) hq
theorem loop_wp {v : Nat} {b : St} {S : List Slot} {ds : List D} {Q : Fl → List Slot → Prop} (I : List D → List Slot → Prop) (hI : ∀ ds S, I ds S → v < S.length) (i : I ds S)
    (h : ∀ d ds S, I (d :: ds) S → okP (b (S.set v (some (.fz, d)))) fun f S' => f = .nx ∧ I ds S') (hq : ∀ S, I [] S → Q .nx S) : okP (loop (.nm v) b ds S) Q := by
  obtain ⟨S', e, i2⟩ := loop_inv (b := b) I hI (fun d ds S i => by
    obtain ⟨f, S', e1, rfl, i1⟩ := (h d ds S i).ex
    exact ⟨S', e1, i1⟩) ds S i
  exact okP.of e (hq S' i2)
end TB

/-! TbP3: the laws' draws, names -/
namespace TB
def bDraws : St := (sSeq (sSet 2 (eFr (eOp fMul (eCon (.int 15485863)) (eVar 1)))) (sSeq (sIf (eBool (eOp fLt (eVar 1) (eApp fLen [(eVar 0)]))) (sSet 2 (eOp fMod (eOp fIx (eVar 0) (eVar 1)) (eOp fMul (eOp fPow (eCon (.int 10)) (eCon (.int 60))) (eOp fPow (eCon (.int 10)) (eCon (.int 60)))))) (sIf (eBool (eOp fGt (eApp fLen [(eVar 0)]) (eCon (.int 0)))) (sSet 2 (eFr (eOp fAdd (eOp fMod (eOp fIx (eVar 0) (eOp fMod (eVar 1) (eApp fLen [(eVar 0)]))) (eOp fPow (eCon (.int 10)) (eCon (.int 15)))) (eOp fMul (eCon (.int 15485863)) (eVar 1))))) sNx)) (sRet (eApp fLst [(eOp fMul (eVar 2) (eApp fIntB [(eOp fGe (eVar 2) (eOp fPow (eCon (.int 10)) (eCon (.int 18))))])), (eOp fAdd (eCon (.int 1)) (eOp fMod (eOp fAdd (eOp fMul (eVar 2) (eCon (.int 69621))) (eOp fMul (eCon (.int 86028121)) (eOp fAdd (eVar 1) (eCon (.int 1))))) (eCon (.int 2147483646))))]))))
def DrawsOk (F : Fn) : Prop := ∀ (ns : List Int) (k : Int), 0 ≤ k → k ≤ 1000 → ∃ kd, F [(.fz, .scr ns), (.fz, .int k)] = .ret kd [] ∧ DI kd
theorem normIx_nat {n : Nat} {k : Int} (h0 : 0 ≤ k) (h : k < n) : normIx n k = some k.toNat := by
  unfold normIx
  rw [if_pos h0, if_pos h]
theorem draws_tail {ns : List Int} {k c : Int} (k0 : 0 ≤ k) (k1 : k ≤ 1000) (c0 : 0 ≤ c) (c1 : c < 1000000000000000000000000000000000000000000000000000000000000000000000000000000000000000000000000000000000000000000000000) :
    ∃ kd, (sRet (eApp fLst [(eOp fMul (eVar 2) (eApp fIntB [(eOp fGe (eVar 2) (eOp fPow (eCon (.int 10)) (eCon (.int 18))))])), (eOp fAdd (eCon (.int 1)) (eOp fMod (eOp fAdd (eOp fMul (eVar 2) (eCon (.int 69621))) (eOp fMul (eCon (.int 86028121)) (eOp fAdd (eVar 1) (eCon (.int 1))))) (eCon (.int 2147483646))))])) [some (.fz, .scr ns), some (.fz, .int k), some (.fz, .int c)] =
      .ok (.rt kd) [some (.fz, .scr ns), some (.fz, .int k), some (.fz, .int c)] ∧ DI kd := by
  have s1 : small c := by show c.natAbs < _; omega
  have s2 : small (k + 1) := by show (k + 1).natAbs < _; omega
  by_cases h : 1000000000000000000 ≤ c
  · refine ⟨_, by simp [fPow, fGe, fIntB, fMul, fAdd, fMod, fLst, kz, h, s1, s2, sizeMax]; rfl, c, _, rfl, c0, c1, ?_, ?_⟩
    · have := Int.emod_nonneg (c * 69621 + 86028121 * (k + 1)) (b := 2147483646) (by decide); omega
    · have := Int.emod_lt_of_pos (c * 69621 + 86028121 * (k + 1)) (b := 2147483646) (by decide); omega
  · refine ⟨_, by simp [fPow, fGe, fIntB, fMul, fAdd, fMod, fLst, kz, h, s1, s2, sizeMax]; rfl, 0, _, rfl, by omega, by omega, ?_, ?_⟩
    · have := Int.emod_nonneg (c * 69621 + 86028121 * (k + 1)) (b := 2147483646) (by decide); omega
    · have := Int.emod_lt_of_pos (c * 69621 + 86028121 * (k + 1)) (b := 2147483646) (by decide); omega
theorem draws_ok : DrawsOk (runF 3 [] bDraws) := by
  intro ns k k0 k1
  have sk : small k := by show k.natAbs < _; omega
  have main : ∃ kd c, bDraws [some (.fz, .scr ns), some (.fz, .int k), none] = .ok (.rt kd) [some (.fz, .scr ns), some (.fz, .int k), some (.fz, .int c)] ∧ DI kd := by
    unfold bDraws
    by_cases h : k < (ns.length : Int)
    · have hn : k.toNat < ns.length := by omega
      have e1 := Int.emod_nonneg ns[k.toNat] (b := 1000000000000000000000000000000000000000000000000000000000000000000000000000000000000000000000000000000000000000000000000) (by decide)
      have e2 := Int.emod_lt_of_pos ns[k.toNat] (b := 1000000000000000000000000000000000000000000000000000000000000000000000000000000000000000000000000000000000000000000000000) (by decide)
      obtain ⟨kd, h1, h2⟩ := draws_tail (ns := ns) k0 k1 e1 e2
      refine ⟨kd, ns[k.toNat] % 1000000000000000000000000000000000000000000000000000000000000000000000000000000000000000000000000000000000000000000000000, ?_, h2⟩
      rw [← h1]
      simp [fMul, fLt, fLen, kz, sk, h, fIx, normIx_nat k0 h, hn, fPow, fMod]
    · by_cases hl : 0 < ns.length
      · have hl' : (0 : Int) < ns.length := by omega
        have m0 := Int.emod_nonneg k (b := (ns.length : Int)) (by omega)
        have m1 := Int.emod_lt_of_pos k hl'
        have hn : (k % (ns.length : Int)).toNat < ns.length := by omega
        have e1 := Int.emod_nonneg ns[(k % (ns.length : Int)).toNat] (b := 1000000000000000) (by decide)
        have e2 := Int.emod_lt_of_pos ns[(k % (ns.length : Int)).toNat] (b := 1000000000000000) (by decide)
        obtain ⟨kd, h1, h2⟩ := draws_tail (ns := ns) (c := ns[(k % (ns.length : Int)).toNat] % 1000000000000000 + 15485863 * k) k0 k1 (by omega) (by omega)
        refine ⟨kd, ns[(k % (ns.length : Int)).toNat] % 1000000000000000 + 15485863 * k, ?_, h2⟩
        rw [← h1]
        simp [fMul, fLt, fLen, fGt, kz, sk, h, hl, fIx, normIx_nat m0 m1, hn, fPow, fMod, fAdd]
      · have hl0 : ns.length = 0 := by omega
        obtain ⟨kd, h1, h2⟩ := draws_tail (ns := ns) (c := 15485863 * k) k0 k1 (by omega) (by omega)
        refine ⟨kd, 15485863 * k, ?_, h2⟩
        rw [← h1]
        simp [fMul, fLt, fLen, fGt, kz, sk, h, hl]
  obtain ⟨kd, c, e, h⟩ := main
  exact ⟨kd, runF_ret (as := [(.fz, .scr ns), (.fz, .int k)]) rfl e rfl, h⟩
end TB

/-! TbP4: the laws' names -/
namespace TB
def bNames (F : Fn) : St := (sSeq (sSet 2 (eCon (.str [97, 98, 99, 100, 101, 102, 103, 104, 105, 106, 107, 108, 109, 110, 111, 112, 113, 114, 115, 116, 117, 118, 119, 120, 121, 122]))) (sSeq (sSet 3 (eJoin (eCon (.str [])) (eLc (itRange1 (eOp fIx (eApp fLst [(eCon (.int 0)), (eCon (.int 1)), (eCon (.int 2)), (eCon (.int 7))]) (eCall F [.b 0, .v (eCon (.int 4))]))) (.nm 6) [6] tTrue (eOp fIx (eVar 2) (eCall F [.b 0, .v (eCon (.int 26))]))))) (sSeq (sSet 4 (eCall F [.b 0, .v (eCon (.int 26))])) (sSeq (sSet 5 (eOp fIx (eApp fLst [(eCon (.int 1)), (eCon (.int 3)), (eCon (.int 5)), (eCon (.int 7))]) (eCall F [.b 0, .v (eCon (.int 4))]))) (sRet (eFr (eApp fSorted [(eLc (itRange1 (eVar 1)) (.nm 6) [6] tTrue (eOp fAdd (eVar 3) (eOp fIx (eVar 2) (eOp fMod (eOp fAdd (eVar 4) (eOp fMul (eVar 5) (eVar 6))) (eCon (.int 26))))))])))))))
def abc : List Nat := [97, 98, 99, 100, 101, 102, 103, 104, 105, 106, 107, 108, 109, 110, 111, 112, 113, 114, 115, 116, 117, 118, 119, 120, 121, 122]
/-- names: texts of one to eight letters -/
def nameS (s : List Nat) : Bool := decide (1 ≤ s.length) && decide (s.length ≤ 8) && s.all (abc.contains ·)
theorem abc_ix {r : Int} (h0 : 0 ≤ r) (h1 : r < 26) : ∃ c, fIx (.str abc) (.int r) = some (.fz, .str [c]) ∧ c ∈ abc ∧ c = 97 + r.toNat := by
  have hn : r.toNat < 26 := by omega
  have hl : abc.length = 26 := rfl
  refine ⟨abc[r.toNat]'(by rw [hl]; exact hn), ?_, List.getElem_mem _, ?_⟩
  · show (if abc.length ≤ sizeMax then (normIx abc.length r).bind fun n => abc[n]?.bind fun c => kz (.str [c]) else none) = _
    rw [if_pos (by decide), normIx_nat h0 (by rw [hl]; exact h1)]
    simp [hl, hn, kz]
  · generalize r.toNat = n at hn
    have : ∀ n : Fin 26, abc[n.1]? = some (97 + n.1) := by decide
    have := this ⟨n, hn⟩
    rw [List.getElem?_eq_getElem (by rw [hl]; exact hn)] at this
    exact Option.some.inj this
def NamesQ (m : Int) (r : KD) (o : List KD) : Prop := ∃ (ss : List (List Nat)) (kd : KD), r = (.fz, .lst (ss.map D.str)) ∧ o = [kd] ∧ DI kd ∧ ss.length = m.toNat ∧ (∀ s ∈ ss, nameS s = true) ∧ ss.Pairwise (· ≤ ·) ∧ ss.Nodup
def NamesOk (F : Fn) : Prop := ∀ (kd : KD) (m : Int), DI kd → 0 ≤ m → m ≤ 26 → FnP F [kd, (.fz, .int m)] (NamesQ m)
theorem strsOf_map : ∀ ss : List (List Nat), strsOf (ss.map D.str) = some ss
  | [] => rfl
  | s :: ss => by simp [strsOf, strsOf_map ss]
theorem strs_exists : ∀ ys : List D, (∀ y ∈ ys, ∃ c, y = .str [c] ∧ c ∈ abc) → ∃ cs : List Nat, ys = cs.map (fun c => .str [c]) ∧ (∀ c ∈ cs, c ∈ abc)
  | [], _ => ⟨[], rfl, fun _ h => by simp at h⟩
  | y :: ys, h => by
    obtain ⟨c, e, m⟩ := h y List.mem_cons_self
    obtain ⟨cs, e2, m2⟩ := strs_exists ys fun z hz => h z (List.mem_cons_of_mem _ hz)
    exact ⟨c :: cs, by rw [e, e2]; rfl, fun x hx => by rcases List.mem_cons.mp hx with q | q; (rw [q]; exact m); exact m2 x q⟩
theorem join_ones : ∀ cs : List Nat, joinD [] (cs.map fun c => [c]) = cs
  | [] => rfl
  | [c] => rfl
  | c :: d :: cs => by
    show [c] ++ ([] ++ joinD [] ((d :: cs).map fun c => [c])) = _
    rw [join_ones (d :: cs)]; rfl
theorem sortT_perm (xs : List (List Nat)) : (sortT xs).Perm xs := List.mergeSort_perm _ _
theorem sortT_pair (xs : List (List Nat)) : (sortT xs).Pairwise (· ≤ ·) := by
  unfold sortT
  have e : (fun a b : List Nat => !decide (b < a)) = fun a b => decide (a ≤ b) := by
    funext a b
    rw [← decide_not]
    exact decide_eq_decide.mpr List.not_lt
  rw [e]
  have := List.pairwise_mergeSort (le := fun a b : List Nat => decide (a ≤ b)) (fun a b c h1 h2 => by simp at *; exact List.le_trans h1 h2) (fun a b => by simp; exact List.le_total a b) xs
  exact this.imp fun h => by simpa using h
theorem fIx_lst {xs : List D} {r : Int} (h0 : 0 ≤ r) (h1 : r < xs.length) : ∃ x ∈ xs, fIx (.lst xs) (.int r) = some (.fz, x) := by
  have hn : r.toNat < xs.length := by omega
  refine ⟨xs[r.toNat], List.getElem_mem _, ?_⟩
  show ((normIx xs.length r).bind fun n => xs[n]?.bind kz) = _
  rw [normIx_nat h0 h1]
  simp [hn, kz]
theorem pick_int {xs : List D} {r lo hi : Int} (h0 : 0 ≤ r) (h1 : r < xs.length) (h : ∀ x ∈ xs, ∃ j, x = .int j ∧ lo ≤ j ∧ j ≤ hi) : ∃ j, fIx (.lst xs) (.int r) = some (.fz, .int j) ∧ lo ≤ j ∧ j ≤ hi := by
  obtain ⟨x, hx, e⟩ := fIx_lst h0 h1
  obtain ⟨j, rfl, h2⟩ := h x hx
  exact ⟨j, e, h2⟩
theorem small_i {i : Int} (h0 : 0 ≤ i) (h1 : i < 1000000000000000000000000000000000000000000000000000000000000) : small i := by show i.natAbs < _; omega
theorem ones_sum : ∀ cs : List Nat, ((cs.map fun c => [c]).map (·.length)).sum = cs.length
  | [] => rfl
  | c :: cs => by
    show 1 + ((cs.map fun c => [c]).map (·.length)).sum = cs.length + 1
    rw [ones_sum cs]; omega
theorem abc_eq : abc = [97, 98, 99, 100, 101, 102, 103, 104, 105, 106, 107, 108, 109, 110, 111, 112, 113, 114, 115, 116, 117, 118, 119, 120, 121, 122] := rfl
def stepOk (s : Int) : Prop := s = 1 ∨ s = 3 ∨ s = 5 ∨ s = 7
def nth (stem : List Nat) (a s : Int) (d : D) : D := match d with
  | .int k => .str (stem ++ [97 + ((a + s * k) % 26).toNat])
  | _ => .non
def nthS (stem : List Nat) (a s : Int) (k : Nat) : List Nat := stem ++ [97 + ((a + s * (k : Int)) % 26).toNat]
theorem nth_map (stem : List Nat) (a s : Int) (n : Nat) : (rangeL 0 n).map (nth stem a s) = ((List.range n).map (nthS stem a s)).map D.str := by
  unfold rangeL
  rw [List.map_map, List.map_map]
  refine List.map_congr_left fun k _ => ?_
  show nth stem a s (.int (0 + (k : Int))) = D.str (nthS stem a s k)
  rw [Int.zero_add]; rfl
theorem nth_inj {stem : List Nat} {a s : Int} (hs : stepOk s) {i j : Nat} (hi : i < 26) (hj : j < 26) (h : nthS stem a s i = nthS stem a s j) : i = j := by
  unfold nthS at h
  have h := List.append_cancel_left h
  have h : 97 + ((a + s * (i : Int)) % 26).toNat = 97 + ((a + s * (j : Int)) % 26).toNat := by simpa using h
  have m1 := Int.emod_nonneg (a + s * (i : Int)) (b := 26) (by decide)
  have m2 := Int.emod_nonneg (a + s * (j : Int)) (b := 26) (by decide)
  rcases hs with rfl | rfl | rfl | rfl <;> omega
theorem nth_name {stem : List Nat} {a s : Int} (h1 : stem.length ≤ 7) (h2 : ∀ c ∈ stem, c ∈ abc) (k : Nat) : nameS (nthS stem a s k) = true := by
  unfold nameS nthS
  have m1 := Int.emod_nonneg (a + s * (k : Int)) (b := 26) (by decide)
  have m2 := Int.emod_lt_of_pos (a + s * (k : Int)) (b := 26) (by decide)
  generalize hc : ((a + s * (k : Int)) % 26).toNat = c
  have hc2 : c < 26 := by omega
  have h3 : ∀ n : Fin 26, abc.contains (97 + n.1) = true := by decide
  have h3 := h3 ⟨c, hc2⟩
  have h4 : stem.all (abc.contains ·) = true := List.all_eq_true.mpr fun c hc => by simpa using h2 c hc
  simp only [List.length_append, List.length_singleton, List.all_append, h4, List.all_cons, List.all_nil, h3]
  simp
  omega
theorem map_nodup {α β : Type} {f : α → β} : ∀ {l : List α}, l.Nodup → (∀ a ∈ l, ∀ b ∈ l, f a = f b → a = b) → (l.map f).Nodup
  | [], _, _ => .nil
  | x :: l, h, i => by
    rw [List.nodup_cons] at h
    rw [List.map_cons, List.nodup_cons]
    refine ⟨fun m => ?_, map_nodup h.2 fun a ha b hb => i a (List.mem_cons_of_mem _ ha) b (List.mem_cons_of_mem _ hb)⟩
    obtain ⟨y, hy, e⟩ := List.mem_map.mp m
    have := i y (List.mem_cons_of_mem _ hy) x List.mem_cons_self e
    exact h.1 (this ▸ hy)
theorem intsOf_str {s : List Nat} {ds : List D} : intsOf (.str s :: ds) = none := rfl
theorem sorted_strs {ss : List (List Nat)} (h : ss.length < 64) : fSorted [.lst (ss.map D.str)] = some (.li .fz, .lst ((sortT ss).map D.str)) := by
  cases ss with
  | nil => simp [fSorted, intsOf, sortI, sortT]
  | cons s ss =>
    show (match intsOf (.str s :: ss.map D.str) with | some is => some ((.li .fz, .lst ((sortI is).map D.int)) : KD) | none => match strsOf ((s :: ss).map D.str) with | some ss => if ss.length < 64 then some ((.li .fz, .lst ((sortT ss).map D.str)) : KD) else none | none => none) = _
    rw [intsOf_str, strsOf_map]
    exact if_pos h
theorem names_ok {F : Fn} (hF : DrawOk F) : NamesOk (runF 7 [0] (bNames F)) := by
  intro kd m hd m0 m1
  refine runF_wp (by obtain ⟨a, b, rfl, _⟩ := hd; rfl) ?_
  simp [bNames, ← abc_eq, -Prod.exists, -Prod.forall]
  refine lc_wp (fun S => ∃ kd, DI kd ∧ S = [some kd, some (.fz, .int m), some (.fz, .str abc), none, none, none, none]) (fun d => ∃ c, d = .str [c] ∧ c ∈ abc) ?_ ?_
  · rintro S ⟨_, _, rfl⟩; simp
  simp [-Prod.exists, -Prod.forall]
  refine draw_wp hF rfl ?_
  simp [hd, -Prod.exists, -Prod.forall]
  intro r kd2 hd2 r0 r1
  obtain ⟨j, e, j0, j1⟩ := pick_int (xs := [.int 0, .int 1, .int 2, .int 7]) (lo := 0) (hi := 7) r0 (by simpa using r1) (by simp)
  have hj : j.natAbs < limN := by unfold limN; omega
  simp [e, hj, -Prod.exists, -Prod.forall]
  refine ⟨by simp [fzAt], by simp [rangeL, sizeMax]; omega, hd2, ?_, ?_⟩
  · rintro S d kd3 hd3 rfl hm
    simp [-Prod.exists, -Prod.forall]
    refine draw_wp hF rfl ?_
    simp [hd3, -Prod.exists, -Prod.forall]
    intro r kd4 hd4 r2 r3
    obtain ⟨c, e2, hc, _⟩ := abc_ix r2 r3
    simp [e2, hc, -Prod.exists, -Prod.forall]
    exact hd4
  · rintro ys S' hl hy kd3 hd3 rfl
    obtain ⟨cs, rfl, hcs⟩ := strs_exists ys hy
    have hl2 : cs.length ≤ 7 := by
      rw [List.length_map] at hl
      rw [hl]; simp [rangeL]; omega
    have ej : fJoin [] (.lst (cs.map fun c => D.str [c])) = some (.fz, .str cs) := by
      have e1 : (cs.map fun c => D.str [c]) = (cs.map fun c => [c]).map D.str := by rw [List.map_map]; rfl
      show (strsOf _).bind _ = _
      rw [e1, strsOf_map]
      show (if ((cs.map fun c => [c]).map (·.length)).sum + (cs.map fun c => [c]).length * 0 ≤ sizeMax then kz (.str (joinD [] (cs.map fun c => [c]))) else none) = _
      rw [ones_sum, join_ones, if_pos (by simp [sizeMax]; omega)]
      rfl
    simp [ej, -Prod.exists, -Prod.forall]
    refine draw_wp hF rfl ?_
    simp [hd3, -Prod.exists, -Prod.forall]
    intro a kd4 hd4 a0 a1
    refine draw_wp hF rfl ?_
    simp [hd4, -Prod.exists, -Prod.forall]
    intro r kd5 hd5 r4 r5
    obtain ⟨x, hx, e3⟩ := fIx_lst (xs := [.int 1, .int 3, .int 5, .int 7]) r4 (by simpa using r5)
    have hs : ∃ s, x = .int s ∧ stepOk s := by
      unfold stepOk
      simp at hx
      rcases hx with rfl | rfl | rfl | rfl <;> simp
    obtain ⟨s, rfl, hs⟩ := hs
    have s0 : 0 ≤ s := by unfold stepOk at hs; omega
    have s1 : s ≤ 7 := by unfold stepOk at hs; omega
    simp [e3, -Prod.exists, -Prod.forall]
    refine lcp_wp (fun _ => true) (nth cs a s) ?_
    have hm : m.natAbs < limN := by unfold limN; omega
    simp [hm, -Prod.exists, -Prod.forall]
    refine ⟨by simp [fzAt], by simp [rangeL, sizeMax]; omega, ?_, ?_⟩
    · intro d hd
      unfold rangeL at hd
      obtain ⟨k, hk, rfl⟩ := List.mem_map.mp hd
      have hk := List.mem_range.mp hk
      have q1 := Int.emod_nonneg (a + s * (0 + (k : Int))) (b := 26) (by decide)
      have q2 := Int.emod_lt_of_pos (a + s * (0 + (k : Int))) (b := 26) (by decide)
      obtain ⟨c, e4, _, e5⟩ := abc_ix q1 q2
      have z1 : small s := small_i s0 (by omega)
      have z2 : small (0 + (k : Int)) := small_i (by omega) (by omega)
      have z3 : cs.length + 1 ≤ sizeMax := by simp [sizeMax]; omega
      simp only [Int.zero_add] at e4 e5 z2 ⊢
      exact ⟨.fz, by simp [fMul, fAdd, fMod, kz, z1, z2, e4, z3, nth, e5]; omega⟩
    · rw [show ∀ l : List D, l.filter (fun _ => true) = l from fun l => List.filter_eq_self.mpr fun _ _ => rfl, nth_map, sorted_strs (by simp; omega)]
      obtain ⟨ka, kb, rfl, _⟩ := hd
      obtain ⟨kc, kd', rfl, hh⟩ := hd5
      simp [outsOf, dr, Kd.isF, -Prod.exists]
      refine ⟨_, _, rfl, rfl, ⟨kc, kd', rfl, hh⟩, ?_, ?_, sortT_pair _, ?_⟩
      · rw [(sortT_perm _).length_eq]; simp
      · intro x hx
        obtain ⟨k, _, rfl⟩ := List.mem_map.mp ((sortT_perm _).mem_iff.mp hx)
        exact nth_name hl2 hcs k
      · refine (sortT_perm _).nodup_iff.mpr (map_nodup List.nodup_range fun i hi j hj e => ?_)
        have hi := List.mem_range.mp hi
        have hj := List.mem_range.mp hj
        exact nth_inj hs (by omega) (by omega) e
end TB

/-! TbP5: some of .. -/
namespace TB
def bSome (F : Fn) : St := (sSeq (sSet 3 eDnew) (sSeq (sFor (itRange1 (eCall F [.b 0, .v (eOp fAdd (eVar 2) (eCon (.int 1)))])) (.nm 4) (sDput 3 (eOp fIx (eVar 1) (eCall F [.b 0, .v (eApp fLen [(eVar 1)])])) (eCon (.bl true)))) (sRet (eApp fTuple [(eApp fSorted [(ePeekL (eApp fList [(eVar 3)]))])]))))
section
variable {α : Type} [DecidableEq α]
theorem putD_map {K : α → D} (he : ∀ a b, D.eqv (K a) (K b) = decide (a = b)) (as : List α) (a : α) : putD (as.map fun a => (K a, D.bl true)) (K a) (.bl true) = (if a ∈ as then as else as ++ [a]).map fun a => (K a, D.bl true) := by
  unfold putD
  have h1 : ((as.map fun a => (K a, D.bl true)).any fun p => D.eqv p.1 (K a)) = decide (a ∈ as) := by
    rw [List.any_map, Bool.eq_iff_iff, List.any_eq_true, decide_eq_true_iff]
    constructor
    · rintro ⟨b, hb, e⟩
      have e : D.eqv (K b) (K a) = true := e
      rw [he, decide_eq_true_iff] at e
      exact e ▸ hb
    · intro h
      exact ⟨a, h, by show D.eqv (K a) (K a) = true; rw [he]; simp⟩
  rw [h1]
  by_cases h : a ∈ as
  · rw [if_pos (by simpa using h), if_pos h, List.map_map]
    refine List.map_congr_left fun b _ => ?_
    show (if D.eqv (K b) (K a) = true then (K b, D.bl true) else (K b, D.bl true)) = _
    split <;> rfl
  · rw [if_neg (by simpa using h), if_neg h, List.map_append]
    rfl
theorem all_flat {K : α → D} (hf : ∀ a, (K a).flat = true) (as : List α) : (as.map K).all D.flat = true := by
  rw [List.all_map, List.all_eq_true]
  exact fun a _ => hf a
def SomeQ (K : α → D) (srt : List α → List α) (src : List α) (m : Int) (r : KD) (o : List KD) : Prop := ∃ (as : List α) (kd : KD), r = (.fz, .tup ((srt as).map K)) ∧ o = [kd] ∧ DI kd ∧ as.Nodup ∧ as.length ≤ m.toNat ∧ ∀ a ∈ as, a ∈ src
theorem some_gen {F : Fn} (hF : DrawOk F) {K : α → D} (hk : ∀ a, isKey (K a) = true) (hf : ∀ a, (K a).flat = true) (he : ∀ a b, D.eqv (K a) (K b) = decide (a = b)) {srt : List α → List α} (hs : ∀ as : List α, as.length < 64 → fSorted [.lst (as.map K)] = some (.li .fz, .lst ((srt as).map K)))
    {kd : KD} {src : List α} {m : Int} (hd : DI kd) (l0 : 1 ≤ src.length) (l1 : src.length ≤ 1000) (m0 : 0 ≤ m) (m1 : m ≤ 60) : FnP (runF 5 [0] (bSome F)) [kd, (.fz, .lst (src.map K)), (.fz, .int m)] (SomeQ K srt src m) := by
  refine runF_wp (by obtain ⟨a, b, rfl, _⟩ := hd; rfl) ?_
  simp [bSome, -Prod.exists, -Prod.forall]
  refine draw_wp hF rfl ?_
  simp [fAdd, kz, hd, -Prod.exists, -Prod.forall]
  refine ⟨by omega, by omega, fun r kd2 hd2 r0 r1 => ?_⟩
  have hr : r.natAbs < limN := by unfold limN; omega
  simp [hr, -Prod.exists, -Prod.forall]
  refine loop_wp (fun ds S => ∃ (kd : KD) (as : List α) (x : Slot), DI kd ∧ as.Nodup ∧ as.length + ds.length ≤ m.toNat ∧ (∀ a ∈ as, a ∈ src) ∧ S = [some kd, some (.fz, .lst (src.map K)), some (.fz, .int m), some (.dK .fz, .dic (as.map fun a => (K a, D.bl true))), x]) ?_ ?_ ?_ ?_
  · rintro ds S ⟨kd, as, x, _, _, _, _, rfl⟩; simp
  · exact ⟨kd2, [], none, hd2, .nil, by simp [rangeL]; omega, by simp, rfl⟩
  · rintro d ds S ⟨kd3, as, x, hd3, nd, hl, hsub, rfl⟩
    simp [ownK, -Prod.exists, -Prod.forall]
    refine draw_wp hF rfl ?_
    simp [fLen, kz, hd3, -Prod.exists, -Prod.forall]
    refine ⟨by omega, by omega, fun r kd4 hd4 r2 r3 => ?_⟩
    obtain ⟨y, hy, e⟩ := fIx_lst (xs := src.map K) r2 (by simpa using r3)
    obtain ⟨a, ha, rfl⟩ := List.mem_map.mp hy
    have hz : as.length < sizeMax := by simp [sizeMax]; simp at hl; omega
    simp [e, hk, hz, putD_map he, -Prod.exists, -Prod.forall]
    refine ⟨kd4, hd4, if a ∈ as then as else as ++ [a], ?_, ?_, ?_, rfl, rfl⟩
    · split
      · exact nd
      · rename_i h
        rw [List.nodup_append]
        exact ⟨nd, by simp, fun b hb c hc => by simp at hc; subst hc; intro z; subst z; exact h hb⟩
    · simp at hl
      split
      · omega
      · simp; omega
    · intro b hb
      split at hb
      · exact hsub b hb
      · rcases List.mem_append.mp hb with h | h
        · exact hsub b h
        · simp at h; subst h; exact ha
  · rintro S ⟨kd3, as, x, hd3, nd, hl, hsub, rfl⟩
    simp at hl
    have e1 : (as.map fun a => (K a, D.bl true)).map (·.1) = as.map K := by rw [List.map_map]; rfl
    simp [frz, fList, e1, all_flat hf, -Prod.exists, -Prod.forall]
    have e2 := hs as (by omega)
    simp [e1, e2, fTuple, kz, -Prod.exists, -Prod.forall]
    obtain ⟨ka, kb, rfl, _⟩ := hd
    obtain ⟨kc, ke, rfl, hh⟩ := hd3
    simp [outsOf, dr, Kd.isF, -Prod.exists]
    exact ⟨as, _, rfl, rfl, ⟨kc, ke, rfl, hh⟩, nd, by omega, hsub⟩
end
theorem some_str {F : Fn} (hF : DrawOk F) {kd : KD} {src : List (List Nat)} {m : Int} (hd : DI kd) (l0 : 1 ≤ src.length) (l1 : src.length ≤ 1000) (m0 : 0 ≤ m) (m1 : m ≤ 60) : FnP (runF 5 [0] (bSome F)) [kd, (.fz, .lst (src.map D.str)), (.fz, .int m)] (SomeQ D.str sortT src m) :=
  some_gen hF (fun _ => rfl) (fun _ => rfl) (fun a b => by show (a == b) = _; rw [Bool.eq_iff_iff]; simp) (fun as h => sorted_strs h) hd l0 l1 m0 m1
theorem intsOf_map : ∀ is : List Int, intsOf (is.map D.int) = some is
  | [] => rfl
  | i :: is => by simp [intsOf, intsOf_map is]
theorem some_int {F : Fn} (hF : DrawOk F) {kd : KD} {src : List Int} {m : Int} (hd : DI kd) (l0 : 1 ≤ src.length) (l1 : src.length ≤ 1000) (m0 : 0 ≤ m) (m1 : m ≤ 60) : FnP (runF 5 [0] (bSome F)) [kd, (.fz, .lst (src.map D.int)), (.fz, .int m)] (SomeQ D.int sortI src m) :=
  some_gen hF (fun _ => rfl) (fun _ => rfl) (fun a b => by show (a == b) = _; rw [Bool.eq_iff_iff]; simp) (fun as _ => by show (match intsOf (as.map D.int) with | some is => some ((.li .fz, .lst ((sortI is).map D.int)) : KD) | none => _) = _; rw [intsOf_map]) hd l0 l1 m0 m1
end TB

/-! TbP6: all([..]), [..] == [], things -/
namespace TB
theorem boolsOf_map {α : Type} (g : α → Bool) : ∀ l : List α, boolsOf (l.map fun x => D.bl (g x)) = some (l.map g)
  | [] => rfl
  | x :: l => by simp [boolsOf, boolsOf_map g l]
theorem filter_true (l : List D) : l.filter (fun _ => true) = l := List.filter_eq_self.mpr fun _ _ => rfl
section
variable {it : It} {c : T} {e : E} {v : Nat} {S : List Slot} {ds : List D}
theorem all_eq (g : D → Bool) (hit : it S = .ok ds S) (hz : fzAt S v = true) (hv : v < S.length) (hl : ds.length ≤ sizeMax) (he : ∀ d ∈ ds, ∃ k, e (S.set v (some (.fz, d))) = .ok (k, .bl (g d)) (S.set v (some (.fz, d)))) :
    eApp fAllB [eLc it (.nm v) [v] tTrue e] S = .ok (.fz, .bl (ds.all g)) S := by
  have h := lc_pure (c := tTrue) (e := e) (fun _ => true) (fun d => .bl (g d)) hit hv hz (fun _ _ => rfl) (fun d hd _ => he d hd) hl
  rw [filter_true] at h
  rw [eApp_ap, eAll_cons, eDat_ap, h]
  show ofO (fAllB [.lst (ds.map fun d => .bl (g d))]) S = _
  have : fAllB [.lst (ds.map fun d => .bl (g d))] = some (.fz, .bl (ds.all g)) := by
    show ((boolsOf _).bind fun bs => kz (.bl (bs.all id))) = _
    rw [boolsOf_map]
    show kz (.bl ((ds.map g).all id)) = _
    rw [List.all_map]; rfl
  rw [this]; rfl
theorem lays_of : ∀ {xs : List D}, (∀ d ∈ xs, d.lay n = true) → D.lays n xs = true
  | [], _ => by unfold D.lays; rfl
  | x :: xs, h => by
    unfold D.lays
    rw [h x List.mem_cons_self, lays_of fun d hd => h d (List.mem_cons_of_mem _ hd)]; rfl
theorem filt_nil (g : D → Bool) (ds : List D) : D.eqv (.lst (ds.filter fun d => !g d)) (.lst []) = ds.all g := by
  show D.eqvs _ [] = _
  have : ∀ l : List D, D.eqvs l [] = l.isEmpty := fun l => by cases l <;> (unfold D.eqvs; rfl)
  rw [this]
  induction ds with
  | nil => rfl
  | cons d ds ih =>
    rw [List.filter_cons, List.all_cons]
    cases h : g d with
    | true => simpa using ih
    | false => simp
theorem nil_lc (g : D → Bool) (hit : it S = .ok ds S) (hz : fzAt S v = true) (hv : v < S.length) (hl : ds.length ≤ sizeMax) (hc : ∀ d ∈ ds, c (S.set v (some (.fz, d))) = .ok (!g d) (S.set v (some (.fz, d)))) :
    eLc it (.nm v) [v] c (eVar v) S = .ok (.li .fz, .lst (ds.filter fun d => !g d)) S := by
  have h := lc_pure (c := c) (e := eVar v) (fun d => !g d) id hit hv hz hc (fun d hd _ => ⟨.fz, by rw [eVar_ap, List.getElem?_set_self hv]; rfl⟩) hl
  rw [List.map_id] at h
  exact h
theorem none_eq (g : D → Bool) (hit : it S = .ok ds S) (hz : fzAt S v = true) (hv : v < S.length) (hl : ds.length ≤ sizeMax) (hc : ∀ d ∈ ds, c (S.set v (some (.fz, d))) = .ok (!g d) (S.set v (some (.fz, d)))) (hy : ∀ d ∈ ds, d.lay 59 = true) :
    eOp fEq (eLc it (.nm v) [v] c (eVar v)) (eApp fLst []) S = .ok (.fz, .bl (ds.all g)) S := by
  have h1 : eqOk (.lst (ds.filter fun d => !g d)) (.lst []) = true := by
    unfold eqOk
    have : D.lay 60 (.lst (ds.filter fun d => !g d)) = true := by
      unfold D.lay
      exact lays_of fun d hd => hy d (List.mem_filter.mp hd).1
    rw [this]
    simp [D.lay, D.lays]
  rw [eOp_ap, eDat_ap, nil_lc g hit hz hv hl hc]
  simp [fLst, sizeMax, fEq, h1, filt_nil, kz]
theorem none_ne (g : D → Bool) (hit : it S = .ok ds S) (hz : fzAt S v = true) (hv : v < S.length) (hl : ds.length ≤ sizeMax) (hc : ∀ d ∈ ds, c (S.set v (some (.fz, d))) = .ok (!g d) (S.set v (some (.fz, d)))) (hy : ∀ d ∈ ds, d.lay 59 = true) :
    eOp fNe (eLc it (.nm v) [v] c (eVar v)) (eApp fLst []) S = .ok (.fz, .bl (!ds.all g)) S := by
  have h1 : eqOk (.lst (ds.filter fun d => !g d)) (.lst []) = true := by
    unfold eqOk
    have : D.lay 60 (.lst (ds.filter fun d => !g d)) = true := by
      unfold D.lay
      exact lays_of fun d hd => hy d (List.mem_filter.mp hd).1
    rw [this]
    simp [D.lay, D.lays]
  rw [eOp_ap, eDat_ap, nil_lc g hit hz hv hl hc]
  simp [fLst, sizeMax, fNe, h1, filt_nil, kz]
end
section
variable {it : It} {c : T} {e : E} {v : Nat} {S : List Slot} {ds : List D}
theorem all_ex (g : D → Bool) (hit : it S = .ok ds S) (hz : fzAt S v = true) (hv : v < S.length) (hl : ds.length ≤ sizeMax) (he : ∀ d ∈ ds, ∃ k, e (S.set v (some (.fz, d))) = .ok (k, .bl (g d)) (S.set v (some (.fz, d)))) :
    ∃ ys, eLc it (.nm v) [v] tTrue e S = .ok (.li .fz, .lst ys) S ∧ fAllB [.lst ys] = some (.fz, .bl (ds.all g)) := by
  have h := lc_pure (c := tTrue) (e := e) (fun _ => true) (fun d => .bl (g d)) hit hv hz (fun _ _ => rfl) (fun d hd _ => he d hd) hl
  rw [filter_true] at h
  refine ⟨_, h, ?_⟩
  show ((boolsOf _).bind fun bs => kz (.bl (bs.all id))) = _
  rw [boolsOf_map]
  show kz (.bl ((ds.map g).all id)) = _
  rw [List.all_map]; rfl
theorem none_ex (g : D → Bool) (hit : it S = .ok ds S) (hz : fzAt S v = true) (hv : v < S.length) (hl : ds.length ≤ sizeMax) (hc : ∀ d ∈ ds, c (S.set v (some (.fz, d))) = .ok (!g d) (S.set v (some (.fz, d)))) (hy : ∀ d ∈ ds, d.lay 59 = true) :
    ∃ ys, eLc it (.nm v) [v] c (eVar v) S = .ok (.li .fz, .lst ys) S ∧ fEq (.lst ys) (.lst []) = some (.fz, .bl (ds.all g)) ∧ fNe (.lst ys) (.lst []) = some (.fz, .bl (!ds.all g)) := by
  have h1 : eqOk (.lst (ds.filter fun d => !g d)) (.lst []) = true := by
    unfold eqOk
    have : D.lay 60 (.lst (ds.filter fun d => !g d)) = true := by
      unfold D.lay
      exact lays_of fun d hd => hy d (List.mem_filter.mp hd).1
    rw [this]
    simp [D.lay, D.lays]
  refine ⟨_, nil_lc g hit hz hv hl hc, ?_, ?_⟩
  · simp [fEq, h1, filt_nil, kz]
  · simp [fNe, h1, filt_nil, kz]
theorem fLst_nil : fLst [] = some (.li .fz, .lst []) := rfl
end
/-! ### things: no scripts, dicts, objects; of bounded size -/
def good (b : Nat) : Nat → D → Prop
  | _, .non => True
  | _, .bl _ => True
  | _, .int _ => True
  | _, .str s => s.length ≤ b ∧ ∀ c ∈ s, c < 1114112
  | n + 1, .lst xs => xs.length ≤ b ∧ ∀ x ∈ xs, good b n x
  | n + 1, .tup xs => xs.length ≤ b ∧ ∀ x ∈ xs, good b n x
  | _, _ => False
theorem good_mono {b b' : Nat} (hb : b ≤ b') : ∀ {n n' : Nat} {d : D}, n ≤ n' → good b n d → good b' n' d := by
  intro n
  induction n with
  | zero =>
    intro n' d hn h
    cases d <;> simp only [good] at h <;> cases n' <;> simp only [good] <;> first | trivial | exact ⟨by omega, h.2⟩ | exact h.elim
  | succ n ih =>
    intro n' d hn h
    cases n' with
    | zero => omega
    | succ n' =>
      cases d <;> simp only [good] at h ⊢ <;> first | trivial | exact ⟨by omega, h.2⟩ | exact ⟨by omega, fun x hx => ih (by omega) (h.2 x hx)⟩
theorem good_lay {b : Nat} : ∀ {n : Nat} {d : D}, good b n d → d.lay n = true := by
  intro n
  induction n with
  | zero => intro d h; cases d <;> simp only [good] at h <;> simp [D.lay] <;> first | exact h.2 | exact h.elim
  | succ n ih =>
    intro d h
    cases d <;> simp only [good] at h <;> unfold D.lay <;> first | rfl | exact lays_of fun d hd => ih (h.2 d hd) | simpa using h.2 | exact h.elim
theorem lay_mono : ∀ {n n' : Nat} {d : D}, n ≤ n' → d.lay n = true → d.lay n' = true := by
  intro n
  induction n with
  | zero => intro n' d hn h; cases d <;> cases n' <;> simp [D.lay] at h ⊢ <;> exact h
  | succ n ih =>
    intro n' d hn h
    cases n' with
    | zero => omega
    | succ n' =>
      have ys : ∀ {xs : List D}, D.lays n xs = true → D.lays n' xs = true := by
        intro xs
        induction xs with
        | nil => intro _; unfold D.lays; rfl
        | cons x xs ih2 =>
          intro h
          unfold D.lays at h ⊢
          obtain ⟨h1, h2⟩ := Bool.and_eq_true_iff.mp h
          rw [ih (by omega) h1, ih2 h2]; rfl
      cases d <;> unfold D.lay at h ⊢ <;> first | exact h | exact ys h
@[elab_as_elim] theorem good_elim {b n : Nat} {d : D} {P : D → Prop} (h : good b n d) (h1 : P .non) (h2 : ∀ x, P (.bl x)) (h3 : ∀ i, P (.int i)) (h4 : ∀ s : List Nat, s.length ≤ b → (∀ c ∈ s, c < 1114112) → P (.str s))
    (h5 : ∀ (xs : List D) (n' : Nat), n = n' + 1 → xs.length ≤ b → (∀ x ∈ xs, good b n' x) → P (.lst xs)) (h6 : ∀ (xs : List D) (n' : Nat), n = n' + 1 → xs.length ≤ b → (∀ x ∈ xs, good b n' x) → P (.tup xs)) : P d := by
  cases d with
  | non => exact h1
  | bl x => exact h2 x
  | int i => exact h3 i
  | str s =>
    have h : s.length ≤ b ∧ ∀ c ∈ s, c < 1114112 := by cases n <;> exact h
    exact h4 s h.1 h.2
  | lst xs => cases n with
    | zero => exact h.elim
    | succ n => exact h5 xs n rfl h.1 h.2
  | tup xs => cases n with
    | zero => exact h.elim
    | succ n => exact h6 xs n rfl h.1 h.2
  | _ => cases n <;> exact h.elim
theorem FnP.eq {F : Fn} {as : List KD} {r : KD} {o : List KD} (h : FnP F as fun r' o' => r' = r ∧ o' = o) : F as = .ret r o := by
  obtain ⟨r', o', e, rfl, rfl⟩ := h
  exact e
end TB

/-! TbP7: calls that take the draws along -/
namespace TB
theorem arEv_vs : ∀ (es : List E) (S : List Slot), arEv (es.map Ar.v) S = (eAll es S).bind fun ds S1 => .ok (ds.map AV.v) S1
  | [], S => rfl
  | e :: es, S => by
    rw [List.map_cons, arEv_v, eAll_cons]
    cases eDat e S with
    | ok d S1 =>
      show (arEv (es.map Ar.v) S1).bind _ = ((eAll es S1).bind _).bind _
      rw [arEv_vs es S1]
      cases eAll es S1 <;> rfl
    | exc x S1 => rfl
    | bad => rfl
theorem arIn_vs : ∀ (ds : List D) (S : List Slot), arIn (ds.map AV.v) S = some (ds.map fun d => (.fz, d), S)
  | [], S => rfl
  | d :: ds, S => by rw [List.map_cons]; unfold arIn; rw [arIn_vs ds S]; rfl
theorem arOut_vs : ∀ (ds : List D) (S : List Slot), arOut (ds.map AV.v) [] S = some S
  | [], S => rfl
  | d :: ds, S => by rw [List.map_cons]; unfold arOut; exact arOut_vs ds S
theorem DI.own {kd : KD} (h : DI kd) : kd.1.isF = false := by obtain ⟨a, b, rfl, _⟩ := h; rfl
theorem callB_wp {F : Fn} {i : Nat} {es : List E} {S : List Slot} {kd0 : KD} {Q : KD → List Slot → Prop} (h0 : S[i]? = some (some kd0))
    (h : okP (eAll es S) fun ds S1 => match S1[i]? with
      | some (some kd) => DI kd ∧ FnP F (kd :: ds.map fun d => (.fz, d)) fun r o => ∃ kd', o = [kd'] ∧ DI kd' ∧ Q r (S1.set i (some kd'))
      | _ => False) : okP (eCall F (.b i :: es.map Ar.v) S) Q := by
  refine call_wp ?_
  rw [arEv_b, h0]
  simp only [okP_bind]
  rw [arEv_vs, okP_bind]
  refine h.mono fun ds S1 h => ?_
  cases e1 : S1[i]? with
  | none => rw [e1] at h; exact h.elim
  | some s =>
    cases s with
    | none => rw [e1] at h; exact h.elim
    | some kd =>
      rw [e1] at h
      obtain ⟨hd, r, o, e2, kd', rfl, d2, q⟩ := h
      show (match arIn (.b i :: ds.map AV.v) S1 with | some (ks, S2) => _ | none => False)
      have e3 : arIn (.b i :: ds.map AV.v) S1 = some (kd :: ds.map fun d => (.fz, d), S1.set i none) := by
        unfold arIn
        rw [e1]
        simp only [hd.own, Bool.false_eq_true, if_false]
        rw [arIn_vs]; rfl
      rw [e3]
      refine ⟨r, [kd'], e2, ?_⟩
      have e4 : arOut (.b i :: ds.map AV.v) [kd'] (S1.set i none) = some (S1.set i (some kd')) := by
        unfold arOut
        rw [List.set_set, arOut_vs]
      simp only [e4]
      exact q
theorem call1_wp {F : Fn} {i : Nat} {a : E} {S : List Slot} {kd0 : KD} {Q : KD → List Slot → Prop} (h0 : S[i]? = some (some kd0))
    (h : okP (eAll [a] S) fun ds S1 => match S1[i]? with
      | some (some kd) => DI kd ∧ FnP F (kd :: ds.map fun d => (.fz, d)) fun r o => ∃ kd', o = [kd'] ∧ DI kd' ∧ Q r (S1.set i (some kd'))
      | _ => False) : okP (eCall F [.b i, .v a] S) Q := callB_wp (es := [a]) h0 h
theorem call2_wp {F : Fn} {i : Nat} {a b : E} {S : List Slot} {kd0 : KD} {Q : KD → List Slot → Prop} (h0 : S[i]? = some (some kd0))
    (h : okP (eAll [a, b] S) fun ds S1 => match S1[i]? with
      | some (some kd) => DI kd ∧ FnP F (kd :: ds.map fun d => (.fz, d)) fun r o => ∃ kd', o = [kd'] ∧ DI kd' ∧ Q r (S1.set i (some kd'))
      | _ => False) : okP (eCall F [.b i, .v a, .v b] S) Q := callB_wp (es := [a, b]) h0 h
theorem call3_wp {F : Fn} {i : Nat} {a b c : E} {S : List Slot} {kd0 : KD} {Q : KD → List Slot → Prop} (h0 : S[i]? = some (some kd0))
    (h : okP (eAll [a, b, c] S) fun ds S1 => match S1[i]? with
      | some (some kd) => DI kd ∧ FnP F (kd :: ds.map fun d => (.fz, d)) fun r o => ∃ kd', o = [kd'] ∧ DI kd' ∧ Q r (S1.set i (some kd'))
      | _ => False) : okP (eCall F [.b i, .v a, .v b, .v c] S) Q := callB_wp (es := [a, b, c]) h0 h
theorem FnP.mono {F : Fn} {as : List KD} {Q Q' : KD → List KD → Prop} (h : FnP F as Q) (i : ∀ r o, Q r o → Q' r o) : FnP F as Q' := by
  obtain ⟨r, o, e, q⟩ := h
  exact ⟨r, o, e, i r o q⟩
/-- a thing comes, the draws behind it -/
def ThingQ (b n : Nat) (r : KD) (o : List KD) : Prop := ∃ d kd', r = (.fz, d) ∧ o = [kd'] ∧ DI kd' ∧ good b n d
theorem outs_dr {kd kd' : KD} {S : List Slot} {as : List KD} (hd : DI kd) (hd' : DI kd') (ha : outsOf as S = some []) : outsOf (kd :: as) (some kd' :: S) = some [kd'] := by
  obtain ⟨a, b, rfl, _⟩ := hd
  obtain ⟨c, e, rfl, _⟩ := hd'
  unfold outsOf dr
  simp [Kd.isF, ha]
end TB

/-! k01: what is a name, a rule, a book: both sides say the same -/
namespace LW
open TB
def nameB (d : D) : Bool := match d with
  | .str s => nameS s
  | _ => false
def withinB (d : D) (lo hi : Int) : Bool := match d with
  | .int i => decide (lo ≤ i) && decide (i ≤ hi)
  | _ => false
def ltB : D → D → Bool
  | .int i, .int j => decide (i < j)
  | .str a, .str b => decide (a < b)
  | _, _ => false
def riseAt (xs : List D) (d : D) : Bool := match d with
  | .int k => ltB (xs.getD (k - 1).toNat .non) (xs.getD k.toNat .non)
  | _ => false
def riseB (xs : List D) : Bool := (rangeL 1 (xs.length - 1)).all (riseAt xs)
/-- all ints or all texts -/
def like (xs : List D) : Prop := (∀ x ∈ xs, ∃ i, x = .int i) ∨ (∀ x ∈ xs, ∃ s, x = .str s)
def namesB (d : D) (few many : Int) : Bool := match d with
  | .tup xs => decide (few ≤ xs.length) && decide ((xs.length : Int) ≤ many) && xs.all nameB && riseB xs
  | _ => false
section
variable {Γ : Nat → Fn} {b n : Nat} {d : D}
theorem within_0 {lo hi : Int} (h : good b n d) : runF 3 [] (mb_0 Γ) [(.fz, d), (.fz, .int lo), (.fz, .int hi)] = .ret (.fz, .bl (withinB d lo hi)) [] := by
  refine FnP.eq (runF_wp (by rfl) ?_)
  refine good_elim h ?_ ?_ ?_ ?_ ?_ ?_ <;> intros <;> simp [mb_0, fIsi, D.isTy, kz, fLe, chain2_ap, outsOf, Kd.isF, withinB]
  rename_i i
  by_cases h1 : lo ≤ i <;> simp [h1, outsOf, Kd.isF]
theorem within_17 {lo hi : Int} (h : good b n d) : runF 3 [] (mb_17 Γ) [(.fz, d), (.fz, .int lo), (.fz, .int hi)] = .ret (.fz, .bl (withinB d lo hi)) [] := by
  refine FnP.eq (runF_wp (by rfl) ?_)
  refine good_elim h ?_ ?_ ?_ ?_ ?_ ?_ <;> intros <;> simp [mb_17, fIsi, D.isTy, kz, fLe, outsOf, Kd.isF, withinB]
  rename_i i
  by_cases h1 : lo ≤ i <;> simp [h1, outsOf, Kd.isF]
theorem inA (c : Nat) : fInA (.str [c]) (.str abc) = some (.fz, .bl (decide (c ∈ abc))) := rfl
theorem notInA (c : Nat) : fNotInA (.str [c]) (.str abc) = some (.fz, .bl (!decide (c ∈ abc))) := rfl
def signB (d : D) : Bool := match d with
  | .str [c] => decide (c ∈ abc)
  | _ => false
theorem signs (s : List Nat) : (s.map fun c => D.str [c]).all signB = s.all (abc.contains ·) := by
  rw [List.all_map]
  congr 1
  funext c
  show decide (c ∈ abc) = abc.contains c
  rw [Bool.eq_iff_iff]; simp
theorem name_1 (hb : b ≤ 1000) (h : good b n d) : runF 2 [] (mb_1 Γ) [(.fz, d)] = .ret (.fz, .bl (nameB d)) [] := by
  refine FnP.eq (runF_wp (by rfl) ?_)
  refine good_elim h ?_ ?_ ?_ ?_ ?_ ?_ <;> intros <;> simp [mb_1, ← abc_eq, fIsi, D.isTy, kz, fLe, outsOf, Kd.isF, nameB]
  rename_i s hl _
  have hs : s.length ≤ sizeMax := by simp [sizeMax]; omega
  obtain ⟨ys, e1, e2⟩ := all_ex (it := itStr (eVar 0)) (e := eOp fInA (eVar 1) (eCon (.str abc))) (v := 1) (S := [some (.fz, .str s), none]) (ds := s.map fun c => .str [c]) signB rfl rfl (by simp) (by simpa using hs) (fun d hd => by
    obtain ⟨c, _, rfl⟩ := List.mem_map.mp hd
    exact ⟨.fz, by simp [inA, signB]⟩)
  rw [signs] at e2
  by_cases h1 : 1 ≤ s.length
  · by_cases h2 : s.length ≤ 8
    · have h1' : (1 : Int) ≤ s.length := by omega
      have h2' : (s.length : Int) ≤ 8 := by omega
      simp [fLen, hs, kz, fLe, chain2_ap, h1', h2', e1, e2, outsOf, Kd.isF, nameS, h1, h2]
    · have h1' : (1 : Int) ≤ s.length := by omega
      have h2' : ¬ (s.length : Int) ≤ 8 := by omega
      simp [fLen, hs, kz, fLe, chain2_ap, h1', h2', outsOf, Kd.isF, nameS, h1, h2]
  · have h1' : ¬ (1 : Int) ≤ s.length := by omega
    simp [fLen, hs, kz, chain2_ap, h1', outsOf, Kd.isF, nameS, h1]
theorem name_14 (hb : b ≤ 1000) (h : good b n d) : runF 2 [] (mb_14 Γ) [(.fz, d)] = .ret (.fz, .bl (nameB d)) [] := by
  refine FnP.eq (runF_wp (by rfl) ?_)
  refine good_elim h ?_ ?_ ?_ ?_ ?_ ?_ <;> intros <;> simp [mb_14, ← abc_eq, fIsi, D.isTy, kz, outsOf, Kd.isF, nameB]
  rename_i s hl hc
  have hs : s.length ≤ sizeMax := by simp [sizeMax]; omega
  obtain ⟨ys, e1, e2, _⟩ := none_ex (it := itStr (eVar 0)) (c := eBool (eOp fNotInA (eVar 1) (eCon (.str abc)))) (v := 1) (S := [some (.fz, .str s), none]) (ds := s.map fun c => .str [c]) signB rfl rfl (by simp) (by simpa using hs) (fun d hd => by
    obtain ⟨c, _, rfl⟩ := List.mem_map.mp hd
    simp [notInA, signB]) (fun d hd => by
    obtain ⟨c, hm, rfl⟩ := List.mem_map.mp hd
    simp [D.lay, hc c hm])
  rw [signs] at e2
  by_cases h1 : 1 ≤ s.length
  · by_cases h2 : s.length ≤ 8
    · have h1' : ¬ (s.length : Int) < 1 := by omega
      have h2' : ¬ (8 : Int) < s.length := by omega
      simp [fLen, hs, kz, fLt, fGt, h1', h2', e1, e2, fLst_nil, outsOf, Kd.isF, nameS, h1, h2]
    · have h1' : ¬ (s.length : Int) < 1 := by omega
      have h2' : (8 : Int) < s.length := by omega
      simp [fLen, hs, kz, fLt, fGt, h1', h2', outsOf, Kd.isF, nameS, h1, h2]
  · have h1' : (s.length : Int) < 1 := by omega
    simp [fLen, hs, kz, fLt, h1', outsOf, Kd.isF, nameS, h1]
theorem fIx_tup {xs : List D} {k : Int} (h0 : 0 ≤ k) (h1 : k < xs.length) : fIx (.tup xs) (.int k) = some (.fz, xs.getD k.toNat .non) := by
  have hn : k.toNat < xs.length := by omega
  show ((normIx xs.length k).bind fun n => xs[n]?.bind kz) = _
  rw [normIx_nat h0 h1]
  simp [hn, kz, List.getD_eq_getElem?_getD]
theorem like_lt {xs : List D} (h : like xs) {i j : Nat} (hi : i < xs.length) (hj : j < xs.length) : fLt (xs.getD i .non) (xs.getD j .non) = some (.fz, .bl (ltB (xs.getD i .non) (xs.getD j .non))) ∧ fGe (xs.getD i .non) (xs.getD j .non) = some (.fz, .bl (!ltB (xs.getD i .non) (xs.getD j .non))) := by
  have gi : xs.getD i .non = xs[i] := by simp [List.getD_eq_getElem?_getD, hi]
  have gj : xs.getD j .non = xs[j] := by simp [List.getD_eq_getElem?_getD, hj]
  rw [gi, gj]
  rcases h with h | h
  · obtain ⟨a, ea⟩ := h _ (List.getElem_mem hi)
    obtain ⟨c, ec⟩ := h _ (List.getElem_mem hj)
    rw [ea, ec]
    refine ⟨rfl, ?_⟩
    show kz (.bl (decide (c ≤ a))) = some (.fz, .bl (!decide (a < c)))
    rw [← decide_not, decide_eq_decide.mpr Int.not_lt]; rfl
  · obtain ⟨a, ea⟩ := h _ (List.getElem_mem hi)
    obtain ⟨c, ec⟩ := h _ (List.getElem_mem hj)
    rw [ea, ec]
    exact ⟨rfl, rfl⟩
theorem lim1 : 1 < limN := by decide
theorem mem_rangeL {lo : Int} {n : Nat} {d : D} (h : d ∈ rangeL lo n) : ∃ i : Nat, i < n ∧ d = .int (lo + i) := by
  unfold rangeL at h
  obtain ⟨i, hi, rfl⟩ := List.mem_map.mp h
  exact ⟨i, List.mem_range.mp hi, rfl⟩
theorem rangeL_length (lo : Int) (n : Nat) : (rangeL lo n).length = n := by simp [rangeL]
theorem rise_2 {xs : List D} (h : like xs) (hl : xs.length ≤ 1000) : runF 2 [] (mb_2 Γ) [(.fz, .tup xs)] = .ret (.fz, .bl (riseB xs)) [] := by
  refine FnP.eq (runF_wp (by rfl) ?_)
  have hm : xs.length < limN := by unfold limN; omega
  have hn : ((xs.length : Int) - 1).toNat = xs.length - 1 := by omega
  obtain ⟨ys, e1, e2⟩ := all_ex (it := itRange2 (eCon (.int 1)) (eApp fLen [(eVar 0)])) (e := eOp fLt (eOp fIx (eVar 0) (eOp fSub (eVar 1) (eCon (.int 1)))) (eOp fIx (eVar 0) (eVar 1))) (v := 1) (S := [some (.fz, .tup xs), none]) (ds := rangeL 1 (xs.length - 1)) (riseAt xs)
    (by simp [fLen, kz, hm, hn, lim1]) rfl (by simp) (by rw [rangeL_length]; show _ ≤ 16777216; omega) (fun d hd => by
    obtain ⟨i, hi, rfl⟩ := mem_rangeL hd
    have a1 := fIx_tup (xs := xs) (k := 1 + (i : Int) - 1) (by omega) (by omega)
    have a2 := fIx_tup (xs := xs) (k := 1 + (i : Int)) (by omega) (by omega)
    have a3 := (like_lt h (i := (1 + (i : Int) - 1).toNat) (j := (1 + (i : Int)).toNat) (by omega) (by omega)).1
    refine ⟨.fz, ?_⟩
    rw [show riseAt xs (.int (1 + (i : Int))) = ltB (xs.getD (1 + (i : Int) - 1).toNat .non) (xs.getD (1 + (i : Int)).toNat .non) from rfl]
    generalize xs.getD (1 + (i : Int) - 1).toNat .non = x at a1 a3
    generalize xs.getD (1 + (i : Int)).toNat .non = y at a2 a3
    simp [fSub, kz, a1, a2, a3])
  simp [mb_2, e1, e2, outsOf, Kd.isF, riseB]
theorem rise_15 {xs : List D} {few many : Int} (h : few ≤ xs.length → (xs.length : Int) ≤ many → like xs) (hl : xs.length ≤ 1000) : runF 4 [] (mb_15 Γ) [(.fz, .tup xs), (.fz, .int few), (.fz, .int many)] = .ret (.fz, .bl (decide (few ≤ xs.length) && decide ((xs.length : Int) ≤ many) && riseB xs)) [] := by
  refine FnP.eq (runF_wp (by rfl) ?_)
  by_cases h1 : few ≤ xs.length
  · have h1' : ¬ (xs.length : Int) < few := by omega
    by_cases h2 : (xs.length : Int) ≤ many
    · have h2' : ¬ many < (xs.length : Int) := by omega
      have h := h h1 h2
      have hm : xs.length < limN := by unfold limN; omega
      have hn : ((xs.length : Int) - 1).toNat = xs.length - 1 := by omega
      obtain ⟨ys, e1, e2, _⟩ := none_ex (it := itRange2 (eCon (.int 1)) (eApp fLen [(eVar 0)])) (c := eBool (eOp fGe (eOp fIx (eVar 0) (eOp fSub (eVar 3) (eCon (.int 1)))) (eOp fIx (eVar 0) (eVar 3)))) (v := 3) (S := [some (.fz, .tup xs), some (.fz, .int few), some (.fz, .int many), none]) (ds := rangeL 1 (xs.length - 1)) (riseAt xs)
        (by simp [fLen, kz, hm, hn, lim1]) rfl (by simp) (by rw [rangeL_length]; show _ ≤ 16777216; omega) (fun d hd => by
        obtain ⟨i, hi, rfl⟩ := mem_rangeL hd
        have a1 := fIx_tup (xs := xs) (k := 1 + (i : Int) - 1) (by omega) (by omega)
        have a2 := fIx_tup (xs := xs) (k := 1 + (i : Int)) (by omega) (by omega)
        have a3 := (like_lt h (i := (1 + (i : Int) - 1).toNat) (j := (1 + (i : Int)).toNat) (by omega) (by omega)).2
        rw [show riseAt xs (.int (1 + (i : Int))) = ltB (xs.getD (1 + (i : Int) - 1).toNat .non) (xs.getD (1 + (i : Int)).toNat .non) from rfl]
        generalize xs.getD (1 + (i : Int) - 1).toNat .non = x at a1 a3
        generalize xs.getD (1 + (i : Int)).toNat .non = y at a2 a3
        simp [fSub, kz, a1, a2, a3]) (fun d hd => by
        obtain ⟨i, hi, rfl⟩ := mem_rangeL hd
        rfl)
      simp [mb_15, fIsi, D.isTy, fLen, kz, fLt, fGt, h1, h2, h1', h2', e1, e2, fLst_nil, outsOf, Kd.isF, riseB]
    · have h2' : many < (xs.length : Int) := by omega
      simp [mb_15, fIsi, D.isTy, fLen, kz, fLt, fGt, h1, h2, h1', h2', outsOf, Kd.isF]
  · have h1' : (xs.length : Int) < few := by omega
    simp [mb_15, fIsi, D.isTy, fLen, kz, fLt, fGt, h1, h1', outsOf, Kd.isF]
theorem like_names {xs : List D} (h : xs.all nameB = true) : like xs := .inr fun x hx => by
  have := List.all_eq_true.mp h x hx
  cases x <;> simp [nameB] at this
  exact ⟨_, rfl⟩
theorem names_3 {few many : Int} (h1 : ∀ d n, good b n d → Γ 1 [(.fz, d)] = .ret (.fz, .bl (nameB d)) []) (h2 : ∀ xs : List D, like xs → xs.length ≤ 1000 → Γ 2 [(.fz, .tup xs)] = .ret (.fz, .bl (riseB xs)) []) (hb : b ≤ 1000) (h : good b n d) :
    runF 4 [] (mb_3 Γ) [(.fz, d), (.fz, .int few), (.fz, .int many)] = .ret (.fz, .bl (namesB d few many)) [] := by
  refine FnP.eq (runF_wp (by rfl) ?_)
  refine good_elim h ?_ ?_ ?_ ?_ ?_ ?_ <;> intros <;> simp [mb_3, fIsi, D.isTy, kz, outsOf, Kd.isF, namesB]
  rename_i xs n' _ hl hx
  obtain ⟨ys, e1, e2⟩ := all_ex (it := itSeq (eVar 0)) (e := eCall (Γ 1) [.v (eVar 3)]) (v := 3) (S := [some (.fz, .tup xs), some (.fz, .int few), some (.fz, .int many), none]) (ds := xs) nameB rfl rfl (by simp) (by simp [sizeMax]; omega) (fun d hd => ⟨.fz, by simp [eCall_ap, arEv_v, arEv_nil, arIn, arOut, h1 d n' (hx d hd)]⟩)
  by_cases q1 : few ≤ xs.length
  · by_cases q2 : (xs.length : Int) ≤ many
    · cases q3 : xs.all nameB with
      | false => 
        rw [q3] at e2
        simp [fLen, kz, fLe, chain2_ap, q1, q2, e1, e2, outsOf, Kd.isF]
      | true =>
        rw [q3] at e2
        simp [fLen, kz, fLe, chain2_ap, q1, q2, e1, e2, outsOf, Kd.isF, eCall_ap, arEv_v, arEv_nil, arIn, arOut, h2 xs (like_names q3) (by omega)]
    · simp [fLen, kz, fLe, chain2_ap, q1, q2, outsOf, Kd.isF]
  · simp [fLen, kz, fLe, chain2_ap, q1, outsOf, Kd.isF]
end
end LW

/-! k01: what is a rule, a book: both sides say the same -/
namespace LW
open TB
def tLet : List Nat := [108, 101, 116]
def tBar : List Nat := [98, 97, 114]
def wordB (d : D) : Bool := match d with
  | .str w => decide (w = tLet) || decide (w = tBar)
  | _ => false
def daysB (d : D) : Bool := match d with
  | .tup ds => ds.all (fun d => withinB d 0 6) && riseB ds
  | _ => false
def hiB (g f : D) : Bool := match f with
  | .int l => withinB g l 1000000
  | _ => false
def rule6 (a c e f g h : D) : Bool := wordB a && (namesB c 0 2 && (namesB e 0 2 && (daysB f && (withinB g 1 1000000 && hiB h g))))
def ruleB (d : D) : Bool := match d with
  | .tup [a, c, e, f, g, h] => rule6 a c e f g h
  | _ => false
def bookB (d : D) : Bool := match d with
  | .tup xs => decide (xs.length ≤ 6) && xs.all ruleB
  | _ => false
theorem fNe_int (i j : Int) : fNe (.int i) (.int j) = some (.fz, .bl (!decide (i = j))) := by
  have : D.eqv (.int i) (.int j) = decide (i = j) := by show (i == j) = _; rw [Bool.eq_iff_iff]; simp
  unfold fNe
  rw [if_pos (by rfl), this]; rfl
theorem fEq_int (i j : Int) : fEq (.int i) (.int j) = some (.fz, .bl (decide (i = j))) := by
  have : D.eqv (.int i) (.int j) = decide (i = j) := by show (i == j) = _; rw [Bool.eq_iff_iff]; simp
  unfold fEq
  rw [if_pos (by rfl), this]; rfl
theorem fNe_bl (i j : Bool) : fNe (.bl i) (.bl j) = some (.fz, .bl (!(i == j))) := rfl
theorem str_or {b n : Nat} {d : D} (h : good b n d) : (∃ s, d = .str s) ∨ (fIsi .str d = some (.fz, .bl false) ∧ wordB d = false) := by
  refine good_elim h ?_ ?_ ?_ ?_ ?_ ?_ <;> intros <;> first | exact .inr ⟨rfl, rfl⟩ | exact .inl ⟨_, rfl⟩
theorem tup_or {b n : Nat} {d : D} (h : good b n d) : (∃ xs n', d = .tup xs ∧ n = n' + 1 ∧ xs.length ≤ b ∧ ∀ x ∈ xs, good b n' x) ∨ (fIsi .tuple d = some (.fz, .bl false) ∧ daysB d = false ∧ ruleB d = false ∧ bookB d = false ∧ ∀ few many, namesB d few many = false) := by
  refine good_elim h ?_ ?_ ?_ ?_ ?_ ?_ <;> intros <;> first | exact .inr ⟨rfl, rfl, rfl, rfl, fun _ _ => rfl⟩ | skip
  exact .inl ⟨_, _, rfl, by assumption, by assumption, by assumption⟩
theorem word_notin (w : List Nat) : fNotInA (.str w) (.tup [.str tLet, .str tBar]) = some (.fz, .bl (!wordB (.str w))) := by
  have h1 : D.eqv (.str tLet) (.str w) = decide (w = tLet) := by show (tLet == w) = _; rw [Bool.eq_iff_iff, beq_iff_eq, decide_eq_true_iff]; exact eq_comm
  have h2 : D.eqv (.str tBar) (.str w) = decide (w = tBar) := by show (tBar == w) = _; rw [Bool.eq_iff_iff, beq_iff_eq, decide_eq_true_iff]; exact eq_comm
  have : fNotIn (.str w) (.tup [.str tLet, .str tBar]) = some (.fz, .bl (!wordB (.str w))) := by
    show (if ((D.str w).flat && [D.str tLet, D.str tBar].all D.flat) = true then kz (.bl (![D.str tLet, D.str tBar].any fun y => D.eqv y (.str w))) else none) = _
    rw [if_pos (by rfl)]
    show kz (.bl (!(D.eqv (.str tLet) (.str w) || (D.eqv (.str tBar) (.str w) || false)))) = _
    rw [h1, h2, Bool.or_false]; rfl
  unfold fNotInA fOr
  rw [this]
theorem within_int {d : D} {lo hi : Int} (h : withinB d lo hi = true) : ∃ i, d = .int i := by
  cases d <;> simp [withinB] at h
  exact ⟨_, rfl⟩
theorem like_days {ds : List D} (h : ds.all (fun d => withinB d 0 6) = true) : like ds := .inl fun x hx => within_int (List.all_eq_true.mp h x hx)
section
variable {Γ : Nat → Fn} {b n : Nat} {d : D}
theorem six {xs : List D} (h : xs.length = 6) : ∃ a c e f g k, xs = [a, c, e, f, g, k] := by
  match xs, h with
  | [a, c, e, f, g, k], _ => exact ⟨a, c, e, f, g, k, rfl⟩
theorem not_six {xs : List D} (h : xs.length ≠ 6) : ruleB (.tup xs) = false := by
  unfold ruleB
  split
  · rename_i e; cases e; simp at h
  · rfl
theorem fLst1 (ds : List D) (h : ds.length ≤ sizeMax) : fTup ds = some (.fz, .tup ds) := by unfold fTup; rw [if_pos h]
theorem rule_4 (h0 : ∀ d n lo hi, good b n d → Γ 0 [(.fz, d), (.fz, .int lo), (.fz, .int hi)] = .ret (.fz, .bl (withinB d lo hi)) []) (h2 : ∀ xs : List D, like xs → xs.length ≤ 1000 → Γ 2 [(.fz, .tup xs)] = .ret (.fz, .bl (riseB xs)) [])
    (h3 : ∀ d n few many, good b n d → Γ 3 [(.fz, d), (.fz, .int few), (.fz, .int many)] = .ret (.fz, .bl (namesB d few many)) []) (hb : b ≤ 1000) (h : good b n d) : runF 8 [] (mb_4 Γ) [(.fz, d)] = .ret (.fz, .bl (ruleB d)) [] := by
  refine FnP.eq (runF_wp (by rfl) ?_)
  rcases tup_or h with ⟨xs, n', rfl, _, hl, hx⟩ | ⟨s1, _, s2, _⟩
  case inr => simp [mb_4, s1, s2, outsOf, Kd.isF]
  have isx : fIsi .tuple (.tup xs) = some (.fz, .bl true) := rfl
  by_cases h6 : xs.length = 6
  case neg =>
    have := not_six h6
    have h6' : ¬ (xs.length : Int) = 6 := by omega
    simp [mb_4, isx, fLen, kz, fNe_int, h6', outsOf, Kd.isF, this]
  obtain ⟨a, c, e, f, g, k, rfl⟩ := six h6
  have ga := hx a (by simp)
  have gc := hx c (by simp)
  have ge := hx e (by simp)
  have gf := hx f (by simp)
  have gg := hx g (by simp)
  have gk := hx k (by simp)
  have rb : ruleB (.tup [a, c, e, f, g, k]) = rule6 a c e f g k := rfl
  have ix0 : fIx (.tup [a, c, e, f, g, k]) (.int 0) = some (.fz, a) := rfl
  rcases str_or ga with ⟨w, rfl⟩ | ⟨s1, s2⟩
  case inr => simp [mb_4, isx, rb, fLen, kz, fNe_int, ix0, s1, outsOf, Kd.isF, rule6, s2]
  have isw : fIsi .str (.str w) = some (.fz, .bl true) := rfl
  have hT : fTup [.str [108, 101, 116], .str [98, 97, 114]] = some (.fz, .tup [.str tLet, .str tBar]) := rfl
  have c0 := h0
  have gw := word_notin w
  cases q1 : wordB (.str w) with
  | false =>
    rw [q1] at gw
    simp [mb_4, isx, rb, fLen, kz, fNe_int, ix0, isw, outsOf, Kd.isF, rule6, q1, Tg.put, Tg.puts, hT, gw]
  | true =>
  rw [q1] at gw
  have e3 := h3 c n' 0 2 gc
  cases q2 : namesB c 0 2 with
  | false =>
    rw [q2] at e3
    simp [mb_4, isx, rb, fLen, kz, fNe_int, ix0, isw, outsOf, Kd.isF, rule6, q1, q2, Tg.put, Tg.puts, hT, gw, eCall_ap, arEv_v, arEv_nil, arIn, arOut, e3]
  | true =>
  rw [q2] at e3
  have e4 := h3 e n' 0 2 ge
  cases q3 : namesB e 0 2 with
  | false =>
    rw [q3] at e4
    simp [mb_4, isx, rb, fLen, kz, fNe_int, ix0, isw, outsOf, Kd.isF, rule6, q1, q2, q3, Tg.put, Tg.puts, hT, gw, eCall_ap, arEv_v, arEv_nil, arIn, arOut, e3, e4]
  | true =>
  rw [q3] at e4
  rcases tup_or gf with ⟨ds, m, rfl, hm, hdl, hdg⟩ | ⟨s1, s2, _⟩
  case inr => simp [mb_4, isx, rb, fLen, kz, fNe_int, ix0, isw, outsOf, Kd.isF, rule6, q1, q2, q3, Tg.put, Tg.puts, hT, gw, eCall_ap, arEv_v, arEv_nil, arIn, arOut, e3, e4, s1, s2]
  have ist : fIsi .tuple (.tup ds) = some (.fz, .bl true) := rfl
  obtain ⟨ys, y1, y2⟩ := all_ex (it := itSeq (eVar 4)) (e := eCall (Γ 0) [.v (eVar 7), .v (eCon (.int 0)), .v (eCon (.int 6))]) (v := 7) (S := [some (.fz, .tup [.str w, c, e, .tup ds, g, k]), some (.fz, .str w), some (.fz, c), some (.fz, e), some (.fz, .tup ds), some (.fz, g), some (.fz, k), none]) (ds := ds) (fun d => withinB d 0 6) rfl rfl (by simp) (by show _ ≤ 16777216; omega) (fun d hd => ⟨.fz, by simp [eCall_ap, arEv_v, arEv_nil, arIn, arOut, h0 d m 0 6 (hdg d hd)]⟩)
  cases q4 : ds.all (fun d => withinB d 0 6) with
  | false =>
    rw [q4] at y2
    simp [mb_4, isx, rb, fLen, kz, fNe_int, ix0, isw, ist, outsOf, Kd.isF, rule6, q1, q2, q3, Tg.put, Tg.puts, hT, gw, eCall_ap, arEv_v, arEv_nil, arIn, arOut, e3, e4, y1, y2, daysB, q4]
  | true =>
  rw [q4] at y2
  have e5 := h2 ds (like_days q4) (by omega)
  cases q5 : riseB ds with
  | false =>
    rw [q5] at e5
    simp [mb_4, isx, rb, fLen, kz, fNe_int, ix0, isw, ist, outsOf, Kd.isF, rule6, q1, q2, q3, Tg.put, Tg.puts, hT, gw, eCall_ap, arEv_v, arEv_nil, arIn, arOut, e3, e4, y1, y2, daysB, q4, e5, q5]
  | true =>
  rw [q5] at e5
  have e6 := h0 g n' 1 1000000 gg
  cases q6 : withinB g 1 1000000 with
  | false =>
    rw [q6] at e6
    simp [mb_4, isx, rb, fLen, kz, fNe_int, ix0, isw, ist, outsOf, Kd.isF, rule6, q1, q2, q3, Tg.put, Tg.puts, hT, gw, eCall_ap, arEv_v, arEv_nil, arIn, arOut, e3, e4, y1, y2, daysB, q4, e5, q5, e6, q6]
  | true =>
  rw [q6] at e6
  obtain ⟨lo, rfl⟩ := within_int q6
  have e7 := h0 k n' lo 1000000 gk
  simp [mb_4, isx, rb, fLen, kz, fNe_int, ix0, isw, ist, outsOf, Kd.isF, rule6, q1, q2, q3, Tg.put, Tg.puts, hT, gw, eCall_ap, arEv_v, arEv_nil, arIn, arOut, e3, e4, y1, y2, daysB, q4, e5, q5, e6, q6, e7, hiB]
end
end LW

/-! k01: the law's own look; books -/
namespace LW
open TB
theorem rise_len {ds : List D} (h1 : ds.all (fun d => withinB d 0 6) = true) (h2 : riseB ds = true) : ds.length ≤ 7 := by
  have key : ∀ i (hi : i < ds.length), ∃ z : Int, ds[i] = .int z ∧ (i : Int) ≤ z := by
    intro i
    induction i with
    | zero =>
      intro hi
      have w := List.all_eq_true.mp h1 _ (List.getElem_mem hi)
      obtain ⟨z, e⟩ := within_int w
      rw [e] at w
      simp [withinB] at w
      exact ⟨z, e, by omega⟩
    | succ i ih =>
      intro hi
      obtain ⟨z, e, hz⟩ := ih (by omega)
      have w := List.all_eq_true.mp h1 _ (List.getElem_mem hi)
      obtain ⟨y, e2⟩ := within_int w
      refine ⟨y, e2, ?_⟩
      have r := List.all_eq_true.mp h2 (.int (1 + (i : Int))) (by
        unfold rangeL
        exact List.mem_map.mpr ⟨i, List.mem_range.mpr (by omega), rfl⟩)
      have r : ltB (ds.getD (1 + (i : Int) - 1).toNat .non) (ds.getD (1 + (i : Int)).toNat .non) = true := r
      rw [show (1 + (i : Int) - 1).toNat = i by omega, show (1 + (i : Int)).toNat = i + 1 by omega] at r
      have g1 : ds.getD i .non = .int z := by simp [List.getD_eq_getElem?_getD, show i < ds.length by omega, e]
      have g2 : ds.getD (i + 1) .non = .int y := by simp [List.getD_eq_getElem?_getD, hi, e2]
      rw [g1, g2] at r
      have r : z < y := by simpa [ltB] using r
      omega
  by_cases h : ds.length ≤ 7
  · exact h
  · obtain ⟨z, e, hz⟩ := key 7 (by omega)
    have w := List.all_eq_true.mp h1 _ (List.getElem_mem (show 7 < ds.length by omega))
    rw [e] at w
    simp [withinB] at w
    omega
section
variable {Γ : Nat → Fn} {b n : Nat} {d : D}
theorem names_16 {few many : Int} (h14 : ∀ d n, good b n d → Γ 14 [(.fz, d)] = .ret (.fz, .bl (nameB d)) [])
    (h15 : ∀ (xs : List D) (few many : Int), (few ≤ xs.length → (xs.length : Int) ≤ many → like xs) → xs.length ≤ 1000 → Γ 15 [(.fz, .tup xs), (.fz, .int few), (.fz, .int many)] = .ret (.fz, .bl (decide (few ≤ xs.length) && decide ((xs.length : Int) ≤ many) && riseB xs)) [])
    (hb : b ≤ 1000) (hn : n ≤ 50) (h : good b n d) : runF 4 [] (mb_16 Γ) [(.fz, d), (.fz, .int few), (.fz, .int many)] = .ret (.fz, .bl (namesB d few many)) [] := by
  refine FnP.eq (runF_wp (by rfl) ?_)
  rcases tup_or h with ⟨xs, n', rfl, _, hl, hx⟩ | ⟨s1, _, _, _, s2⟩
  case inr => simp [mb_16, s1, s2, outsOf, Kd.isF]
  have isx : fIsi .tuple (.tup xs) = some (.fz, .bl true) := rfl
  obtain ⟨ys, e1, _, e2⟩ := none_ex (it := itSeq (eVar 0)) (c := tNot (eBool (eCall (Γ 14) [.v (eVar 3)]))) (v := 3) (S := [some (.fz, .tup xs), some (.fz, .int few), some (.fz, .int many), none]) (ds := xs) nameB rfl rfl (by simp) (by show _ ≤ 16777216; omega)
    (fun d hd => by simp [eCall_ap, arEv_v, arEv_nil, arIn, arOut, h14 d n' (hx d hd)]) (fun d hd => lay_mono (by omega) (good_lay (hx d hd)))
  cases q3 : xs.all nameB with
  | false =>
    rw [q3] at e2
    simp [mb_16, isx, e1, e2, fLst_nil, outsOf, Kd.isF, namesB, q3]
  | true =>
    rw [q3] at e2
    simp [mb_16, isx, e1, e2, fLst_nil, outsOf, Kd.isF, namesB, q3, eCall_ap, arEv_v, arEv_nil, arIn, arOut, h15 xs few many (fun _ _ => like_names q3) (by omega)]
theorem rule_18 (h17 : ∀ d n lo hi, good b n d → Γ 17 [(.fz, d), (.fz, .int lo), (.fz, .int hi)] = .ret (.fz, .bl (withinB d lo hi)) [])
    (h15 : ∀ (xs : List D) (few many : Int), (few ≤ xs.length → (xs.length : Int) ≤ many → like xs) → xs.length ≤ 1000 → Γ 15 [(.fz, .tup xs), (.fz, .int few), (.fz, .int many)] = .ret (.fz, .bl (decide (few ≤ xs.length) && decide ((xs.length : Int) ≤ many) && riseB xs)) [])
    (h16 : ∀ d n few many, n ≤ 50 → good b n d → Γ 16 [(.fz, d), (.fz, .int few), (.fz, .int many)] = .ret (.fz, .bl (namesB d few many)) []) (hb : b ≤ 1000) (hn : n ≤ 50) (h : good b n d) : runF 2 [] (mb_18 Γ) [(.fz, d)] = .ret (.fz, .bl (ruleB d)) [] := by
  refine FnP.eq (runF_wp (by rfl) ?_)
  rcases tup_or h with ⟨xs, n', rfl, _, hl, hx⟩ | ⟨s1, _, s2, _⟩
  case inr => simp [mb_18, s1, s2, outsOf, Kd.isF]
  have isx : fIsi .tuple (.tup xs) = some (.fz, .bl true) := rfl
  by_cases h6 : xs.length = 6
  case neg =>
    have := not_six h6
    have h6' : ¬ (xs.length : Int) = 6 := by omega
    simp [mb_18, isx, fLen, kz, fNe_int, h6', outsOf, Kd.isF, this]
  obtain ⟨a, c, e, f, g, k, rfl⟩ := six h6
  have ga := hx a (by simp)
  have gc := hx c (by simp)
  have ge := hx e (by simp)
  have gf := hx f (by simp)
  have gg := hx g (by simp)
  have gk := hx k (by simp)
  have rb : ruleB (.tup [a, c, e, f, g, k]) = rule6 a c e f g k := rfl
  have ix0 : fIx (.tup [a, c, e, f, g, k]) (.int 0) = some (.fz, a) := rfl
  have ix1 : fIx (.tup [a, c, e, f, g, k]) (.int 1) = some (.fz, c) := rfl
  have ix2 : fIx (.tup [a, c, e, f, g, k]) (.int 2) = some (.fz, e) := rfl
  have ix3 : fIx (.tup [a, c, e, f, g, k]) (.int 3) = some (.fz, f) := rfl
  have ix4 : fIx (.tup [a, c, e, f, g, k]) (.int 4) = some (.fz, g) := rfl
  have ix5 : fIx (.tup [a, c, e, f, g, k]) (.int 5) = some (.fz, k) := rfl
  have hT : fTup [.str [108, 101, 116], .str [98, 97, 114]] = some (.fz, .tup [.str tLet, .str tBar]) := rfl
  have hP : fPow (.int 10) (.int 6) = some (.fz, .int 1000000) := rfl
  rcases str_or ga with ⟨w, rfl⟩ | ⟨s1, s2⟩
  case inr => simp [mb_18, isx, rb, fLen, kz, fNe_int, ix0, s1, outsOf, Kd.isF, rule6, s2]
  have isw : fIsi .str (.str w) = some (.fz, .bl true) := rfl
  have gw := word_notin w
  cases q1 : wordB (.str w) with
  | false =>
    rw [q1] at gw
    simp [mb_18, isx, rb, fLen, kz, fNe_int, ix0, isw, outsOf, Kd.isF, rule6, q1, hT, gw]
  | true =>
  rw [q1] at gw
  have e3 := h16 c n' 0 2 (by omega) gc
  cases q2 : namesB c 0 2 with
  | false =>
    rw [q2] at e3
    simp [mb_18, isx, rb, fLen, kz, fNe_int, ix0, ix1, isw, outsOf, Kd.isF, rule6, q1, q2, hT, gw, eCall_ap, arEv_v, arEv_nil, arIn, arOut, e3]
  | true =>
  rw [q2] at e3
  have e4 := h16 e n' 0 2 (by omega) ge
  cases q3 : namesB e 0 2 with
  | false =>
    rw [q3] at e4
    simp [mb_18, isx, rb, fLen, kz, fNe_int, ix0, ix1, ix2, isw, outsOf, Kd.isF, rule6, q1, q2, q3, hT, gw, eCall_ap, arEv_v, arEv_nil, arIn, arOut, e3, e4]
  | true =>
  rw [q3] at e4
  rcases tup_or gf with ⟨ds, m, rfl, hm, hdl, hdg⟩ | ⟨s1, s2, _⟩
  case inr => simp [mb_18, isx, rb, fLen, kz, fNe_int, ix0, ix1, ix2, ix3, isw, outsOf, Kd.isF, rule6, q1, q2, q3, hT, gw, eCall_ap, arEv_v, arEv_nil, arIn, arOut, e3, e4, s1, s2]
  have ist : fIsi .tuple (.tup ds) = some (.fz, .bl true) := rfl
  obtain ⟨ys, y1, _, y2⟩ := none_ex (it := itSeq (eOp fIx (eVar 0) (eCon (.int 3)))) (c := tNot (eBool (eCall (Γ 17) [.v (eVar 1), .v (eCon (.int 0)), .v (eCon (.int 6))]))) (v := 1) (S := [some (.fz, .tup [.str w, c, e, .tup ds, g, k]), none]) (ds := ds) (fun d => withinB d 0 6) (by simp [ix3, itemsOf]) rfl (by simp) (by show _ ≤ 16777216; omega) (fun d hd => by simp [eCall_ap, arEv_v, arEv_nil, arIn, arOut, h17 d m 0 6 (hdg d hd)]) (fun d hd => lay_mono (by omega) (good_lay (hdg d hd)))
  cases q4 : ds.all (fun d => withinB d 0 6) with
  | false =>
    rw [q4] at y2
    simp [mb_18, isx, rb, fLen, kz, fNe_int, ix0, ix1, ix2, ix3, isw, ist, outsOf, Kd.isF, rule6, q1, q2, q3, hT, gw, eCall_ap, arEv_v, arEv_nil, arIn, arOut, e3, e4, y1, y2, fLst_nil, daysB, q4]
  | true =>
  rw [q4] at y2
  have e5 := h15 ds 0 7 (fun _ _ => like_days q4) (by omega)
  cases q5 : riseB ds with
  | false =>
    rw [q5] at e5
    simp [mb_18, isx, rb, fLen, kz, fNe_int, ix0, ix1, ix2, ix3, isw, ist, outsOf, Kd.isF, rule6, q1, q2, q3, hT, gw, eCall_ap, arEv_v, arEv_nil, arIn, arOut, e3, e4, y1, y2, fLst_nil, daysB, q4, e5, q5]
  | true =>
  have l7 := rise_len q4 q5
  have l7' : (ds.length : Int) ≤ 7 := by omega
  rw [q5] at e5
  simp [l7'] at e5
  have e6 := h17 g n' 1 1000000 gg
  cases q6 : withinB g 1 1000000 with
  | false =>
    rw [q6] at e6
    simp [mb_18, isx, rb, fLen, kz, fNe_int, ix0, ix1, ix2, ix3, ix4, isw, ist, outsOf, Kd.isF, rule6, q1, q2, q3, hT, hP, gw, eCall_ap, arEv_v, arEv_nil, arIn, arOut, e3, e4, y1, y2, fLst_nil, daysB, q4, e5, q5, e6, q6]
  | true =>
  rw [q6] at e6
  obtain ⟨lo, rfl⟩ := within_int q6
  have e7 := h17 k n' lo 1000000 gk
  simp [mb_18, isx, rb, fLen, kz, fNe_int, ix0, ix1, ix2, ix3, ix4, ix5, isw, ist, outsOf, Kd.isF, rule6, q1, q2, q3, hT, hP, gw, eCall_ap, arEv_v, arEv_nil, arIn, arOut, e3, e4, y1, y2, fLst_nil, daysB, q4, e5, q5, e6, q6, e7, hiB]
theorem book_5 (h4 : ∀ d n, good b n d → Γ 4 [(.fz, d)] = .ret (.fz, .bl (ruleB d)) []) (hb : b ≤ 1000) (h : good b n d) : runF 2 [] (mb_5 Γ) [(.fz, d)] = .ret (.fz, .bl (bookB d)) [] := by
  refine FnP.eq (runF_wp (by rfl) ?_)
  rcases tup_or h with ⟨xs, n', rfl, _, hl, hx⟩ | ⟨s1, _, _, s2, _⟩
  case inr => simp [mb_5, s1, s2, outsOf, Kd.isF]
  have isx : fIsi .tuple (.tup xs) = some (.fz, .bl true) := rfl
  obtain ⟨ys, y1, y2⟩ := all_ex (it := itSeq (eVar 0)) (e := eCall (Γ 4) [.v (eVar 1)]) (v := 1) (S := [some (.fz, .tup xs), none]) (ds := xs) ruleB rfl rfl (by simp) (by show _ ≤ 16777216; omega) (fun d hd => ⟨.fz, by simp [eCall_ap, arEv_v, arEv_nil, arIn, arOut, h4 d n' (hx d hd)]⟩)
  by_cases h6 : xs.length ≤ 6
  · have h6' : (xs.length : Int) ≤ 6 := by omega
    simp [mb_5, isx, fLen, kz, fLe, h6', y1, y2, outsOf, Kd.isF, bookB, h6]
  · have h6' : ¬ (xs.length : Int) ≤ 6 := by omega
    simp [mb_5, isx, fLen, kz, fLe, h6', outsOf, Kd.isF, bookB, h6]
theorem book_19 (h18 : ∀ d n, n ≤ 50 → good b n d → Γ 18 [(.fz, d)] = .ret (.fz, .bl (ruleB d)) []) (hb : b ≤ 1000) (hn : n ≤ 50) (h : good b n d) : runF 2 [] (mb_19 Γ) [(.fz, d)] = .ret (.fz, .bl (bookB d)) [] := by
  refine FnP.eq (runF_wp (by rfl) ?_)
  rcases tup_or h with ⟨xs, n', rfl, _, hl, hx⟩ | ⟨s1, _, _, s2, _⟩
  case inr => simp [mb_19, s1, s2, outsOf, Kd.isF]
  have isx : fIsi .tuple (.tup xs) = some (.fz, .bl true) := rfl
  obtain ⟨ys, y1, y2, _⟩ := none_ex (it := itSeq (eVar 0)) (c := tNot (eBool (eCall (Γ 18) [.v (eVar 1)]))) (v := 1) (S := [some (.fz, .tup xs), none]) (ds := xs) ruleB rfl rfl (by simp) (by show _ ≤ 16777216; omega) (fun d hd => by simp [eCall_ap, arEv_v, arEv_nil, arIn, arOut, h18 d n' (by omega) (hx d hd)]) (fun d hd => lay_mono (by omega) (good_lay (hx d hd)))
  by_cases h6 : xs.length ≤ 6
  · have h6' : ¬ (6 : Int) < xs.length := by omega
    simp [mb_19, isx, fLen, kz, fGt, h6', y1, y2, fLst_nil, outsOf, Kd.isF, bookB, h6]
  · have h6' : (6 : Int) < xs.length := by omega
    simp [mb_19, isx, fLen, kz, fGt, h6', outsOf, Kd.isF, bookB, h6]
end
end LW

/-! k01: what is drawn -/
namespace LW
open TB
section
variable {Γ : Nat → Fn} {n : Nat}
def someL : List D := [.int 0, .int 1, .int (-1), .int 6, .int 7, .bl true, .bl false, .non, .str [], .str [97], .str [97, 98], .str [65], .str [97, 98, 99, 100, 101, 102, 103, 104, 105], .str [108, 101, 116], .str [98, 111, 117, 103, 104, 116], .str [119, 114, 111, 110, 103], .str [103, 105, 118, 101, 110]]
def moreL : List D := [.int 1000000, .int 1000001, .tup [], .lst []]
theorem someL_good : ∀ x ∈ someL ++ moreL, good 9 (n + 1) x := by simp [someL, moreL, good]
theorem fLst_ok (ds : List D) (h : ds.length ≤ sizeMax) : fLst ds = some (.li .fz, .lst ds) := by unfold fLst; rw [if_pos h]
theorem some_sum : fAdd (.lst someL) (.lst moreL) = some (.li .fz, .lst (someL ++ moreL)) := rfl
theorem some_lst : fLst [.int 0, .int 1, .int (-1), .int 6, .int 7, .bl true, .bl false, .non, .str [], .str [97], .str [97, 98], .str [65], .str [97, 98, 99, 100, 101, 102, 103, 104, 105], .str [108, 101, 116], .str [98, 111, 117, 103, 104, 116], .str [119, 114, 111, 110, 103], .str [103, 105, 118, 101, 110]] = some (.li .fz, .lst someL) := rfl
theorem more_lst : fLst [.int 1000000, .int 1000001, .tup [], .lst []] = some (.li .fz, .lst moreL) := rfl
theorem neg_1 : fNeg (.int 1) = some (.fz, .int (-1)) := rfl
theorem pow_6 : fPow (.int 10) (.int 6) = some (.fz, .int 1000000) := rfl
theorem add_6 : fAdd (.int 1000000) (.int 1) = some (.fz, .int 1000001) := rfl
theorem tup_0 : fTup [] = some (.fz, .tup []) := rfl
theorem isF_fz : Kd.isF .fz = true := rfl
theorem thing_12 {kd : KD} {deep : Int} (hF : DrawOk (Γ 7)) (hd : DI kd) (d0 : 0 ≤ deep) (d1 : deep ≤ 10) (hT : deep ≠ 0 → ∀ kd, DI kd → FnP (Γ 12) [kd, (.fz, .int (deep - 1))] (ThingQ 9 n)) : FnP (runF 6 [0] (mb_12 Γ)) [kd, (.fz, .int deep)] (ThingQ 9 (n + 1)) := by
  refine runF_wp (by obtain ⟨a, b, rfl, _⟩ := hd; rfl) ?_
  unfold mb_12
  rw [sSeq_ap, okP_bind, sSet_ap, okP_bind]
  refine draw_wp hF rfl ?_
  simp [hd, -Prod.exists, -Prod.forall]
  intro way kd2 hd2 w0 w1
  by_cases hw1 : way < 6
  · simp [fLt, kz, hw1, neg_1, some_lst, pow_6, add_6, tup_0, fLst_nil, more_lst, some_sum, -Prod.exists, -Prod.forall]
    refine draw_wp hF rfl ?_
    simp [hd2, -Prod.exists, -Prod.forall]
    intro r kd3 hd3 r0 r1
    obtain ⟨x, hx, e⟩ := fIx_lst (xs := someL ++ moreL) r0 (by show r < 21; exact r1)
    simp [e, outsOf, hd.own, hd3.own, isF_fz, -Prod.exists, -Prod.forall]
    exact ⟨x, kd3, rfl, rfl, hd3, someL_good x hx⟩
  · by_cases hw2 : deep = 0
    · simp [fLt, kz, hw1, hw2, fEq_int, neg_1, some_lst, pow_6, add_6, tup_0, fLst_nil, more_lst, some_sum, -Prod.exists, -Prod.forall]
      refine draw_wp hF rfl ?_
      simp [hd2, -Prod.exists, -Prod.forall]
      intro r kd3 hd3 r0 r1
      obtain ⟨x, hx, e⟩ := fIx_lst (xs := someL ++ moreL) r0 (by show r < 21; exact r1)
      simp [e, outsOf, hd.own, hd3.own, isF_fz, -Prod.exists, -Prod.forall]
      exact ⟨x, kd3, rfl, rfl, hd3, someL_good x hx⟩
    · simp [fLt, kz, hw1, fEq_int, hw2, -Prod.exists, -Prod.forall]
      refine lc_wp (fun S => ∃ kd, DI kd ∧ S = [some kd, some (.fz, .int deep), some (.fz, .int way), none, none, none]) (good 9 n) ?_ ?_
      · rintro S ⟨_, _, rfl⟩; simp
      simp [-Prod.exists, -Prod.forall]
      refine draw_wp hF rfl ?_
      simp [hd2, -Prod.exists, -Prod.forall]
      intro r kd3 hd3 r0 r1
      have hr : r.natAbs < limN := by unfold limN; omega
      simp [hr, -Prod.exists, -Prod.forall]
      refine ⟨by simp [fzAt], by rw [rangeL_length]; show _ ≤ 16777216; omega, hd3, ?_, ?_⟩
      · rintro S d kd4 hd4 rfl hm
        refine call1_wp rfl ?_
        simp [fSub, kz, hd4, -Prod.exists, -Prod.forall]
        refine (hT hw2 kd4 hd4).mono ?_
        rintro r o ⟨x, kd5, rfl, rfl, hd5, hg⟩
        exact ⟨kd5, rfl, hd5, hg⟩
      · rintro ys S' hl hy kd4 hd4 rfl
        rw [rangeL_length] at hl
        have hl2 : ys.length ≤ 9 := by omega
        have i0 : 0 ≤ way - 6 := by omega
        have i1 : way - 6 < 3 := by omega
        obtain ⟨x, hx, e⟩ := fIx_lst (xs := [.lst ys, .tup ys, .tup ys]) i0 (by simpa using i1)
        have hg : good 9 (n + 1) x := by
          simp at hx
          rcases hx with rfl | rfl
          · exact ⟨hl2, hy⟩
          · exact ⟨hl2, hy⟩
        have f3 : fLst [.lst ys, .tup ys, .tup ys] = some (.li .fz, .lst [.lst ys, .tup ys, .tup ys]) := rfl
        simp [fTuple, kz, f3, fSub, e, outsOf, hd.own, hd4.own, isF_fz, -Prod.exists, -Prod.forall]
        exact ⟨x, kd4, rfl, rfl, hd4, hg⟩
end
end LW

/-! k01: rules and books that are drawn -/
namespace LW
open TB
theorem rise_of {xs : List D} (h : xs.Pairwise fun x y => ltB x y = true) : riseB xs = true := by
  unfold riseB
  rw [List.all_eq_true]
  intro d hd
  obtain ⟨i, hi, rfl⟩ := mem_rangeL hd
  show ltB (xs.getD (1 + (i : Int) - 1).toNat .non) (xs.getD (1 + (i : Int)).toNat .non) = true
  rw [show (1 + (i : Int) - 1).toNat = i by omega, show (1 + (i : Int)).toNat = i + 1 by omega]
  have g1 : xs.getD i .non = xs[i]'(by omega) := by simp [List.getD_eq_getElem?_getD, show i < xs.length by omega]
  have g2 : xs.getD (i + 1) .non = xs[i + 1]'(by omega) := by simp [List.getD_eq_getElem?_getD, show i + 1 < xs.length by omega]
  rw [g1, g2]
  exact List.pairwise_iff_getElem.mp h i (i + 1) _ _ (by omega)
theorem rise_str {as : List (List Nat)} (nd : as.Nodup) : riseB ((sortT as).map D.str) = true := by
  refine rise_of (List.pairwise_map.mpr ?_)
  have n2 : (sortT as).Nodup := (sortT_perm as).nodup_iff.mpr nd
  refine (List.Pairwise.and (sortT_pair as) n2).imp fun {a b} h => ?_
  show decide (a < b) = true
  rw [decide_eq_true_iff]
  rcases List.le_total b a with h2 | h2
  · exact absurd (List.le_antisymm h.1 h2) h.2
  · exact Decidable.byContradiction fun q => h.2 (List.le_antisymm h.1 (List.not_lt.mp q))
theorem sortI_perm (as : List Int) : (sortI as).Perm as := List.mergeSort_perm _ _
theorem sortI_pair (as : List Int) : (sortI as).Pairwise (· ≤ ·) := by
  unfold sortI
  have := List.pairwise_mergeSort (le := fun a b : Int => decide (a ≤ b)) (fun a b c h1 h2 => by simp at *; omega) (fun a b => by simp; omega) as
  exact this.imp fun h => by simpa using h
theorem rise_int {as : List Int} (nd : as.Nodup) : riseB ((sortI as).map D.int) = true := by
  refine rise_of (List.pairwise_map.mpr ?_)
  have n2 : (sortI as).Nodup := (sortI_perm as).nodup_iff.mpr nd
  refine (List.Pairwise.and (sortI_pair as) n2).imp fun {a b} h => ?_
  show decide (a < b) = true
  rw [decide_eq_true_iff]
  have h1 := h.1
  have h2 := h.2
  omega
theorem name_good {s : List Nat} (h : nameS s = true) (n : Nat) : good 9 n (.str s) := by
  unfold nameS at h
  have h1 : s.length ≤ 8 := by simp at h; exact h.1.2
  have h2 : ∀ c ∈ s, c ∈ abc := by simp at h; exact h.2
  have h3 : ∀ c ∈ abc, c < 1114112 := by decide
  have : s.length ≤ 9 ∧ ∀ c ∈ s, c < 1114112 := ⟨by omega, fun c hc => h3 c (h2 c hc)⟩
  cases n <;> exact this
theorem some_names {src as : List (List Nat)} (hs : ∀ s ∈ src, nameS s = true) (nd : as.Nodup) (hl : as.length ≤ 2) (sub : ∀ a ∈ as, a ∈ src) (n : Nat) : namesB (.tup ((sortT as).map D.str)) 0 2 = true ∧ good 9 (n + 1) (.tup ((sortT as).map D.str)) := by
  have len : ((sortT as).map D.str).length ≤ 2 := by rw [List.length_map, (sortT_perm as).length_eq]; exact hl
  have mem : ∀ x ∈ sortT as, nameS x = true := fun x hx => hs x (sub x ((sortT_perm as).mem_iff.mp hx))
  constructor
  · unfold namesB
    have l2 : (((sortT as).map D.str).length : Int) ≤ 2 := by omega
    have al : ((sortT as).map D.str).all nameB = true := by
      rw [List.all_map, List.all_eq_true]
      exact mem
    show (decide ((0 : Int) ≤ (((sortT as).map D.str).length : Int)) && decide ((((sortT as).map D.str).length : Int) ≤ 2) && ((sortT as).map D.str).all nameB && riseB ((sortT as).map D.str)) = true
    rw [rise_str nd, al, decide_eq_true l2, decide_eq_true (Int.natCast_nonneg _)]
    rfl
  · exact ⟨by omega, fun x hx => by
      obtain ⟨s, hs, rfl⟩ := List.mem_map.mp hx
      exact name_good (mem s hs) n⟩
theorem some_days {as : List Int} (nd : as.Nodup) (hl : as.length ≤ 7) (sub : ∀ a ∈ as, a ∈ ([0, 1, 2, 3, 4, 5, 6] : List Int)) (n : Nat) : daysB (.tup ((sortI as).map D.int)) = true ∧ good 9 (n + 1) (.tup ((sortI as).map D.int)) := by
  have mem : ∀ x ∈ sortI as, 0 ≤ x ∧ x ≤ 6 := fun x hx => by
    have := sub x ((sortI_perm as).mem_iff.mp hx)
    simp at this; omega
  constructor
  · unfold daysB
    show (((sortI as).map D.int).all (fun d => withinB d 0 6) && riseB ((sortI as).map D.int)) = true
    rw [rise_int nd, Bool.and_true, List.all_map, List.all_eq_true]
    intro x hx
    have := mem x hx
    show (decide (0 ≤ x) && decide (x ≤ 6)) = true
    simp; exact this
  · refine ⟨by rw [List.length_map, (sortI_perm as).length_eq]; omega, fun x hx => ?_⟩
    obtain ⟨s, hs, rfl⟩ := List.mem_map.mp hx
    cases n <;> exact trivial
/-- a rule that is one -/
def RuleQ (r : KD) (o : List KD) : Prop := ∃ d kd', r = (.fz, d) ∧ o = [kd'] ∧ DI kd' ∧ good 9 2 d ∧ ruleB d = true
def BookQ (r : KD) (o : List KD) : Prop := ∃ xs kd', r = (.fz, .tup xs) ∧ o = [kd'] ∧ DI kd' ∧ good 9 3 (.tup xs) ∧ bookB (.tup xs) = true
section
variable {Γ : Nat → Fn}
theorem days_src : rangeL 0 7 = ([0, 1, 2, 3, 4, 5, 6] : List Int).map D.int := rfl
theorem rule_9 {kd : KD} {s1 s2 : List (List Nat)} {far : Int} (hF : DrawOk (Γ 7)) (hS : ∀ kd (src : List (List Nat)) m, DI kd → 1 ≤ src.length → src.length ≤ 1000 → 0 ≤ m → m ≤ 60 → FnP (Γ 8) [kd, (.fz, .lst (src.map D.str)), (.fz, .int m)] (SomeQ D.str sortT src m))
    (hI : ∀ kd (src : List Int) m, DI kd → 1 ≤ src.length → src.length ≤ 1000 → 0 ≤ m → m ≤ 60 → FnP (Γ 8) [kd, (.fz, .lst (src.map D.int)), (.fz, .int m)] (SomeQ D.int sortI src m))
    (hd : DI kd) (l1 : 1 ≤ s1.length) (l1' : s1.length ≤ 1000) (l2 : 1 ≤ s2.length) (l2' : s2.length ≤ 1000) (n1 : ∀ s ∈ s1, nameS s = true) (n2 : ∀ s ∈ s2, nameS s = true) (f0 : 1 ≤ far) (f1 : far ≤ 1000000) :
    FnP (runF 8 [0] (mb_9 Γ)) [kd, (.fz, .lst (s1.map D.str)), (.fz, .lst (s2.map D.str)), (.fz, .int far)] RuleQ := by
  refine runF_wp (by obtain ⟨a, b, rfl, _⟩ := hd; rfl) ?_
  simp [mb_9, -Prod.exists, -Prod.forall]
  refine draw_wp hF rfl ?_
  simp [hd, -Prod.exists, -Prod.forall]
  intro x1 k1 h1 x1a x1b
  refine draw_wp hF rfl ?_
  simp [h1, -Prod.exists, -Prod.forall]
  refine ⟨f0, by omega, fun x2 k2 h2 x2a x2b => ?_⟩
  have e0 : fLst [.int 0, .int x1, .int x2] = some (.li .fz, .lst [.int 0, .int x1, .int x2]) := rfl
  simp [e0, -Prod.exists, -Prod.forall]
  refine draw_wp hF rfl ?_
  simp [h2, -Prod.exists, -Prod.forall]
  intro x3 k3 h3 x3a x3b
  obtain ⟨lo, e1, lo0, lo1⟩ := pick_int (xs := [.int 0, .int x1, .int x2]) (lo := 0) (hi := 999999) x3a (by simpa using x3b) (by simp; omega)
  simp [e1, fAdd, kz, pow_6, -Prod.exists, -Prod.forall]
  refine draw_wp hF rfl ?_
  simp [h3, -Prod.exists, -Prod.forall]
  intro x4 k4 h4 x4a x4b
  refine draw_wp hF rfl ?_
  simp [h4, -Prod.exists, -Prod.forall]
  refine ⟨f0, by omega, fun x5 k5 h5 x5a x5b => ?_⟩
  have e2 : fLst [.int 0, .int x4, .int x5, .int 1000000] = some (.li .fz, .lst [.int 0, .int x4, .int x5, .int 1000000]) := rfl
  simp [pow_6, e2, -Prod.exists, -Prod.forall]
  refine draw_wp hF rfl ?_
  simp [h5, -Prod.exists, -Prod.forall]
  intro x6 k6 h6 x6a x6b
  obtain ⟨ad, e3, ad0, ad1⟩ := pick_int (xs := [.int 0, .int x4, .int x5, .int 1000000]) (lo := 0) (hi := 1000000) x6a (by simpa using x6b) (by simp; omega)
  simp [e3, fAdd, kz, fMin2, -Prod.exists, -Prod.forall]
  generalize hh : (if 1 + lo + ad < 1000000 then 1 + lo + ad else 1000000) = hi
  have hi0 : 1 + lo ≤ hi := by rw [← hh]; split <;> omega
  have hi1 : hi ≤ 1000000 := by rw [← hh]; split <;> omega
  refine call2_wp rfl ?_
  simp [sizeMax, -Prod.exists, -Prod.forall]
  refine draw_wp hF rfl ?_
  simp [h6, -Prod.exists, -Prod.forall]
  intro x7 k7 h7 x7a x7b
  obtain ⟨most, e4, mo0, mo1⟩ := pick_int (xs := [.int 0, .int 3, .int 7]) (lo := 0) (hi := 7) x7a (by simpa using x7b) (by simp)
  have e5 : fLst [.int 0, .int 3, .int 7] = some (.li .fz, .lst [.int 0, .int 3, .int 7]) := rfl
  simp [e4, e5, h7, days_src, -Prod.exists, -Prod.forall]
  refine (hI k7 [0, 1, 2, 3, 4, 5, 6] most h7 (by simp) (by simp) mo0 (by omega)).mono ?_
  rintro _ _ ⟨as, k8, rfl, rfl, h8, nd, al, sub⟩
  refine ⟨k8, rfl, h8, ?_⟩
  obtain ⟨dy1, dy2⟩ := some_days nd (by omega) sub 0
  generalize hdy : D.tup ((sortI as).map D.int) = dy at dy1 dy2
  have e7 : fLst [.str [98, 97, 114], .str [108, 101, 116]] = some (.li .fz, .lst [.str tBar, .str tLet]) := rfl
  simp [e7, -Prod.exists, -Prod.forall]
  refine draw_wp hF rfl ?_
  simp [h8, -Prod.exists, -Prod.forall]
  intro x9 k9 h9 x9a x9b
  have q0 : 0 ≤ x9 / 3 := by omega
  have q1 : x9 / 3 < 2 := by omega
  obtain ⟨wd, hw, e6⟩ := fIx_lst (xs := [.str tBar, .str tLet]) q0 (by simpa using q1)
  have hw2 : wordB wd = true ∧ good 9 1 wd := by
    simp at hw
    rcases hw with rfl | rfl
    · exact ⟨rfl, by simp [good, tBar]⟩
    · exact ⟨rfl, by simp [good, tLet]⟩
  have e8 : fDiv (.int x9) (.int 3) = some (.fz, .int (x9 / 3)) := rfl
  simp [e6, e7, e8, -Prod.exists, -Prod.forall]
  refine call2_wp rfl ?_
  simp [h9, -Prod.exists, -Prod.forall]
  refine (hS k9 s1 2 h9 l1 l1' (by omega) (by omega)).mono ?_
  rintro _ _ ⟨as1, k10, rfl, rfl, h10, nd1, al1, sub1⟩
  refine ⟨k10, rfl, h10, ?_⟩
  obtain ⟨na1, na2⟩ := some_names n1 nd1 al1 sub1 0
  generalize hna : D.tup ((sortT as1).map D.str) = na at na1 na2
  simp [-Prod.exists, -Prod.forall]
  refine call2_wp rfl ?_
  simp [h10, -Prod.exists, -Prod.forall]
  refine (hS k10 s2 2 h10 l2 l2' (by omega) (by omega)).mono ?_
  rintro _ _ ⟨as2, k11, rfl, rfl, h11, nd2, al2, sub2⟩
  refine ⟨k11, rfl, h11, ?_⟩
  obtain ⟨nb1, nb2⟩ := some_names n2 nd2 al2 sub2 0
  generalize hnb : D.tup ((sortT as2).map D.str) = nb at nb1 nb2
  have e9 : fTup [wd, na, nb, dy, .int (1 + lo), .int hi] = some (.fz, .tup [wd, na, nb, dy, .int (1 + lo), .int hi]) := rfl
  simp [e9, outsOf, hd.own, h11.own, isF_fz, -Prod.exists, -Prod.forall]
  refine ⟨_, k11, rfl, rfl, h11, ?_, ?_⟩
  · refine ⟨by simp, ?_⟩
    simp only [List.mem_cons, List.not_mem_nil, or_false, forall_eq_or_imp, forall_eq]
    exact ⟨hw2.2, na2, nb2, dy2, trivial, trivial⟩
  · show rule6 wd na nb dy (.int (1 + lo)) (.int hi) = true
    have w1 : withinB (.int (1 + lo)) 1 1000000 = true := by simp [withinB]; omega
    have w2 : hiB (.int hi) (.int (1 + lo)) = true := by simp [hiB, withinB]; omega
    unfold rule6
    rw [hw2.1, na1, nb1, dy1, w1, w2]; rfl
theorem book_10 {kd : KD} {s1 s2 : List (List Nat)} (hF : DrawOk (Γ 7)) (hR : ∀ kd far, DI kd → 1 ≤ far → far ≤ 1000000 → FnP (Γ 9) [kd, (.fz, .lst (s1.map D.str)), (.fz, .lst (s2.map D.str)), (.fz, .int far)] RuleQ) (hd : DI kd) :
    FnP (runF 5 [0] (mb_10 Γ)) [kd, (.fz, .lst (s1.map D.str)), (.fz, .lst (s2.map D.str))] BookQ := by
  refine runF_wp (by obtain ⟨a, b, rfl, _⟩ := hd; rfl) ?_
  have e0 : fLst [.int 30, .int 1000000] = some (.li .fz, .lst [.int 30, .int 1000000]) := rfl
  simp [mb_10, pow_6, e0, -Prod.exists, -Prod.forall]
  refine draw_wp hF rfl ?_
  simp [hd, -Prod.exists, -Prod.forall]
  intro x1 k1 h1 x1a x1b
  have e8 : fDiv (.int x1) (.int 3) = some (.fz, .int (x1 / 3)) := rfl
  obtain ⟨far, e1, f0, f1⟩ := pick_int (xs := [.int 30, .int 1000000]) (r := x1 / 3) (lo := 1) (hi := 1000000) (by omega) (by show x1 / 3 < 2; omega) (by simp)
  simp [e8, e1, -Prod.exists, -Prod.forall]
  refine lc_wp (fun S => ∃ kd, DI kd ∧ S = [some kd, some (.fz, .lst (s1.map D.str)), some (.fz, .lst (s2.map D.str)), some (.fz, .int far), none]) (fun d => good 9 2 d ∧ ruleB d = true) ?_ ?_
  · rintro S ⟨_, _, rfl⟩; simp
  simp [-Prod.exists, -Prod.forall]
  refine draw_wp hF rfl ?_
  simp [h1, -Prod.exists, -Prod.forall]
  intro r k2 h2 r0 r1
  have hr : r.natAbs < limN := by unfold limN; omega
  simp [hr, -Prod.exists, -Prod.forall]
  refine ⟨by simp [fzAt], by rw [rangeL_length]; show _ ≤ 16777216; omega, h2, ?_, ?_⟩
  · rintro S d k3 h3 rfl hm
    refine call3_wp rfl ?_
    simp [h3, -Prod.exists, -Prod.forall]
    refine (hR k3 far h3 f0 f1).mono ?_
    rintro _ _ ⟨x, k4, rfl, rfl, h4, g4, b4⟩
    exact ⟨k4, rfl, h4, g4, b4⟩
  · rintro ys S' hl hy k3 h3 rfl
    rw [rangeL_length] at hl
    simp [fTuple, kz, outsOf, hd.own, h3.own, isF_fz, -Prod.exists, -Prod.forall]
    refine ⟨ys, k3, rfl, rfl, h3, ⟨by omega, fun x hx => (hy x hx).1⟩, ?_⟩
    show (decide (ys.length ≤ 6) && ys.all ruleB) = true
    rw [decide_eq_true (by omega), List.all_eq_true.mpr fun x hx => (hy x hx).2]; rfl
end
end LW

/-! k01: a thing otherwise -/
namespace LW
open TB
theorem eq_nil {b n : Nat} {xs : List D} (hn : n ≤ 50) (h : ∀ x ∈ xs, good b n x) : fEq (.lst xs) (.lst []) = some (.fz, .bl xs.isEmpty) := by
  have h1 : eqOk (.lst xs) (.lst []) = true := by
    unfold eqOk
    have : D.lay 60 (.lst xs) = true := by
      unfold D.lay
      exact lays_of (n := 59) fun d hd => lay_mono (by omega) (good_lay (h d hd))
    rw [this]
    simp [D.lay, D.lays]
  unfold fEq
  rw [if_pos h1]
  show kz (.bl (D.eqvs xs [])) = _
  cases xs <;> (unfold D.eqvs; rfl)
@[simp] theorem sSetSl_ap (i : Nat) (a b e : E) (S : List Slot) : sSetSl i a b e S = (eDat e S).bind fun y S1 => (hasL i S1).bind fun _ S2 => (eDat a S2).bind fun p S3 => (match p with
  | .int l => M.bind (eDat b) fun q => (match q with
    | .int h => (match y with
      | .lst ys => fun S => (match ownL S i with
        | some xs => if 0 ≤ l ∧ l ≤ h ∧ l ≤ xs.length ∧ xs.length + ys.length ≤ sizeMax then R.ok Fl.nx (S.set i (some (.li .fz, .lst (xs.take l.toNat ++ ys ++ xs.drop h.toNat)))) else .bad
        | none => .bad)
      | _ => fun _ => .bad)
    | _ => fun _ => .bad)
  | _ => fun _ => .bad) S3 := rfl
section
variable {Γ : Nat → Fn} {b n : Nat}
theorem good_set {b b' n : Nat} {xs : List D} {y : D} {i : Nat} (hb : b ≤ b') (hl : xs.length ≤ b) (hx : ∀ x ∈ xs, good b n x) (hy : good b' n y) : good b' (n + 1) (.tup (xs.set i y)) :=
  ⟨by rw [List.length_set]; omega, fun x h => by
    rcases List.mem_or_eq_of_mem_set h with h | h
    · exact good_mono hb (Nat.le_refl _) (hx x h)
    · rw [h]; exact hy⟩
def restS (Γ : Nat → Fn) : St := (sSeq (sSet 5 (eCall (Γ 7) [.b 0, .v (eCon (.int 8))])) (sSeq (sIf (eBool (eOp fEq (eVar 5) (eCon (.int 0)))) (sDrop (eMth fPopAt 3 [(eVar 4)])) (sIf (eBool (eOp fEq (eVar 5) (eCon (.int 1)))) (sDrop (eMth fInsert 3 [(eVar 4), (eIxO 3 (eVar 4))])) (sIf (eBool (eOp fEq (eVar 5) (eCon (.int 2)))) (sSetSl 3 (eVar 4) (eOp fAdd (eVar 4) (eCon (.int 2))) (eUn fRev (eSlO 3 (some (eVar 4)) (some (eOp fAdd (eVar 4) (eCon (.int 2))))))) (sIf (eBool (eOp fEq (eVar 5) (eCon (.int 3)))) (sSetIx 3 (eVar 4) (eCall (Γ 12) [.b 0, .v (eCon (.int 2))])) (sIf (eBool (eOp fEq (eVar 5) (eCon (.int 4)))) (sSetIx 3 (eVar 4) (eOp fIx (eApp fLst [(eCon (.int 0)), (eCon (.int 1)), (eUn fNeg (eCon (.int 1))), (eCon (.int 6)), (eCon (.int 7)), (eOp fPow (eCon (.int 10)) (eCon (.int 6))), (eOp fAdd (eOp fPow (eCon (.int 10)) (eCon (.int 6))) (eCon (.int 1))), (eCon .non), (eCon (.bl true)), (eCon (.int 3))]) (eCall (Γ 7) [.b 0, .v (eCon (.int 10))]))) (sIf (tAnd (eBool (eOp fEq (eVar 5) (eCon (.int 5)))) (eBool (eIsi .tuple (eIxO 3 (eVar 4))))) (sSetIx 3 (eVar 4) (eApp fList [(eIxO 3 (eVar 4))])) (sIf (tAnd (eBool (eOp fEq (eVar 5) (eCon (.int 6)))) (eBool (eIsi .str (eIxO 3 (eVar 4))))) (sSetIx 3 (eVar 4) (eOp fAdd (eIxO 3 (eVar 4)) (eOp fIx (eApp fLst [(eCon (.str [97])), (eCon (.str [65])), (eCon (.str [32])), (eCon (.str [98, 98, 98, 98, 98, 98, 98, 98]))]) (eCall (Γ 7) [.b 0, .v (eCon (.int 4))])))) (sRet (eFzV 3))))))))) (sRet (eApp fTuple [(eFzV 3)]))))
def mb13 (Γ : Nat → Fn) : St := (sSeq (sSet 3 (eApp fList [(eVar 1)])) (sSeq (sIf (tPeek (eBool (eOp fEq (eVar 3) (eApp fLst [])))) (sRet (eApp fTup [(eCall (Γ 12) [.b 0, .v (eCon (.int 1))])])) sNx) (sSeq (sSet 4 (eCall (Γ 7) [.b 0, .v (ePeek (eApp fLen [(eVar 3)]))])) (sSeq (sIf (tAnd (eBool (eIsi .tuple (eIxO 3 (eVar 4)))) (tAnd (eBool (eOp fGt (eVar 2) (eCon (.int 0)))) (eBool (eOp fGt (eCall (Γ 7) [.b 0, .v (eCon (.int 4))]) (eCon (.int 0)))))) (sSeq (sSetIx 3 (eVar 4) (eCall (Γ 13) [.b 0, .v (eIxO 3 (eVar 4)), .v (eOp fSub (eVar 2) (eCon (.int 1)))])) (sRet (eApp fTuple [(eFzV 3)]))) sNx) (restS Γ)))))
theorem mb13_eq : mb_13 Γ = mb13 Γ := rfl
def oddL : List D := [.int 0, .int 1, .int (-1), .int 6, .int 7, .int 1000000, .int 1000001, .non, .bl true, .int 3]
theorem odd_lst : fLst [.int 0, .int 1, .int (-1), .int 6, .int 7, .int 1000000, .int 1000001, .non, .bl true, .int 3] = some (.li .fz, .lst oddL) := rfl
theorem odd_good : ∀ x ∈ oddL, good b (n + 1) x := by simp [oddL, good]
def tailL : List D := [.str [97], .str [65], .str [32], .str [98, 98, 98, 98, 98, 98, 98, 98]]
theorem tail_lst : fLst [.str [97], .str [65], .str [32], .str [98, 98, 98, 98, 98, 98, 98, 98]] = some (.li .fz, .lst tailL) := rfl
theorem tail_str : ∀ x ∈ tailL, ∃ s, x = .str s ∧ s.length ≤ 8 ∧ ∀ c ∈ s, c < 1114112 := by simp [tailL]
theorem rest_ok {kd k2 : KD} {xs : List D} {deep at_ : Int} {i : Nat} {x : D} (hF : DrawOk (Γ 7)) (hd : DI kd) (h2 : DI k2) (hT : ∀ kd (dp : Int), DI kd → dp = 1 ∨ dp = 2 → FnP (Γ 12) [kd, (.fz, .int dp)] (ThingQ 9 3))
    (hb : 9 ≤ b) (hb2 : b ≤ 900) (hn : 2 ≤ n) (h : good b (n + 2) (.tup xs)) (a0 : 0 ≤ at_) (a1 : at_ < xs.length) (hi : i = at_.toNat) (hix : normIx xs.length at_ = some i) (hxi : xs[i]? = some x) (gx : good b (n + 1) x)
    (hcase : (∃ ys, x = .tup ys) ∨ ((∃ s, x = .str s ∧ s.length ≤ b ∧ ∀ c ∈ s, c < 1114112) ∧ fIsi .tuple x = some (.fz, .bl false) ∧ fIsi .str x = some (.fz, .bl true)) ∨ (fIsi .tuple x = some (.fz, .bl false) ∧ fIsi .str x = some (.fz, .bl false))) :
    okP (restS Γ [some k2, some (.fz, .tup xs), some (.fz, .int deep), some (.li .fz, .lst xs), some (.fz, .int at_), none]) (fin [kd, (.fz, .tup xs), (.fz, .int deep)] (ThingQ (b + 8) (n + 2))) := by
  obtain ⟨hl, hx⟩ := (show xs.length ≤ b ∧ ∀ x ∈ xs, good b (n + 1) x from h)
  have hx8 : ∀ x ∈ xs, good (b + 8) (n + 1) x := fun x hm => good_mono (by omega) (Nat.le_refl _) (hx x hm)
  have hsame : good (b + 8) (n + 2) (.lst xs) := ⟨by omega, hx8⟩
  simp [restS, -Prod.exists, -Prod.forall]
  refine draw_wp hF rfl ?_
  simp [h2, -Prod.exists, -Prod.forall]
  intro way k3 h3 w0 w1
  have hw : way = 0 ∨ way = 1 ∨ way = 2 ∨ way = 3 ∨ way = 4 ∨ way = 5 ∨ way = 6 ∨ way = 7 := by omega
  have hlim : at_.natAbs < limN := by unfold limN; omega
  have hsz : xs.length < sizeMax := by show _ < 16777216; omega
  rcases hw with rfl | rfl | rfl | rfl | rfl | rfl | rfl | rfl
  · simp [fEq_int, ownL, fPopAt, hlim, hix, hxi, fTuple, kz, outsOf, hd.own, h3.own, isF_fz, -Prod.exists, -Prod.forall]
    exact ⟨_, k3, rfl, rfl, h3, by have := List.length_eraseIdx_le xs i; omega, fun y hy => hx8 y (List.mem_of_mem_eraseIdx hy)⟩
  · simp [fEq_int, ownL, fInsert, a0, hlim, hsz, hix, hxi, fTuple, kz, outsOf, hd.own, h3.own, isF_fz, -Prod.exists, -Prod.forall]
    refine ⟨_, k3, rfl, rfl, h3, by simp; omega, fun y hy => ?_⟩
    simp at hy
    rcases hy with hy | rfl | hy
    · exact hx8 y (List.mem_of_mem_take hy)
    · exact good_mono (by omega) (Nat.le_refl _) gx
    · exact hx8 y (List.mem_of_mem_drop hy)
  · have c1 : at_ ≤ at_ + 2 := by omega
    have c2 : at_ ≤ (xs.length : Int) := by omega
    have cl : (cutL xs (some at_) (some (at_ + 2))).length ≤ 2 := by
      have e1 : ixS xs.length 0 (some at_) = at_.toNat := by
        show (if at_ < 0 then (at_ + (xs.length : Int)).toNat else min at_.toNat xs.length) = _
        rw [if_neg (by omega)]; omega
      have e2 : ixS xs.length xs.length (some (at_ + 2)) ≤ at_.toNat + 2 := by
        show (if at_ + 2 < 0 then (at_ + 2 + (xs.length : Int)).toNat else min (at_ + 2).toNat xs.length) ≤ _
        rw [if_neg (by omega)]; omega
      unfold cutL
      rw [e1, List.length_take]
      omega
    have c3 : xs.length + (cutL xs (some at_) (some (at_ + 2))).length ≤ sizeMax := by show _ ≤ 16777216; omega
    simp [fEq_int, ownL, fAdd, fRev, a0, c1, c2, c3, fTuple, kz, outsOf, hd.own, h3.own, isF_fz, -Prod.exists, -Prod.forall]
    refine ⟨_, k3, rfl, rfl, h3, by simp; omega, fun y hy => ?_⟩
    simp at hy
    rcases hy with hy | hy | hy
    · exact hx8 y (List.mem_of_mem_take hy)
    · unfold cutL at hy
      exact hx8 y (List.mem_of_mem_drop (List.mem_of_mem_take hy))
    · exact hx8 y (List.mem_of_mem_drop hy)
  · simp [fEq_int, -Prod.exists, -Prod.forall]
    refine call1_wp rfl ?_
    simp [h3, -Prod.exists, -Prod.forall]
    refine (hT k3 2 h3 (.inr rfl)).mono ?_
    rintro _ _ ⟨y, k4, rfl, rfl, h4, g4⟩
    refine ⟨k4, rfl, h4, ?_⟩
    simp [ownL, hix, fTuple, kz, outsOf, hd.own, h4.own, isF_fz, -Prod.exists, -Prod.forall]
    exact ⟨_, k4, rfl, rfl, h4, good_set (by omega) hl hx (good_mono (by omega) (by omega) g4)⟩
  · simp [fEq_int, neg_1, pow_6, add_6, odd_lst, -Prod.exists, -Prod.forall]
    refine draw_wp hF rfl ?_
    simp [h3, -Prod.exists, -Prod.forall]
    intro r k4 h4 r0 r1
    obtain ⟨y, hy, e⟩ := fIx_lst (xs := oddL) r0 (by show r < 10; exact r1)
    simp [e, ownL, hix, fTuple, kz, outsOf, hd.own, h4.own, isF_fz, -Prod.exists, -Prod.forall]
    exact ⟨_, k4, rfl, rfl, h4, good_set (by omega) hl hx (odd_good y hy)⟩
  · rcases hcase with ⟨ys, rfl⟩ | ⟨_, t1, t2⟩ | ⟨t1, t2⟩
    · have tt : fIsi .tuple (.tup ys) = some (.fz, .bl true) := rfl
      have fl : fList [.tup ys] = some (.li .fz, .lst ys) := rfl
      simp [fEq_int, ownL, hix, hxi, tt, fl, fTuple, kz, outsOf, hd.own, h3.own, isF_fz, -Prod.exists, -Prod.forall]
      exact ⟨_, k3, rfl, rfl, h3, good_set (by omega) hl hx (good_mono (by omega) (Nat.le_refl _) (show good b (n + 1) (.lst ys) from gx))⟩
    · simp [fEq_int, ownL, hix, hxi, t1, outsOf, hd.own, h3.own, isF_fz, -Prod.exists, -Prod.forall]
      exact ⟨_, k3, rfl, rfl, h3, hsame⟩
    · simp [fEq_int, ownL, hix, hxi, t1, outsOf, hd.own, h3.own, isF_fz, -Prod.exists, -Prod.forall]
      exact ⟨_, k3, rfl, rfl, h3, hsame⟩
  · rcases hcase with ⟨ys, rfl⟩ | ⟨⟨s, rfl, s1, s2⟩, t1, t2⟩ | ⟨t1, t2⟩
    · have tt : fIsi .str (.tup ys) = some (.fz, .bl false) := rfl
      simp [fEq_int, ownL, hix, hxi, tt, outsOf, hd.own, h3.own, isF_fz, -Prod.exists, -Prod.forall]
      exact ⟨_, k3, rfl, rfl, h3, hsame⟩
    · simp [fEq_int, ownL, hix, hxi, t2, tail_lst, -Prod.exists, -Prod.forall]
      refine draw_wp hF rfl ?_
      simp [h3, -Prod.exists, -Prod.forall]
      intro r k4 h4 r0 r1
      obtain ⟨y, hy, e⟩ := fIx_lst (xs := tailL) r0 (by show r < 4; exact r1)
      obtain ⟨u, rfl, u1, u2⟩ := tail_str y hy
      have fa : fAdd (.str s) (.str u) = some (.fz, .str (s ++ u)) := by
        show (if s.length + u.length ≤ sizeMax then _ else _) = _
        rw [if_pos (by show _ ≤ 16777216; omega)]; rfl
      simp [e, fa, ownL, hix, fTuple, kz, outsOf, hd.own, h4.own, isF_fz, -Prod.exists, -Prod.forall]
      refine ⟨_, k4, rfl, rfl, h4, good_set (by omega) hl hx ?_⟩
      exact ⟨by rw [List.length_append]; omega, fun c hc => by rcases List.mem_append.mp hc with q | q; exact s2 c q; exact u2 c q⟩
    · simp [fEq_int, ownL, hix, hxi, t2, outsOf, hd.own, h3.own, isF_fz, -Prod.exists, -Prod.forall]
      exact ⟨_, k3, rfl, rfl, h3, hsame⟩
  · simp [fEq_int, outsOf, hd.own, h3.own, isF_fz, -Prod.exists, -Prod.forall]
    exact ⟨_, k3, rfl, rfl, h3, hsame⟩
theorem other_13 {kd : KD} {xs : List D} {deep : Int} (hF : DrawOk (Γ 7)) (hd : DI kd) (hT : ∀ kd (dp : Int), DI kd → dp = 1 ∨ dp = 2 → FnP (Γ 12) [kd, (.fz, .int dp)] (ThingQ 9 3))
    (hO : 0 < deep → ∀ kd ys, DI kd → good b (n + 1) (.tup ys) → FnP (Γ 13) [kd, (.fz, .tup ys), (.fz, .int (deep - 1))] (ThingQ (b + 8) (n + 1))) (hb : 9 ≤ b) (hb2 : b ≤ 900) (hn : 2 ≤ n) (hn2 : n ≤ 40) (h : good b (n + 2) (.tup xs)) :
    FnP (runF 6 [0] (mb_13 Γ)) [kd, (.fz, .tup xs), (.fz, .int deep)] (ThingQ (b + 8) (n + 2)) := by
  obtain ⟨hl, hx⟩ := (show xs.length ≤ b ∧ ∀ x ∈ xs, good b (n + 1) x from h)
  refine runF_wp (by obtain ⟨a, b, rfl, _⟩ := hd; rfl) ?_
  have en := eq_nil (by omega) hx
  have fl : fList [.tup xs] = some (.li .fz, .lst xs) := rfl
  have flen : fLen [.lst xs] = some (.fz, .int xs.length) := rfl
  rw [mb13_eq]
  simp [mb13, fl, frz, fLst_nil, en, -Prod.exists, -Prod.forall]
  cases hxe : xs with
  | nil =>
    simp [-Prod.exists, -Prod.forall]
    refine call1_wp rfl ?_
    simp [hd, -Prod.exists, -Prod.forall]
    refine (hT kd 1 hd (.inl rfl)).mono ?_
    rintro _ _ ⟨x, k1, rfl, rfl, h1, g1⟩
    refine ⟨k1, rfl, h1, ?_⟩
    have e1 : fTup [x] = some (.fz, .tup [x]) := rfl
    simp [e1, outsOf, hd.own, h1.own, isF_fz, -Prod.exists, -Prod.forall]
    exact ⟨_, k1, rfl, rfl, h1, by simp, by simpa using good_mono (by omega) (by omega) g1⟩
  | cons x0 xs0 =>
    rw [← hxe]
    have hlen : 1 ≤ xs.length := by rw [hxe]; simp
    have hne : ¬ xs = [] := by rw [hxe]; simp
    simp [hne, -Prod.exists, -Prod.forall]
    refine draw_wp hF rfl ?_
    simp [frz, flen, D.flat, hd, -Prod.exists, -Prod.forall]
    refine ⟨by omega, by omega, fun at_ k1 h1 a0 a1 => ?_⟩
    obtain ⟨i, hi⟩ : ∃ i, i = at_.toNat := ⟨_, rfl⟩
    have hil : i < xs.length := by omega
    have hix : normIx xs.length at_ = some i := by rw [hi]; exact normIx_nat a0 a1
    have hxi : xs[i]? = some xs[i] := List.getElem?_eq_getElem hil
    have gx := hx _ (List.getElem_mem hil)
    generalize xs[i] = x at hxi gx
    have hcase : (∃ ys, x = .tup ys) ∨ ((∃ s, x = .str s ∧ s.length ≤ b ∧ ∀ c ∈ s, c < 1114112) ∧ fIsi .tuple x = some (.fz, .bl false) ∧ fIsi .str x = some (.fz, .bl true)) ∨ (fIsi .tuple x = some (.fz, .bl false) ∧ fIsi .str x = some (.fz, .bl false)) := by
      refine good_elim gx ?_ ?_ ?_ ?_ ?_ ?_ <;> intros <;> first | exact .inr (.inr ⟨rfl, rfl⟩) | exact .inl ⟨_, rfl⟩ | skip
      exact .inr (.inl ⟨⟨_, rfl, by assumption, by assumption⟩, rfl, rfl⟩)
    have rest : ∀ k2, DI k2 → okP (restS Γ [some k2, some (.fz, .tup xs), some (.fz, .int deep), some (.li .fz, .lst xs), some (.fz, .int at_), none]) (fin [kd, (.fz, .tup xs), (.fz, .int deep)] (ThingQ (b + 8) (n + 2))) := fun k2 h2 => rest_ok hF hd h2 hT hb hb2 hn h a0 a1 hi hix hxi gx hcase
    rcases hcase with ⟨ys, rfl⟩ | ⟨_, t1, _⟩ | ⟨t1, _⟩
    · have tt : fIsi .tuple (.tup ys) = some (.fz, .bl true) := rfl
      by_cases hdp : 0 < deep
      · simp [ownL, hix, hxi, tt, fGt, kz, hdp, -Prod.exists, -Prod.forall]
        refine draw_wp hF rfl ?_
        simp [h1, -Prod.exists, -Prod.forall]
        intro r k2 h2 r0 r1
        by_cases hr : 0 < r
        · simp [hr, -Prod.exists, -Prod.forall]
          refine call2_wp rfl ?_
          simp [ownL, hix, hxi, fSub, kz, h2, -Prod.exists, -Prod.forall]
          refine (hO hdp k2 ys h2 gx).mono ?_
          rintro _ _ ⟨y, k3, rfl, rfl, h3, g3⟩
          refine ⟨k3, rfl, h3, ?_⟩
          simp [ownL, hix, fTuple, kz, outsOf, hd.own, h3.own, isF_fz, -Prod.exists, -Prod.forall]
          exact ⟨_, k3, rfl, rfl, h3, good_set (by omega) hl hx g3⟩
        · simp [hr, -Prod.exists, -Prod.forall]
          exact rest k2 h2
      · simp [ownL, hix, hxi, tt, fGt, kz, hdp, -Prod.exists, -Prod.forall]
        exact rest k1 h1
    · simp [ownL, hix, hxi, t1, -Prod.exists, -Prod.forall]
      exact rest k1 h1
    · simp [ownL, hix, hxi, t1, -Prod.exists, -Prod.forall]
      exact rest k1 h1
end
end LW

/-! k01: the law -/
namespace LW
open TB
theorem D7 (k : Nat) : DrawOk (callF (k + 1) 7) := draw_ok
theorem D6 (k : Nat) : DrawsOk (callF (k + 1) 6) := draws_ok
theorem S8 (k : Nat) : ∀ kd (src : List (List Nat)) m, DI kd → 1 ≤ src.length → src.length ≤ 1000 → 0 ≤ m → m ≤ 60 → FnP (callF (k + 2) 8) [kd, (.fz, .lst (src.map D.str)), (.fz, .int m)] (SomeQ D.str sortT src m) := fun kd src m hd a b c e => some_str (D7 k) hd a b c e
theorem I8 (k : Nat) : ∀ kd (src : List Int) m, DI kd → 1 ≤ src.length → src.length ≤ 1000 → 0 ≤ m → m ≤ 60 → FnP (callF (k + 2) 8) [kd, (.fz, .lst (src.map D.int)), (.fz, .int m)] (SomeQ D.int sortI src m) := fun kd src m hd a b c e => some_int (D7 k) hd a b c e
theorem N11 (k : Nat) : NamesOk (callF (k + 2) 11) := names_ok (D7 k)
theorem R9 (k : Nat) {s1 s2 : List (List Nat)} (l1 : 1 ≤ s1.length) (l1' : s1.length ≤ 1000) (l2 : 1 ≤ s2.length) (l2' : s2.length ≤ 1000) (n1 : ∀ s ∈ s1, nameS s = true) (n2 : ∀ s ∈ s2, nameS s = true) :
    ∀ kd far, DI kd → 1 ≤ far → far ≤ 1000000 → FnP (callF (k + 3) 9) [kd, (.fz, .lst (s1.map D.str)), (.fz, .lst (s2.map D.str)), (.fz, .int far)] RuleQ := fun kd far hd f0 f1 => rule_9 (D7 (k + 1)) (S8 k) (I8 k) hd l1 l1' l2 l2' n1 n2 f0 f1
theorem B10 (k : Nat) {s1 s2 : List (List Nat)} (l1 : 1 ≤ s1.length) (l1' : s1.length ≤ 1000) (l2 : 1 ≤ s2.length) (l2' : s2.length ≤ 1000) (n1 : ∀ s ∈ s1, nameS s = true) (n2 : ∀ s ∈ s2, nameS s = true) {kd : KD} (hd : DI kd) :
    FnP (callF (k + 4) 10) [kd, (.fz, .lst (s1.map D.str)), (.fz, .lst (s2.map D.str))] BookQ := book_10 (D7 (k + 2)) (R9 k l1 l1' l2 l2' n1 n2) hd
theorem T12 : ∀ (j k : Nat) (kd : KD), j ≤ 10 → DI kd → FnP (callF (k + j + 2) 12) [kd, (.fz, .int j)] (ThingQ 9 (j + 1))
  | 0, k, kd, hj, hd => thing_12 (n := 0) (D7 k) hd (by omega) (by omega) (fun h => absurd rfl h)
  | j + 1, k, kd, hj, hd => by
    have e : k + (j + 1) + 2 = (k + j + 2) + 1 := by omega
    rw [e]
    refine thing_12 (n := j + 1) (D7 (k + j + 1)) hd (by omega) (by omega) fun _ kd hd => ?_
    have := T12 j k kd (by omega) hd
    rw [show ((j + 1 : Nat) : Int) - 1 = (j : Int) by omega]
    exact this
theorem T12' (k : Nat) : ∀ kd (dp : Int), DI kd → dp = 1 ∨ dp = 2 → FnP (callF (k + 4) 12) [kd, (.fz, .int dp)] (ThingQ 9 3) := by
  rintro kd dp hd (rfl | rfl)
  · have := T12 1 (k + 1) kd (by omega) hd
    refine this.mono ?_
    rintro _ _ ⟨d, k1, rfl, rfl, h1, g⟩
    exact ⟨d, k1, rfl, rfl, h1, good_mono (Nat.le_refl _) (by omega) g⟩
  · exact T12 2 k kd (by omega) hd
theorem O13 {b n : Nat} (hb : 9 ≤ b) (hb2 : b ≤ 900) : ∀ (j k n : Nat) (kd : KD) (xs : List D), 2 ≤ n → n + j ≤ 40 → DI kd → good b (n + j + 2) (.tup xs) → FnP (callF (k + j + 5) 13) [kd, (.fz, .tup xs), (.fz, .int j)] (ThingQ (b + 8) (n + j + 2))
  | 0, k, n, kd, xs, hn, hn2, hd, h => other_13 (n := n) (D7 (k + 3)) hd (T12' k) (fun h => absurd h (by simp)) hb hb2 hn (by omega) h
  | j + 1, k, n, kd, xs, hn, hn2, hd, h => by
    have e : k + (j + 1) + 5 = (k + j + 5) + 1 := by omega
    rw [e]
    refine other_13 (n := n + (j + 1)) (D7 (k + j + 4)) hd (by have := T12' (k + j + 1); exact this) (fun _ kd ys hd hy => ?_) hb hb2 (by omega) (by omega) h
    rw [show ((j + 1 : Nat) : Int) - 1 = (j : Int) by omega]
    have := O13 (n := 0) hb hb2 j k n kd ys hn (by omega) hd (by
      have e2 : n + j + 2 = n + (j + 1) + 1 := by omega
      rw [e2]; exact hy)
    have e2 : n + j + 2 = n + (j + 1) + 1 := by omega
    rw [e2] at this
    exact this
theorem P5 (k : Nat) {b n : Nat} {d : D} (hb : b ≤ 1000) (h : good b n d) : callF (k + 5) 5 [(.fz, d)] = .ret (.fz, .bl (bookB d)) [] := by
  have w : ∀ k (d : D) n lo hi, good b n d → callF (k + 1) 0 [(.fz, d), (.fz, .int lo), (.fz, .int hi)] = .ret (.fz, .bl (withinB d lo hi)) [] := fun k d n lo hi h => within_0 h
  have r2 : ∀ k (xs : List D), like xs → xs.length ≤ 1000 → callF (k + 1) 2 [(.fz, .tup xs)] = .ret (.fz, .bl (riseB xs)) [] := fun k xs h hl => rise_2 h hl
  have n3 : ∀ k (d : D) n few many, good b n d → callF (k + 2) 3 [(.fz, d), (.fz, .int few), (.fz, .int many)] = .ret (.fz, .bl (namesB d few many)) [] := fun k d n few many h => names_3 (fun d n h => name_1 hb h) (r2 k) hb h
  have r4 : ∀ k (d : D) n, good b n d → callF (k + 3) 4 [(.fz, d)] = .ret (.fz, .bl (ruleB d)) [] := fun k d n h => rule_4 (w (k + 1)) (r2 (k + 1)) (n3 k) hb h
  exact book_5 (fun d n h => r4 (k + 1) d n h) hb h
theorem P19 (k : Nat) {b n : Nat} {d : D} (hb : b ≤ 1000) (hn : n ≤ 50) (h : good b n d) : callF (k + 5) 19 [(.fz, d)] = .ret (.fz, .bl (bookB d)) [] := by
  have w : ∀ k (d : D) n lo hi, good b n d → callF (k + 1) 17 [(.fz, d), (.fz, .int lo), (.fz, .int hi)] = .ret (.fz, .bl (withinB d lo hi)) [] := fun k d n lo hi h => within_17 h
  have r15 : ∀ k (xs : List D) (few many : Int), (few ≤ xs.length → (xs.length : Int) ≤ many → like xs) → xs.length ≤ 1000 → callF (k + 1) 15 [(.fz, .tup xs), (.fz, .int few), (.fz, .int many)] = .ret (.fz, .bl (decide (few ≤ xs.length) && decide ((xs.length : Int) ≤ many) && riseB xs)) [] := fun k xs few many h hl => rise_15 h hl
  have n16 : ∀ k (d : D) n few many, n ≤ 50 → good b n d → callF (k + 2) 16 [(.fz, d), (.fz, .int few), (.fz, .int many)] = .ret (.fz, .bl (namesB d few many)) [] := fun k d n few many hn h => names_16 (fun d n h => name_14 hb h) (r15 k) hb hn h
  have r18 : ∀ k (d : D) n, n ≤ 50 → good b n d → callF (k + 3) 18 [(.fz, d)] = .ret (.fz, .bl (ruleB d)) [] := fun k d n hn h => rule_18 (w (k + 1)) (r15 (k + 1)) (n16 k) hb hn h
  exact book_19 (fun d n hn h => r18 (k + 1) d n hn h) hb hn h
def R0 : D := .tup [.str tLet, .tup [.str [97], .str [98]], .tup [], .tup [.int 0, .int 6], .int 1, .int 1000000]
theorem R0_good : good 9 2 R0 := by simp [R0, good, tLet]
theorem P5' {n : Nat} {d : D} (h : good 25 n d) : callF 39 5 [(.fz, d)] = .ret (.fz, .bl (bookB d)) [] := P5 34 (by omega) h
theorem P19' {n : Nat} {d : D} (hn : n ≤ 50) (h : good 25 n d) : callF 39 19 [(.fz, d)] = .ret (.fz, .bl (bookB d)) [] := P19 34 (by omega) hn h
theorem isb (b : Bool) : fIsi .bool (.bl b) = some (.fz, .bl true) := rfl
theorem law_true (ns : List Int) (hl : ns.length ≤ 63) : callF 40 20 [(.fz, .scr ns)] = .ret (.fz, .bl true) [] := by
  refine FnP.eq ?_
  show FnP (runF 8 [] (mb_20 (callF 39))) [(.fz, .scr ns)] _
  refine runF_wp (by rfl) ?_
  obtain ⟨m, hm, m0⟩ : ∃ m : Int, fMax2 [.int 1, .int (if (ns.length : Int) < 40 then (ns.length : Int) else 40)] = some (.fz, .int m) ∧ 0 ≤ m ∧ m ≤ 40 := by
    refine ⟨_, rfl, ?_⟩
    split <;> split <;> omega
  have hlim : m.natAbs < limN := by unfold limN; omega
  simp [mb_20, fLen, kz, fMin2, hm, hlim, -Prod.exists, -Prod.forall]
  refine loop_wp (fun ds S => (∀ d ∈ ds, ∃ k : Int, d = .int k ∧ 0 ≤ k ∧ k ≤ 1000) ∧ ∃ x1 x2 x3 x4 x5 x6 x7 : Slot, S = [some (.fz, .scr ns), x1, x2, x3, x4, x5, x6, x7]) ?_ ?_ ?_ ?_
  · rintro ds S ⟨_, x1, x2, x3, x4, x5, x6, x7, rfl⟩; simp
  · refine ⟨fun d hd => ?_, none, none, none, none, none, none, none, rfl⟩
    obtain ⟨i, hi, rfl⟩ := mem_rangeL hd
    exact ⟨_, rfl, by omega, by omega⟩
  · rintro d ds S ⟨hds, x1, x2, x3, x4, x5, x6, x7, rfl⟩
    obtain ⟨k, rfl, k0, k1⟩ := hds d List.mem_cons_self
    have hds' : ∀ d ∈ ds, ∃ k : Int, d = .int k ∧ 0 ≤ k ∧ k ≤ 1000 := fun d hd => hds d (List.mem_cons_of_mem _ hd)
    obtain ⟨d1, e1, h1⟩ := D6 38 ns k k0 k1
    simp [eCall_ap (callF 39 6), arEv_v, arEv_nil, arIn, arOut, e1, -Prod.exists, -Prod.forall]
    refine call2_wp rfl ?_
    simp [-Prod.exists, -Prod.forall]
    refine call1_wp rfl ?_
    simp [h1, -Prod.exists, -Prod.forall]
    refine (N11 37 d1 3 h1 (by omega) (by omega)).mono ?_
    rintro _ _ ⟨s1, d2, rfl, rfl, h2, l1, n1, _, _⟩
    refine ⟨d2, rfl, h2, ?_⟩
    simp [-Prod.exists, -Prod.forall]
    refine call1_wp rfl ?_
    simp [h2, -Prod.exists, -Prod.forall]
    refine (N11 37 d2 3 h2 (by omega) (by omega)).mono ?_
    rintro _ _ ⟨s2, d3, rfl, rfl, h3, l2, n2, _, _⟩
    refine ⟨d3, rfl, h3, ?_⟩
    simp at l1 l2
    simp [h3, -Prod.exists, -Prod.forall]
    refine (B10 35 (by omega) (by omega) (by omega) (by omega) n1 n2 h3).mono ?_
    rintro _ _ ⟨bk, d4, rfl, rfl, h4, gb, bb⟩
    refine ⟨d4, rfl, h4, ?_⟩
    have t1 : fTup [.str [97], .str [98]] = some (.fz, .tup [.str [97], .str [98]]) := rfl
    have t2 : fTup [.int 0, .int 6] = some (.fz, .tup [.int 0, .int 6]) := rfl
    have t3 : fTup [.str [108, 101, 116], .tup [.str [97], .str [98]], .tup [], .tup [.int 0, .int 6], .int 1, .int 1000000] = some (.fz, R0) := rfl
    have t4 : fTup [R0] = some (.fz, .tup [R0]) := rfl
    have t5 : fSl R0 none (some 5) = some (.fz, .tup [.str tLet, .tup [.str [97], .str [98]], .tup [], .tup [.int 0, .int 6], .int 1]) := rfl
    have t6 : fSl R0 none (some 4) = some (.fz, .tup [.str tLet, .tup [.str [97], .str [98]], .tup [], .tup [.int 0, .int 6]]) := rfl
    simp [tup_0, t1, t2, t3, t4, pow_6, -Prod.exists, -Prod.forall]
    refine draw_wp (D7 38) rfl ?_
    simp [h4, -Prod.exists, -Prod.forall]
    intro r d5 h5 r0 r1
    have t7 : fAdd (.int 5) (.int r) = some (.fz, .int (5 + r)) := rfl
    have t8 : fMul (.tup [R0]) (.int (5 + r)) = some (.fz, .tup (List.replicate (5 + r).toNat [R0]).flatten) := by
      show (if [R0] ≠ [] ∧ 2 ≤ 5 + r ∧ (5 + r).natAbs ≤ 1000 ∧ [R0].length ≤ 1000 then _ else _) = _
      rw [if_pos ⟨by simp, by omega, by omega, by simp⟩]; rfl
    have t9 : fList [.tup bk] = some (.li .fz, .lst bk) := rfl
    generalize hmul : (List.replicate (5 + r).toNat [R0]).flatten = mul at t8
    have gmul : good 9 3 (.tup mul) := by
      rw [← hmul]
      refine ⟨by simp; omega, fun x hx => ?_⟩
      simp at hx
      rw [hx.2]; exact R0_good
    simp [t7, t8, t9, -Prod.exists, -Prod.forall]
    refine call1_wp rfl ?_
    simp [h5, -Prod.exists, -Prod.forall]
    refine (show FnP (callF 39 12) [d5, (.fz, .int 3)] (ThingQ 9 4) from T12 3 34 d5 (by omega) h5).mono ?_
    rintro _ _ ⟨th, d6, rfl, rfl, h6, g6⟩
    refine ⟨d6, rfl, h6, ?_⟩
    generalize hcut : D.tup [.str tLet, .tup [.str [97], .str [98]], .tup [], .tup [.int 0, .int 6], .int 1] = cut at t5
    have gcut : good 9 2 cut := by rw [← hcut]; simp [good, tLet]
    have t10 : fTup [cut] = some (.fz, .tup [cut]) := rfl
    have t11 : fLst [.tup bk, .tup mul, .lst bk, th, R0, .tup [cut]] = some (.li .fz, .lst [.tup bk, .tup mul, .lst bk, th, R0, .tup [cut]]) := rfl
    simp [t5, t10, t11, -Prod.exists, -Prod.forall]
    have gb6 : good 9 6 (.tup bk) := good_mono (Nat.le_refl _) (by omega) gb
    have gbl : good 9 3 (.lst bk) := gb
    have t12 : fAppend [.tup bk, .tup mul, .lst bk, th, R0, .tup [cut]] = fAppend [.tup bk, .tup mul, .lst bk, th, R0, .tup [cut]] := rfl
    simp [ownL, -Prod.exists, -Prod.forall]
    refine call2_wp rfl ?_
    simp [h6, -Prod.exists, -Prod.forall]
    refine (show FnP (callF 39 13) [d6, (.fz, .tup bk), (.fz, .int 2)] (ThingQ 17 6) from O13 (n := 0) (b := 9) (by omega) (by omega) 2 32 2 d6 bk (by omega) (by omega) h6 gb6).mono ?_
    rintro _ _ ⟨o1, d7, rfl, rfl, h7, g7⟩
    refine ⟨d7, rfl, h7, ?_⟩
    simp [fAppend, sizeMax, ownL, -Prod.exists, -Prod.forall]
    refine call2_wp rfl ?_
    simp [-Prod.exists, -Prod.forall]
    refine call2_wp rfl ?_
    simp [h7, -Prod.exists, -Prod.forall]
    refine (show FnP (callF 39 13) [d7, (.fz, R0), (.fz, .int 1)] (ThingQ 17 5) from O13 (n := 0) (b := 9) (by omega) (by omega) 1 33 2 d7 _ (by omega) (by omega) h7 (good_mono (Nat.le_refl _) (by omega) R0_good)).mono ?_
    rintro _ _ ⟨o2, d8, rfl, rfl, h8, g8⟩
    refine ⟨d8, rfl, h8, ?_⟩
    have t13 : fTup [o2] = some (.fz, .tup [o2]) := rfl
    have g8' : good 17 6 (.tup [o2]) := ⟨by simp, by simpa using g8⟩
    simp [t13, h8, -Prod.exists, -Prod.forall]
    refine (show FnP (callF 39 13) [d8, (.fz, .tup [o2]), (.fz, .int 2)] (ThingQ 25 6) from O13 (n := 0) (b := 17) (by omega) (by omega) 2 32 2 d8 [o2] (by omega) (by omega) h8 g8').mono ?_
    rintro _ _ ⟨o3, d9, rfl, rfl, h9, g9⟩
    refine ⟨d9, rfl, h9, ?_⟩
    simp [fAppend, sizeMax, ownL, t6, pow_6, -Prod.exists, -Prod.forall]
    refine draw_wp (D7 38) rfl ?_
    simp [pow_6, h9, -Prod.exists, -Prod.forall]
    intro r2 d10 h10 r2a r2b
    have t14 : fAdd (.int 1) (.int r2) = some (.fz, .int (1 + r2)) := rfl
    simp [t14, pow_6, -Prod.exists, -Prod.forall]
    refine draw_wp (D7 38) rfl ?_
    simp [pow_6, h10, -Prod.exists, -Prod.forall]
    intro r3 d11 h11 r3a r3b
    have t15 : fAdd (.int 1) (.int r3) = some (.fz, .int (1 + r3)) := rfl
    have t16 : fTup [.int (1 + r2), .int (1 + r3)] = some (.fz, .tup [.int (1 + r2), .int (1 + r3)]) := rfl
    have t17 : fAdd (.tup [.str tLet, .tup [.str [97], .str [98]], .tup [], .tup [.int 0, .int 6]]) (.tup [.int (1 + r2), .int (1 + r3)]) = some (.fz, .tup [.str tLet, .tup [.str [97], .str [98]], .tup [], .tup [.int 0, .int 6], .int (1 + r2), .int (1 + r3)]) := rfl
    generalize hlr : D.tup [.str tLet, .tup [.str [97], .str [98]], .tup [], .tup [.int 0, .int 6], .int (1 + r2), .int (1 + r3)] = lr at t17
    have glr : good 9 2 lr := by rw [← hlr]; simp [good, tLet]
    have t18 : fTup [lr] = some (.fz, .tup [lr]) := rfl
    simp [t15, t16, t17, t18, fAppend, sizeMax, ownL, itemsOf, -Prod.exists, -Prod.forall]
    have gall : ∀ d ∈ [D.tup bk, .tup mul, .lst bk, th, R0, .tup [cut], o1, o3, .tup [lr]], good 25 10 d := by
      simp only [List.mem_cons, List.not_mem_nil, or_false, forall_eq_or_imp, forall_eq]
      refine ⟨good_mono (by omega) (by omega) gb, good_mono (by omega) (by omega) gmul, good_mono (by omega) (by omega) gbl, good_mono (by omega) (by omega) g6, good_mono (by omega) (by omega) R0_good, ⟨by simp, by simpa using good_mono (by omega) (by omega) gcut⟩, good_mono (by omega) (by omega) g7, good_mono (by omega) (by omega) g9, ⟨by simp, by simpa using good_mono (by omega) (by omega) glr⟩⟩
    have nn : fIsNotA (.bl true) (.bl true) = some (.fz, .bl false) := rfl
    have pb := P5' (good_mono (b' := 25) (by omega) (Nat.le_refl _) gb)
    rw [bb] at pb
    refine loop_wp (fun es S => (∀ d ∈ es, good 25 10 d) ∧ ∃ y6 y7 : Slot, S = [some (.fz, .scr ns), some (.fz, .int k), some d11, some (.fz, .tup bk), some (.fz, R0), some (.fz, .lst [.tup bk, .tup mul, .lst bk, th, R0, .tup [cut], o1, o3, .tup [lr]]), y6, y7]) ?_ ?_ ?_ ?_
    · rintro es S ⟨_, y6, y7, rfl⟩; simp
    · exact ⟨gall, x6, x7, rfl⟩
    · rintro e es S ⟨ge, y6, y7, rfl⟩
      have g := ge e List.mem_cons_self
      have p5 := P5' g
      have p19 := P19' (by omega) g
      simp [eCall_ap, arEv_v, arEv_nil, arIn, arOut, p5, p19, isb, fNe_bl, -Prod.exists, -Prod.forall]
      exact fun d hd => ge d (List.mem_cons_of_mem _ hd)
    · rintro S ⟨_, y6, y7, rfl⟩
      simp [eCall_ap, arEv_v, arEv_nil, arIn, arOut, pb, nn, -Prod.exists, -Prod.forall]
      exact hds'
  · rintro S ⟨_, x1, x2, x3, x4, x5, x6, x7, rfl⟩
    simp [outsOf, Kd.isF]
end LW

namespace LW
open PySem PySem.Spec PyProof.Rows L2 TB
def top (i : Nat) : Stmt := PySem.Challenge.pw_tuckbook_k01_what_is_a_book.main.body.getD i (.Pass ⟨0, 0, 0, 0⟩)
abbrev a_0 (K : PySem.W.Frag) : Addr := He.ga K "is_within"
abbrev a_1 (K : PySem.W.Frag) : Addr := He.ga K "is_name"
abbrev a_2 (K : PySem.W.Frag) : Addr := He.ga K "are_rising"
abbrev a_3 (K : PySem.W.Frag) : Addr := He.ga K "are_names"
abbrev a_4 (K : PySem.W.Frag) : Addr := He.ga K "is_rule"
abbrev a_5 (K : PySem.W.Frag) : Addr := He.ga K "is_book"
abbrev a_6 (K : PySem.W.Frag) : Addr := He.ga K "_law_draws"
abbrev a_7 (K : PySem.W.Frag) : Addr := He.ga K "_law_draw"
abbrev a_8 (K : PySem.W.Frag) : Addr := He.ga K "_law_some"
abbrev a_9 (K : PySem.W.Frag) : Addr := He.ga K "_law_rule"
abbrev a_10 (K : PySem.W.Frag) : Addr := He.ga K "_law_book"
abbrev a_11 (K : PySem.W.Frag) : Addr := He.ga K "_law_names"
abbrev a_12 (K : PySem.W.Frag) : Addr := He.ga K "_law_thing"
abbrev a_13 (K : PySem.W.Frag) : Addr := He.ga K "_law_otherwise"
abbrev a_14 (K : PySem.W.Frag) : Addr := He.ga K "_law_is_name"
abbrev a_15 (K : PySem.W.Frag) : Addr := He.ga K "_law_are_rising"
abbrev a_16 (K : PySem.W.Frag) : Addr := He.ga K "_law_are_names"
abbrev a_17 (K : PySem.W.Frag) : Addr := He.ga K "_law_within"
abbrev a_18 (K : PySem.W.Frag) : Addr := He.ga K "_law_is_rule"
abbrev a_19 (K : PySem.W.Frag) : Addr := He.ga K "_law_is_book"
abbrev a_20 (K : PySem.W.Frag) : Addr := He.ga K "law"
structure EV (K : PySem.W.Frag) (mg : Str → Option Value) (fd : Nat → FuncData) : Prop where
  d_0 : FunD K "is_within" "is_within" (defArgs (top 4)) (defBody (top 4)) (defScope (top 4)) [] [] (a_0 K) (fd 0)
  g_0 : mg "is_within" = some (.ref (a_0 K))
  d_1 : FunD K "is_name" "is_name" (defArgs (top 5)) (defBody (top 5)) (defScope (top 5)) [] [] (a_1 K) (fd 1)
  g_1 : mg "is_name" = some (.ref (a_1 K))
  d_2 : FunD K "are_rising" "are_rising" (defArgs (top 6)) (defBody (top 6)) (defScope (top 6)) [] [] (a_2 K) (fd 2)
  g_2 : mg "are_rising" = some (.ref (a_2 K))
  d_3 : FunD K "are_names" "are_names" (defArgs (top 7)) (defBody (top 7)) (defScope (top 7)) [] [] (a_3 K) (fd 3)
  g_3 : mg "are_names" = some (.ref (a_3 K))
  d_4 : FunD K "is_rule" "is_rule" (defArgs (top 8)) (defBody (top 8)) (defScope (top 8)) [] [] (a_4 K) (fd 4)
  g_4 : mg "is_rule" = some (.ref (a_4 K))
  d_5 : FunD K "is_book" "is_book" (defArgs (top 9)) (defBody (top 9)) (defScope (top 9)) [] [] (a_5 K) (fd 5)
  g_5 : mg "is_book" = some (.ref (a_5 K))
  d_6 : FunD K "_law_draws" "_law_draws" (defArgs (top 11)) (defBody (top 11)) (defScope (top 11)) [] [] (a_6 K) (fd 6)
  g_6 : mg "_law_draws" = some (.ref (a_6 K))
  d_7 : FunD K "_law_draw" "_law_draw" (defArgs (top 12)) (defBody (top 12)) (defScope (top 12)) [] [] (a_7 K) (fd 7)
  g_7 : mg "_law_draw" = some (.ref (a_7 K))
  d_8 : FunD K "_law_some" "_law_some" (defArgs (top 13)) (defBody (top 13)) (defScope (top 13)) [] [] (a_8 K) (fd 8)
  g_8 : mg "_law_some" = some (.ref (a_8 K))
  d_9 : FunD K "_law_rule" "_law_rule" (defArgs (top 14)) (defBody (top 14)) (defScope (top 14)) [] [] (a_9 K) (fd 9)
  g_9 : mg "_law_rule" = some (.ref (a_9 K))
  d_10 : FunD K "_law_book" "_law_book" (defArgs (top 15)) (defBody (top 15)) (defScope (top 15)) [] [] (a_10 K) (fd 10)
  g_10 : mg "_law_book" = some (.ref (a_10 K))
  d_11 : FunD K "_law_names" "_law_names" (defArgs (top 16)) (defBody (top 16)) (defScope (top 16)) [] [] (a_11 K) (fd 11)
  g_11 : mg "_law_names" = some (.ref (a_11 K))
  d_12 : FunD K "_law_thing" "_law_thing" (defArgs (top 17)) (defBody (top 17)) (defScope (top 17)) [] [] (a_12 K) (fd 12)
  g_12 : mg "_law_thing" = some (.ref (a_12 K))
  d_13 : FunD K "_law_otherwise" "_law_otherwise" (defArgs (top 18)) (defBody (top 18)) (defScope (top 18)) [] [] (a_13 K) (fd 13)
  g_13 : mg "_law_otherwise" = some (.ref (a_13 K))
  d_14 : FunD K "_law_is_name" "_law_is_name" (defArgs (top 19)) (defBody (top 19)) (defScope (top 19)) [] [] (a_14 K) (fd 14)
  g_14 : mg "_law_is_name" = some (.ref (a_14 K))
  d_15 : FunD K "_law_are_rising" "_law_are_rising" (defArgs (top 20)) (defBody (top 20)) (defScope (top 20)) [] [] (a_15 K) (fd 15)
  g_15 : mg "_law_are_rising" = some (.ref (a_15 K))
  d_16 : FunD K "_law_are_names" "_law_are_names" (defArgs (top 21)) (defBody (top 21)) (defScope (top 21)) [] [] (a_16 K) (fd 16)
  g_16 : mg "_law_are_names" = some (.ref (a_16 K))
  d_17 : FunD K "_law_within" "_law_within" (defArgs (top 22)) (defBody (top 22)) (defScope (top 22)) [] [] (a_17 K) (fd 17)
  g_17 : mg "_law_within" = some (.ref (a_17 K))
  d_18 : FunD K "_law_is_rule" "_law_is_rule" (defArgs (top 23)) (defBody (top 23)) (defScope (top 23)) [] [] (a_18 K) (fd 18)
  g_18 : mg "_law_is_rule" = some (.ref (a_18 K))
  d_19 : FunD K "_law_is_book" "_law_is_book" (defArgs (top 24)) (defBody (top 24)) (defScope (top 24)) [] [] (a_19 K) (fd 19)
  g_19 : mg "_law_is_book" = some (.ref (a_19 K))
  d_20 : FunD K "law" "law" (defArgs (top 25)) (defBody (top 25)) (defScope (top 25)) [] [] (a_20 K) (fd 20)
  g_20 : mg "law" = some (.ref (a_20 K))
  n_all : mg "all" = none
  n_bool : mg "bool" = none
  n_int : mg "int" = none
  n_isinstance : mg "isinstance" = none
  n_len : mg "len" = none
  n_list : mg "list" = none
  n_max : mg "max" = none
  n_min : mg "min" = none
  n_range : mg "range" = none
  n_sorted : mg "sorted" = none
  n_str : mg "str" = none
  n_tuple : mg "tuple" = none
  c_LETTERS : ∃ t, mg "LETTERS" = some (.str "abcdefghijklmnopqrstuvwxyz" t)
  c_MOST_PENCE : ∃ t, mg "MOST_PENCE" = some (.int 1000000 t)
  c_MOST_RULES : ∃ t, mg "MOST_RULES" = some (.int 6 t)
abbrev Gc (K : PySem.W.Frag) : Cfg := { K := K, ca := fun _ => 0, cn := fun _ => [], fa := fun _ => 0 }
structure OKS (P : Program) (w : World) (K : PySem.W.Frag) (mg : Str → Option Value) (base : Heap) (fd : Nat → FuncData) (k : Nat) : Prop where
  o_0 : FnOk P w K mg base (L2.CX P w) k (a_0 K) (fd 0) ["thing", "low", "high"] (spF (Gc K) 3 (callF k 0))
  o_1 : FnOk P w K mg base (L2.CX P w) k (a_1 K) (fd 1) ["thing"] (spF (Gc K) 1 (callF k 1))
  o_2 : FnOk P w K mg base (L2.CX P w) k (a_2 K) (fd 2) ["some"] (spF (Gc K) 1 (callF k 2))
  o_3 : FnOk P w K mg base (L2.CX P w) k (a_3 K) (fd 3) ["thing", "few", "many"] (spF (Gc K) 3 (callF k 3))
  o_4 : FnOk P w K mg base (L2.CX P w) k (a_4 K) (fd 4) ["thing"] (spF (Gc K) 1 (callF k 4))
  o_5 : FnOk P w K mg base (L2.CX P w) k (a_5 K) (fd 5) ["thing"] (spF (Gc K) 1 (callF k 5))
  o_6 : FnOk P w K mg base (L2.CX P w) k (a_6 K) (fd 6) ["_law_script", "_law_k"] (spF (Gc K) 2 (callF k 6))
  o_7 : FnOk P w K mg base (L2.CX P w) k (a_7 K) (fd 7) ["_law_draws_here", "_law_many"] (spF (Gc K) 2 (callF k 7))
  o_8 : FnOk P w K mg base (L2.CX P w) k (a_8 K) (fd 8) ["_law_draws_here", "_law_names_here", "_law_most"] (spF (Gc K) 3 (callF k 8))
  o_9 : FnOk P w K mg base (L2.CX P w) k (a_9 K) (fd 9) ["_law_draws_here", "_law_kinds", "_law_pupils", "_law_far"] (spF (Gc K) 4 (callF k 9))
  o_10 : FnOk P w K mg base (L2.CX P w) k (a_10 K) (fd 10) ["_law_draws_here", "_law_kinds", "_law_pupils"] (spF (Gc K) 3 (callF k 10))
  o_11 : FnOk P w K mg base (L2.CX P w) k (a_11 K) (fd 11) ["_law_draws_here", "_law_many"] (spF (Gc K) 2 (callF k 11))
  o_12 : FnOk P w K mg base (L2.CX P w) k (a_12 K) (fd 12) ["_law_draws_here", "_law_deep"] (spF (Gc K) 2 (callF k 12))
  o_13 : FnOk P w K mg base (L2.CX P w) k (a_13 K) (fd 13) ["_law_draws_here", "_law_thing_here", "_law_deep"] (spF (Gc K) 3 (callF k 13))
  o_14 : FnOk P w K mg base (L2.CX P w) k (a_14 K) (fd 14) ["_law_thing_here"] (spF (Gc K) 1 (callF k 14))
  o_15 : FnOk P w K mg base (L2.CX P w) k (a_15 K) (fd 15) ["_law_thing_here", "_law_few", "_law_many"] (spF (Gc K) 3 (callF k 15))
  o_16 : FnOk P w K mg base (L2.CX P w) k (a_16 K) (fd 16) ["_law_thing_here", "_law_few", "_law_many"] (spF (Gc K) 3 (callF k 16))
  o_17 : FnOk P w K mg base (L2.CX P w) k (a_17 K) (fd 17) ["_law_thing_here", "_law_low", "_law_high"] (spF (Gc K) 3 (callF k 17))
  o_18 : FnOk P w K mg base (L2.CX P w) k (a_18 K) (fd 18) ["_law_thing_here"] (spF (Gc K) 1 (callF k 18))
  o_19 : FnOk P w K mg base (L2.CX P w) k (a_19 K) (fd 19) ["_law_thing_here"] (spF (Gc K) 1 (callF k 19))
  o_20 : FnOk P w K mg base (L2.CX P w) k (a_20 K) (fd 20) ["_law_script"] (spF (Gc K) 1 (callF k 20))
section
variable {P : Program} {w : World} {K : PySem.W.Frag} {mg : Str → Option Value} {base : Heap} {fd : Nat → FuncData} {k : Nat}
theorem C_LETTERS {X : Cx} {G : Cfgx} {W : WX} {pos : Pos} (V : EV X.K X.mg fd) (hg : Gl X "LETTERS" := by rfl) : TrE X G W (.Name "LETTERS" pos) (eCon (.str [97, 98, 99, 100, 101, 102, 103, 104, 105, 106, 107, 108, 109, 110, 111, 112, 113, 114, 115, 116, 117, 118, 119, 120, 121, 122])) := by
  obtain ⟨t, e⟩ := V.c_LETTERS
  exact tr_glob (v := .str "abcdefghijklmnopqrstuvwxyz") e ⟨t, rfl⟩ (fun F => .str _) hg
theorem C_MOST_PENCE {X : Cx} {G : Cfgx} {W : WX} {pos : Pos} (V : EV X.K X.mg fd) (hg : Gl X "MOST_PENCE" := by rfl) : TrE X G W (.Name "MOST_PENCE" pos) (eCon (.int 1000000)) := by
  obtain ⟨t, e⟩ := V.c_MOST_PENCE
  exact tr_glob (v := .int 1000000) e ⟨t, rfl⟩ (fun F => .int _) hg
theorem C_MOST_RULES {X : Cx} {G : Cfgx} {W : WX} {pos : Pos} (V : EV X.K X.mg fd) (hg : Gl X "MOST_RULES" := by rfl) : TrE X G W (.Name "MOST_RULES" pos) (eCon (.int 6)) := by
  obtain ⟨t, e⟩ := V.c_MOST_RULES
  exact tr_glob (v := .int 6) e ⟨t, rfl⟩ (fun F => .int _) hg
theorem b_0 (V : EV K mg fd) : Binds K (fd 0) ["thing", "low", "high"] [] := V.d_0.bindsN fun _ _ _ _ _ _ us hl => match us, hl with | [_, _, _], _ => rfl
theorem sc_0 : FnScope ["thing", "low", "high"] ["thing", "low", "high"] (defScope (top 4)) := ⟨rfl, rfl, rfl, by decide +kernel, rfl, by decide +kernel, by decide +kernel⟩
theorem ok_0 (V : EV K mg fd) (IH : OKS P w K mg base fd k) : FnOk P w K mg base (L2.CX P w) (k + 1) (a_0 K) (fd 0) ["thing", "low", "high"] (spF (Gc K) 3 (runF 3 [] (mb_0 (callF k)))) :=
  fn_ok (P := P) (w := w) (G := Gc K) (mg := mg) (base := base) (k := k) (N := ["thing", "low", "high"]) (ps := ["thing", "low", "high"]) (m := mb_0 (callF k)) [] V.d_0 sc_0 (by rfl) fun cdv A outer s H E σ (C : Cok (cxF P w K mg base ["thing", "low", "high"] "is_within" (defScope (top 4)) (a_0 K) cdv A outer s H E) (pinG (Gc K) [] σ) _ k) =>
    (ts_one (tr_ret (tr_and (tr_isi .int C (tr_var 0) V.n_isinstance V.n_int (by rfl)) (tr_and (tr_not (tr_isi .bool C (tr_var 0) V.n_isinstance V.n_bool (by rfl))) (tr_one (tr_LtE_LtE C (tr_var 1) (tr_var 0) (tr_var 2)))))))
theorem b_1 (V : EV K mg fd) : Binds K (fd 1) ["thing"] [] := V.d_1.bindsN fun _ _ _ _ _ _ us hl => match us, hl with | [_], _ => rfl
theorem sc_1 : FnScope ["thing", "sign"] ["thing"] (defScope (top 5)) := ⟨rfl, rfl, rfl, by decide +kernel, rfl, by decide +kernel, by decide +kernel⟩
theorem ok_1 (V : EV K mg fd) (IH : OKS P w K mg base fd k) : FnOk P w K mg base (L2.CX P w) (k + 1) (a_1 K) (fd 1) ["thing"] (spF (Gc K) 1 (runF 2 [] (mb_1 (callF k)))) :=
  fn_ok (P := P) (w := w) (G := Gc K) (mg := mg) (base := base) (k := k) (N := ["thing", "sign"]) (ps := ["thing"]) (m := mb_1 (callF k)) [] V.d_1 sc_1 (by rfl) fun cdv A outer s H E σ (C : Cok (cxF P w K mg base ["thing", "sign"] "is_name" (defScope (top 5)) (a_1 K) cdv A outer s H E) (pinG (Gc K) [] σ) _ k) =>
    (ts_one (tr_ret (tr_and (tr_isi .str C (tr_var 0) V.n_isinstance V.n_str (by rfl)) (tr_and (tr_LtE_LtE C tr_int (tr_b_len C V.n_len rfl (tra_cons (tr_var 0) tra_nil)) tr_int) (tr_one (tr_b_all C V.n_all rfl (tra_cons (tr_lc (own := [("sign", 1)]) C (ti_str (tr_var 0)) (blkOk_by (by rfl)) (fun _ _ _ _ _ => have ND := C.nd; (tg_nm 1 ND)) (fun _ _ _ _ _ C => tts_nil) (fun _ _ _ _ _ C => (tr_In C (tr_var 1) (C_LETTERS V)))) tra_nil)))))))
theorem b_2 (V : EV K mg fd) : Binds K (fd 2) ["some"] [] := V.d_2.bindsN fun _ _ _ _ _ _ us hl => match us, hl with | [_], _ => rfl
theorem sc_2 : FnScope ["some", "k"] ["some"] (defScope (top 6)) := ⟨rfl, rfl, rfl, by decide +kernel, rfl, by decide +kernel, by decide +kernel⟩
theorem ok_2 (V : EV K mg fd) (IH : OKS P w K mg base fd k) : FnOk P w K mg base (L2.CX P w) (k + 1) (a_2 K) (fd 2) ["some"] (spF (Gc K) 1 (runF 2 [] (mb_2 (callF k)))) :=
  fn_ok (P := P) (w := w) (G := Gc K) (mg := mg) (base := base) (k := k) (N := ["some", "k"]) (ps := ["some"]) (m := mb_2 (callF k)) [] V.d_2 sc_2 (by rfl) fun cdv A outer s H E σ (C : Cok (cxF P w K mg base ["some", "k"] "are_rising" (defScope (top 6)) (a_2 K) cdv A outer s H E) (pinG (Gc K) [] σ) _ k) =>
    (ts_one (tr_ret (tr_b_all C V.n_all rfl (tra_cons (tr_lc (own := [("k", 1)]) C (ti_range2 tr_int (tr_b_len C V.n_len rfl (tra_cons (tr_var 0) tra_nil)) V.n_range) (blkOk_by (by rfl)) (fun _ _ _ _ _ => have ND := C.nd; (tg_nm 1 ND)) (fun _ _ _ _ _ C => tts_nil) (fun _ _ _ _ _ C => (tr_Lt C (tr_Ix C (tr_var 0) (tr_Sub C (tr_var 1) tr_int)) (tr_Ix C (tr_var 0) (tr_var 1))))) tra_nil))))
theorem b_3 (V : EV K mg fd) : Binds K (fd 3) ["thing", "few", "many"] [] := V.d_3.bindsN fun _ _ _ _ _ _ us hl => match us, hl with | [_, _, _], _ => rfl
theorem sc_3 : FnScope ["thing", "few", "many", "name"] ["thing", "few", "many"] (defScope (top 7)) := ⟨rfl, rfl, rfl, by decide +kernel, rfl, by decide +kernel, by decide +kernel⟩
theorem ok_3 (V : EV K mg fd) (IH : OKS P w K mg base fd k) : FnOk P w K mg base (L2.CX P w) (k + 1) (a_3 K) (fd 3) ["thing", "few", "many"] (spF (Gc K) 3 (runF 4 [] (mb_3 (callF k)))) :=
  fn_ok (P := P) (w := w) (G := Gc K) (mg := mg) (base := base) (k := k) (N := ["thing", "few", "many", "name"]) (ps := ["thing", "few", "many"]) (m := mb_3 (callF k)) [] V.d_3 sc_3 (by rfl) fun cdv A outer s H E σ (C : Cok (cxF P w K mg base ["thing", "few", "many", "name"] "are_names" (defScope (top 7)) (a_3 K) cdv A outer s H E) (pinG (Gc K) [] σ) _ k) =>
    (ts_cons (tr_ifS (tt_w (tw_or (tt_not (tt_val (tr_isi .tuple C (tr_var 0) V.n_isinstance V.n_tuple (by rfl)))) (tw_or1 (tt_not (tt_LtE_LtE C (tr_var 1) (tr_b_len C V.n_len rfl (tra_cons (tr_var 0) tra_nil)) (tr_var 2)))))) (ts_one (tr_ret tr_bl)) ts_nil) (ts_one (tr_ret (tr_and (tr_b_all C V.n_all rfl (tra_cons (tr_lc (own := [("name", 3)]) C (ti_seq C (tr_var 0)) (blkOk_by (by rfl)) (fun _ _ _ _ _ => have ND := C.nd; (tg_nm 3 ND)) (fun _ _ _ _ _ C => tts_nil) (fun _ _ _ _ _ C => (tr_call C IH.o_1 V.g_1 V.d_1.kp (b_1 V) (tar_v (tr_var 3) tar_nil)))) tra_nil)) (tr_one (tr_call C IH.o_2 V.g_2 V.d_2.kp (b_2 V) (tar_v (tr_var 0) tar_nil)))))))
theorem b_4 (V : EV K mg fd) : Binds K (fd 4) ["thing"] [] := V.d_4.bindsN fun _ _ _ _ _ _ us hl => match us, hl with | [_], _ => rfl
theorem sc_4 : FnScope ["thing", "word", "kinds", "pupils", "days", "low", "high", "day"] ["thing"] (defScope (top 8)) := ⟨rfl, rfl, rfl, by decide +kernel, rfl, by decide +kernel, by decide +kernel⟩
theorem ok_4 (V : EV K mg fd) (IH : OKS P w K mg base fd k) : FnOk P w K mg base (L2.CX P w) (k + 1) (a_4 K) (fd 4) ["thing"] (spF (Gc K) 1 (runF 8 [] (mb_4 (callF k)))) :=
  fn_ok (P := P) (w := w) (G := Gc K) (mg := mg) (base := base) (k := k) (N := ["thing", "word", "kinds", "pupils", "days", "low", "high", "day"]) (ps := ["thing"]) (m := mb_4 (callF k)) [] V.d_4 sc_4 (by rfl) fun cdv A outer s H E σ (C : Cok (cxF P w K mg base ["thing", "word", "kinds", "pupils", "days", "low", "high", "day"] "is_rule" (defScope (top 8)) (a_4 K) cdv A outer s H E) (pinG (Gc K) [] σ) _ k) =>
    (ts_cons (tr_ifS (tt_w (tw_or (tt_not (tt_val (tr_isi .tuple C (tr_var 0) V.n_isinstance V.n_tuple (by rfl)))) (tw_or (tt_NotEq C (tr_b_len C V.n_len rfl (tra_cons (tr_var 0) tra_nil)) tr_int) (tw_or1 (tt_not (tt_val (tr_isi .str C (tr_Ix C (tr_var 0) tr_int) V.n_isinstance V.n_str (by rfl)))))))) (ts_one (tr_ret tr_bl)) ts_nil) (ts_cons (tr_put (tr_var 0) (tg_tup C (tg_cons (tg_nm 1 C.nd) (tg_cons (tg_nm 2 C.nd) (tg_cons (tg_nm 3 C.nd) (tg_cons (tg_nm 4 C.nd) (tg_cons (tg_nm 5 C.nd) (tg_cons (tg_nm 6 C.nd) tg_nil)))))))) (ts_cons (tr_ifS (tt_w (tw_or (tt_NotIn C (tr_var 1) (tr_tup (tra_cons (tr_str [108, 101, 116]) (tra_cons (tr_str [98, 97, 114]) tra_nil)))) (tw_or (tt_not (tt_val (tr_call C IH.o_3 V.g_3 V.d_3.kp (b_3 V) (tar_v (tr_var 2) (tar_v tr_int (tar_v tr_int tar_nil)))))) (tw_or1 (tt_not (tt_val (tr_call C IH.o_3 V.g_3 V.d_3.kp (b_3 V) (tar_v (tr_var 3) (tar_v tr_int (tar_v tr_int tar_nil)))))))))) (ts_one (tr_ret tr_bl)) ts_nil) (ts_cons (tr_ifS (tt_w (tw_or (tt_not (tt_val (tr_isi .tuple C (tr_var 4) V.n_isinstance V.n_tuple (by rfl)))) (tw_or (tt_not (tt_val (tr_b_all C V.n_all rfl (tra_cons (tr_lc (own := [("day", 7)]) C (ti_seq C (tr_var 4)) (blkOk_by (by rfl)) (fun _ _ _ _ _ => have ND := C.nd; (tg_nm 7 ND)) (fun _ _ _ _ _ C => tts_nil) (fun _ _ _ _ _ C => (tr_call C IH.o_0 V.g_0 V.d_0.kp (b_0 V) (tar_v (tr_var 7) (tar_v tr_int (tar_v tr_int tar_nil)))))) tra_nil)))) (tw_or1 (tt_not (tt_val (tr_call C IH.o_2 V.g_2 V.d_2.kp (b_2 V) (tar_v (tr_var 4) tar_nil)))))))) (ts_one (tr_ret tr_bl)) ts_nil) (ts_one (tr_ret (tr_and (tr_call C IH.o_0 V.g_0 V.d_0.kp (b_0 V) (tar_v (tr_var 5) (tar_v tr_int (tar_v (C_MOST_PENCE V) tar_nil)))) (tr_one (tr_call C IH.o_0 V.g_0 V.d_0.kp (b_0 V) (tar_v (tr_var 6) (tar_v (tr_var 5) (tar_v (C_MOST_PENCE V) tar_nil))))))))))))
theorem b_5 (V : EV K mg fd) : Binds K (fd 5) ["thing"] [] := V.d_5.bindsN fun _ _ _ _ _ _ us hl => match us, hl with | [_], _ => rfl
theorem sc_5 : FnScope ["thing", "rule"] ["thing"] (defScope (top 9)) := ⟨rfl, rfl, rfl, by decide +kernel, rfl, by decide +kernel, by decide +kernel⟩
theorem ok_5 (V : EV K mg fd) (IH : OKS P w K mg base fd k) : FnOk P w K mg base (L2.CX P w) (k + 1) (a_5 K) (fd 5) ["thing"] (spF (Gc K) 1 (runF 2 [] (mb_5 (callF k)))) :=
  fn_ok (P := P) (w := w) (G := Gc K) (mg := mg) (base := base) (k := k) (N := ["thing", "rule"]) (ps := ["thing"]) (m := mb_5 (callF k)) [] V.d_5 sc_5 (by rfl) fun cdv A outer s H E σ (C : Cok (cxF P w K mg base ["thing", "rule"] "is_book" (defScope (top 9)) (a_5 K) cdv A outer s H E) (pinG (Gc K) [] σ) _ k) =>
    (ts_one (tr_ret (tr_and (tr_isi .tuple C (tr_var 0) V.n_isinstance V.n_tuple (by rfl)) (tr_and (tr_LtE C (tr_b_len C V.n_len rfl (tra_cons (tr_var 0) tra_nil)) (C_MOST_RULES V)) (tr_one (tr_b_all C V.n_all rfl (tra_cons (tr_lc (own := [("rule", 1)]) C (ti_seq C (tr_var 0)) (blkOk_by (by rfl)) (fun _ _ _ _ _ => have ND := C.nd; (tg_nm 1 ND)) (fun _ _ _ _ _ C => tts_nil) (fun _ _ _ _ _ C => (tr_call C IH.o_4 V.g_4 V.d_4.kp (b_4 V) (tar_v (tr_var 1) tar_nil)))) tra_nil)))))))
theorem b_6 (V : EV K mg fd) : Binds K (fd 6) ["_law_script", "_law_k"] [] := V.d_6.bindsN fun _ _ _ _ _ _ us hl => match us, hl with | [_, _], _ => rfl
theorem sc_6 : FnScope ["_law_script", "_law_k", "_law_cell"] ["_law_script", "_law_k"] (defScope (top 11)) := ⟨rfl, rfl, rfl, by decide +kernel, rfl, by decide +kernel, by decide +kernel⟩
theorem ok_6 (V : EV K mg fd) (IH : OKS P w K mg base fd k) : FnOk P w K mg base (L2.CX P w) (k + 1) (a_6 K) (fd 6) ["_law_script", "_law_k"] (spF (Gc K) 2 (runF 3 [] (mb_6 (callF k)))) :=
  fn_ok (P := P) (w := w) (G := Gc K) (mg := mg) (base := base) (k := k) (N := ["_law_script", "_law_k", "_law_cell"]) (ps := ["_law_script", "_law_k"]) (m := mb_6 (callF k)) [] V.d_6 sc_6 (by rfl) fun cdv A outer s H E σ (C : Cok (cxF P w K mg base ["_law_script", "_law_k", "_law_cell"] "_law_draws" (defScope (top 11)) (a_6 K) cdv A outer s H E) (pinG (Gc K) [] σ) _ k) =>
    (ts_cons (tr_set 2 C (tr_fr (tr_Mult C tr_int (tr_var 1)))) (ts_cons (tr_ifS (tt_Lt C (tr_var 1) (tr_b_len C V.n_len rfl (tra_cons (tr_var 0) tra_nil))) (ts_one (tr_set 2 C (tr_Mod C (tr_Ix C (tr_var 0) (tr_var 1)) (tr_Mult C (tr_Pow C tr_int tr_int) (tr_Pow C tr_int tr_int))))) (ts_one (tr_ifS (tt_Gt C (tr_b_len C V.n_len rfl (tra_cons (tr_var 0) tra_nil)) tr_int) (ts_one (tr_set 2 C (tr_fr (tr_Add C (tr_Mod C (tr_Ix C (tr_var 0) (tr_Mod C (tr_var 1) (tr_b_len C V.n_len rfl (tra_cons (tr_var 0) tra_nil)))) (tr_Pow C tr_int tr_int)) (tr_Mult C tr_int (tr_var 1)))))) ts_nil))) (ts_one (tr_ret (tr_lst (tra_cons (tr_Mult C (tr_var 2) (tr_b_int C V.n_int rfl (tra_cons (tr_GtE C (tr_var 2) (tr_Pow C tr_int tr_int)) tra_nil))) (tra_cons (tr_Add C tr_int (tr_Mod C (tr_Add C (tr_Mult C (tr_var 2) tr_int) (tr_Mult C tr_int (tr_Add C (tr_var 1) tr_int))) tr_int)) tra_nil)))))))
theorem b_7 (V : EV K mg fd) : Binds K (fd 7) ["_law_draws_here", "_law_many"] [] := V.d_7.bindsN fun _ _ _ _ _ _ us hl => match us, hl with | [_, _], _ => rfl
theorem sc_7 : FnScope ["_law_draws_here", "_law_many", "_law_found", "_law_wide"] ["_law_draws_here", "_law_many"] (defScope (top 12)) := ⟨rfl, rfl, rfl, by decide +kernel, rfl, by decide +kernel, by decide +kernel⟩
theorem ok_7 (V : EV K mg fd) (IH : OKS P w K mg base fd k) : FnOk P w K mg base (L2.CX P w) (k + 1) (a_7 K) (fd 7) ["_law_draws_here", "_law_many"] (spF (Gc K) 2 (runF 4 [0] (mb_7 (callF k)))) :=
  fn_ok (P := P) (w := w) (G := Gc K) (mg := mg) (base := base) (k := k) (N := ["_law_draws_here", "_law_many", "_law_found", "_law_wide"]) (ps := ["_law_draws_here", "_law_many"]) (m := mb_7 (callF k)) [0] V.d_7 sc_7 (by rfl) fun cdv A outer s H E σ (C : Cok (cxF P w K mg base ["_law_draws_here", "_law_many", "_law_found", "_law_wide"] "_law_draw" (defScope (top 12)) (a_7 K) cdv A outer s H E) (pinG (Gc K) [0] σ) _ k) =>
    (ts_cons (tr_ifS (tt_Gt C (tr_ixO 0 tr_int) tr_int) (ts_cons (tr_set 2 C (tr_Mod C (tr_ixO 0 tr_int) (tr_var 1))) (ts_cons (tr_setIx 0 (tr_FloorDiv C (tr_ixO 0 tr_int) (tr_var 1)) tr_int) (ts_one (tr_ret (tr_var 2))))) ts_nil) (ts_cons (tr_set 2 C tr_int) (ts_cons (tr_set 3 C tr_int) (ts_cons (tr_while 64 C (tt_Lt C (tr_var 3) (tr_var 1)) (ts_cons (tr_setIx 0 (tr_Mod C (tr_Mult C (tr_ixO 0 tr_int) tr_int) tr_int) tr_int) (ts_cons (tr_set 2 C (tr_fr (tr_Add C (tr_Mult C (tr_var 2) tr_int) (tr_FloorDiv C (tr_Mod C (tr_Mult C (tr_ixO 0 tr_int) (tr_Add C (tr_FloorDiv C (tr_ixO 0 tr_int) tr_int) tr_int)) tr_int) tr_int)))) (ts_one (tr_set 3 C (tr_fr (tr_Mult C (tr_var 3) tr_int))))))) (ts_one (tr_ret (tr_Mod C (tr_var 2) (tr_var 1))))))))
theorem b_8 (V : EV K mg fd) : Binds K (fd 8) ["_law_draws_here", "_law_names_here", "_law_most"] [] := V.d_8.bindsN fun _ _ _ _ _ _ us hl => match us, hl with | [_, _, _], _ => rfl
theorem sc_8 : FnScope ["_law_draws_here", "_law_names_here", "_law_most", "_law_found", "_law_k"] ["_law_draws_here", "_law_names_here", "_law_most"] (defScope (top 13)) := ⟨rfl, rfl, rfl, by decide +kernel, rfl, by decide +kernel, by decide +kernel⟩
theorem ok_8 (V : EV K mg fd) (IH : OKS P w K mg base fd k) : FnOk P w K mg base (L2.CX P w) (k + 1) (a_8 K) (fd 8) ["_law_draws_here", "_law_names_here", "_law_most"] (spF (Gc K) 3 (runF 5 [0] (mb_8 (callF k)))) :=
  fn_ok (P := P) (w := w) (G := Gc K) (mg := mg) (base := base) (k := k) (N := ["_law_draws_here", "_law_names_here", "_law_most", "_law_found", "_law_k"]) (ps := ["_law_draws_here", "_law_names_here", "_law_most"]) (m := mb_8 (callF k)) [0] V.d_8 sc_8 (by rfl) fun cdv A outer s H E σ (C : Cok (cxF P w K mg base ["_law_draws_here", "_law_names_here", "_law_most", "_law_found", "_law_k"] "_law_some" (defScope (top 13)) (a_8 K) cdv A outer s H E) (pinG (Gc K) [0] σ) _ k) =>
    (ts_cons (tr_set 3 C tr_dnew) (ts_cons (tr_for C (ti_range1 (tr_call C IH.o_7 V.g_7 V.d_7.kp (b_7 V) (tar_b 0 (tar_v (tr_Add C (tr_var 2) tr_int) tar_nil))) V.n_range) (tg_nm 4 C.nd) (ts_one (tr_dput 3 C tr_bl (tr_Ix C (tr_var 1) (tr_call C IH.o_7 V.g_7 V.d_7.kp (b_7 V) (tar_b 0 (tar_v (tr_b_len C V.n_len rfl (tra_cons (tr_var 1) tra_nil)) tar_nil))))))) (ts_one (tr_ret (tr_b_tuple C V.n_tuple rfl (tra_cons (tr_b_sorted C V.n_sorted rfl (tra_cons (tr_peekL (W' := _) (tr_b_list C V.n_list rfl (tra_cons (tr_var 3) tra_nil))) tra_nil)) tra_nil))))))
theorem b_9 (V : EV K mg fd) : Binds K (fd 9) ["_law_draws_here", "_law_kinds", "_law_pupils", "_law_far"] [] := V.d_9.bindsN fun _ _ _ _ _ _ us hl => match us, hl with | [_, _, _, _], _ => rfl
theorem sc_9 : FnScope ["_law_draws_here", "_law_kinds", "_law_pupils", "_law_far", "_law_low", "_law_high", "_law_days", "_law_word"] ["_law_draws_here", "_law_kinds", "_law_pupils", "_law_far"] (defScope (top 14)) := ⟨rfl, rfl, rfl, by decide +kernel, rfl, by decide +kernel, by decide +kernel⟩
theorem ok_9 (V : EV K mg fd) (IH : OKS P w K mg base fd k) : FnOk P w K mg base (L2.CX P w) (k + 1) (a_9 K) (fd 9) ["_law_draws_here", "_law_kinds", "_law_pupils", "_law_far"] (spF (Gc K) 4 (runF 8 [0] (mb_9 (callF k)))) :=
  fn_ok (P := P) (w := w) (G := Gc K) (mg := mg) (base := base) (k := k) (N := ["_law_draws_here", "_law_kinds", "_law_pupils", "_law_far", "_law_low", "_law_high", "_law_days", "_law_word"]) (ps := ["_law_draws_here", "_law_kinds", "_law_pupils", "_law_far"]) (m := mb_9 (callF k)) [0] V.d_9 sc_9 (by rfl) fun cdv A outer s H E σ (C : Cok (cxF P w K mg base ["_law_draws_here", "_law_kinds", "_law_pupils", "_law_far", "_law_low", "_law_high", "_law_days", "_law_word"] "_law_rule" (defScope (top 14)) (a_9 K) cdv A outer s H E) (pinG (Gc K) [0] σ) _ k) =>
    (ts_cons (tr_set 4 C (tr_fr (tr_Add C tr_int (tr_Ix C (tr_lst (tra_cons tr_int (tra_cons (tr_call C IH.o_7 V.g_7 V.d_7.kp (b_7 V) (tar_b 0 (tar_v tr_int tar_nil))) (tra_cons (tr_call C IH.o_7 V.g_7 V.d_7.kp (b_7 V) (tar_b 0 (tar_v (tr_var 3) tar_nil))) tra_nil)))) (tr_call C IH.o_7 V.g_7 V.d_7.kp (b_7 V) (tar_b 0 (tar_v tr_int tar_nil))))))) (ts_cons (tr_set 5 C (tr_b_min C V.n_min rfl (tra_cons (tr_Pow C tr_int tr_int) (tra_cons (tr_Add C (tr_var 4) (tr_Ix C (tr_lst (tra_cons tr_int (tra_cons (tr_call C IH.o_7 V.g_7 V.d_7.kp (b_7 V) (tar_b 0 (tar_v tr_int tar_nil))) (tra_cons (tr_call C IH.o_7 V.g_7 V.d_7.kp (b_7 V) (tar_b 0 (tar_v (tr_var 3) tar_nil))) (tra_cons (tr_Pow C tr_int tr_int) tra_nil))))) (tr_call C IH.o_7 V.g_7 V.d_7.kp (b_7 V) (tar_b 0 (tar_v tr_int tar_nil))))) tra_nil)))) (ts_cons (tr_set 6 C (tr_call C IH.o_8 V.g_8 V.d_8.kp (b_8 V) (tar_b 0 (tar_v (tr_listRg1 C tr_int V.n_list V.n_range) (tar_v (tr_Ix C (tr_lst (tra_cons tr_int (tra_cons tr_int (tra_cons tr_int tra_nil)))) (tr_call C IH.o_7 V.g_7 V.d_7.kp (b_7 V) (tar_b 0 (tar_v tr_int tar_nil)))) tar_nil))))) (ts_cons (tr_set 7 C (tr_Ix C (tr_lst (tra_cons (tr_str [98, 97, 114]) (tra_cons (tr_str [108, 101, 116]) tra_nil))) (tr_FloorDiv C (tr_call C IH.o_7 V.g_7 V.d_7.kp (b_7 V) (tar_b 0 (tar_v tr_int tar_nil))) tr_int))) (ts_one (tr_ret (tr_tup (tra_cons (tr_var 7) (tra_cons (tr_call C IH.o_8 V.g_8 V.d_8.kp (b_8 V) (tar_b 0 (tar_v (tr_var 1) (tar_v tr_int tar_nil)))) (tra_cons (tr_call C IH.o_8 V.g_8 V.d_8.kp (b_8 V) (tar_b 0 (tar_v (tr_var 2) (tar_v tr_int tar_nil)))) (tra_cons (tr_var 6) (tra_cons (tr_var 4) (tra_cons (tr_var 5) tra_nil)))))))))))))
theorem b_10 (V : EV K mg fd) : Binds K (fd 10) ["_law_draws_here", "_law_kinds", "_law_pupils"] [] := V.d_10.bindsN fun _ _ _ _ _ _ us hl => match us, hl with | [_, _, _], _ => rfl
theorem sc_10 : FnScope ["_law_draws_here", "_law_kinds", "_law_pupils", "_law_far", "_law_k"] ["_law_draws_here", "_law_kinds", "_law_pupils"] (defScope (top 15)) := ⟨rfl, rfl, rfl, by decide +kernel, rfl, by decide +kernel, by decide +kernel⟩
theorem ok_10 (V : EV K mg fd) (IH : OKS P w K mg base fd k) : FnOk P w K mg base (L2.CX P w) (k + 1) (a_10 K) (fd 10) ["_law_draws_here", "_law_kinds", "_law_pupils"] (spF (Gc K) 3 (runF 5 [0] (mb_10 (callF k)))) :=
  fn_ok (P := P) (w := w) (G := Gc K) (mg := mg) (base := base) (k := k) (N := ["_law_draws_here", "_law_kinds", "_law_pupils", "_law_far", "_law_k"]) (ps := ["_law_draws_here", "_law_kinds", "_law_pupils"]) (m := mb_10 (callF k)) [0] V.d_10 sc_10 (by rfl) fun cdv A outer s H E σ (C : Cok (cxF P w K mg base ["_law_draws_here", "_law_kinds", "_law_pupils", "_law_far", "_law_k"] "_law_book" (defScope (top 15)) (a_10 K) cdv A outer s H E) (pinG (Gc K) [0] σ) _ k) =>
    (ts_cons (tr_set 3 C (tr_Ix C (tr_lst (tra_cons tr_int (tra_cons (tr_Pow C tr_int tr_int) tra_nil))) (tr_FloorDiv C (tr_call C IH.o_7 V.g_7 V.d_7.kp (b_7 V) (tar_b 0 (tar_v tr_int tar_nil))) tr_int))) (ts_one (tr_ret (tr_b_tuple C V.n_tuple rfl (tra_cons (tr_lc (own := [("_law_k", 4)]) C (ti_range1 (tr_call C IH.o_7 V.g_7 V.d_7.kp (b_7 V) (tar_b 0 (tar_v tr_int tar_nil))) V.n_range) (blkOk_by (by rfl)) (fun _ _ _ _ _ => have ND := C.nd; (tg_nm 4 ND)) (fun _ _ _ _ _ C => tts_nil) (fun _ _ _ _ _ C => (tr_call C IH.o_9 V.g_9 V.d_9.kp (b_9 V) (tar_b 0 (tar_v (tr_var 1) (tar_v (tr_var 2) (tar_v (tr_var 3) tar_nil))))))) tra_nil)))))
theorem b_11 (V : EV K mg fd) : Binds K (fd 11) ["_law_draws_here", "_law_many"] [] := V.d_11.bindsN fun _ _ _ _ _ _ us hl => match us, hl with | [_, _], _ => rfl
theorem sc_11 : FnScope ["_law_draws_here", "_law_many", "_law_letters", "_law_stem", "_law_first", "_law_step", "_law_k"] ["_law_draws_here", "_law_many"] (defScope (top 16)) := ⟨rfl, rfl, rfl, by decide +kernel, rfl, by decide +kernel, by decide +kernel⟩
theorem ok_11 (V : EV K mg fd) (IH : OKS P w K mg base fd k) : FnOk P w K mg base (L2.CX P w) (k + 1) (a_11 K) (fd 11) ["_law_draws_here", "_law_many"] (spF (Gc K) 2 (runF 7 [0] (mb_11 (callF k)))) :=
  fn_ok (P := P) (w := w) (G := Gc K) (mg := mg) (base := base) (k := k) (N := ["_law_draws_here", "_law_many", "_law_letters", "_law_stem", "_law_first", "_law_step", "_law_k"]) (ps := ["_law_draws_here", "_law_many"]) (m := mb_11 (callF k)) [0] V.d_11 sc_11 (by rfl) fun cdv A outer s H E σ (C : Cok (cxF P w K mg base ["_law_draws_here", "_law_many", "_law_letters", "_law_stem", "_law_first", "_law_step", "_law_k"] "_law_names" (defScope (top 16)) (a_11 K) cdv A outer s H E) (pinG (Gc K) [0] σ) _ k) =>
    (ts_cons (tr_set 2 C (tr_str [97, 98, 99, 100, 101, 102, 103, 104, 105, 106, 107, 108, 109, 110, 111, 112, 113, 114, 115, 116, 117, 118, 119, 120, 121, 122])) (ts_cons (tr_set 3 C (tr_join (tr_str []) (tr_lc (own := [("_law_k", 6)]) C (ti_range1 (tr_Ix C (tr_lst (tra_cons tr_int (tra_cons tr_int (tra_cons tr_int (tra_cons tr_int tra_nil))))) (tr_call C IH.o_7 V.g_7 V.d_7.kp (b_7 V) (tar_b 0 (tar_v tr_int tar_nil)))) V.n_range) (blkOk_by (by rfl)) (fun _ _ _ _ _ => have ND := C.nd; (tg_nm 6 ND)) (fun _ _ _ _ _ C => tts_nil) (fun _ _ _ _ _ C => (tr_Ix C (tr_var 2) (tr_call C IH.o_7 V.g_7 V.d_7.kp (b_7 V) (tar_b 0 (tar_v tr_int tar_nil)))))))) (ts_cons (tr_set 4 C (tr_call C IH.o_7 V.g_7 V.d_7.kp (b_7 V) (tar_b 0 (tar_v tr_int tar_nil)))) (ts_cons (tr_set 5 C (tr_Ix C (tr_lst (tra_cons tr_int (tra_cons tr_int (tra_cons tr_int (tra_cons tr_int tra_nil))))) (tr_call C IH.o_7 V.g_7 V.d_7.kp (b_7 V) (tar_b 0 (tar_v tr_int tar_nil))))) (ts_one (tr_ret (tr_fr (tr_b_sorted C V.n_sorted rfl (tra_cons (tr_lc (own := [("_law_k", 6)]) C (ti_range1 (tr_var 1) V.n_range) (blkOk_by (by rfl)) (fun _ _ _ _ _ => have ND := C.nd; (tg_nm 6 ND)) (fun _ _ _ _ _ C => tts_nil) (fun _ _ _ _ _ C => (tr_Add C (tr_var 3) (tr_Ix C (tr_var 2) (tr_Mod C (tr_Add C (tr_var 4) (tr_Mult C (tr_var 5) (tr_var 6))) tr_int))))) tra_nil)))))))))
theorem b_12 (V : EV K mg fd) : Binds K (fd 12) ["_law_draws_here", "_law_deep"] [] := V.d_12.bindsN fun _ _ _ _ _ _ us hl => match us, hl with | [_, _], _ => rfl
theorem sc_12 : FnScope ["_law_draws_here", "_law_deep", "_law_way", "_law_parts", "_law_some_here", "_law_k"] ["_law_draws_here", "_law_deep"] (defScope (top 17)) := ⟨rfl, rfl, rfl, by decide +kernel, rfl, by decide +kernel, by decide +kernel⟩
theorem ok_12 (V : EV K mg fd) (IH : OKS P w K mg base fd k) : FnOk P w K mg base (L2.CX P w) (k + 1) (a_12 K) (fd 12) ["_law_draws_here", "_law_deep"] (spF (Gc K) 2 (runF 6 [0] (mb_12 (callF k)))) :=
  fn_ok (P := P) (w := w) (G := Gc K) (mg := mg) (base := base) (k := k) (N := ["_law_draws_here", "_law_deep", "_law_way", "_law_parts", "_law_some_here", "_law_k"]) (ps := ["_law_draws_here", "_law_deep"]) (m := mb_12 (callF k)) [0] V.d_12 sc_12 (by rfl) fun cdv A outer s H E σ (C : Cok (cxF P w K mg base ["_law_draws_here", "_law_deep", "_law_way", "_law_parts", "_law_some_here", "_law_k"] "_law_thing" (defScope (top 17)) (a_12 K) cdv A outer s H E) (pinG (Gc K) [0] σ) _ k) =>
    (ts_cons (tr_set 2 C (tr_call C IH.o_7 V.g_7 V.d_7.kp (b_7 V) (tar_b 0 (tar_v tr_int tar_nil)))) (ts_cons (tr_ifS (tt_w (tw_or (tt_Lt C (tr_var 2) tr_int) (tw_or1 (tt_Eq C (tr_var 1) tr_int)))) (ts_cons (tr_set 4 C (tr_fr (tr_lst (tra_cons tr_int (tra_cons tr_int (tra_cons (tr_neg C tr_int) (tra_cons tr_int (tra_cons tr_int (tra_cons tr_bl (tra_cons tr_bl (tra_cons tr_non (tra_cons (tr_str []) (tra_cons (tr_str [97]) (tra_cons (tr_str [97, 98]) (tra_cons (tr_str [65]) (tra_cons (tr_str [97, 98, 99, 100, 101, 102, 103, 104, 105]) (tra_cons (tr_str [108, 101, 116]) (tra_cons (tr_str [98, 111, 117, 103, 104, 116]) (tra_cons (tr_str [119, 114, 111, 110, 103]) (tra_cons (tr_str [103, 105, 118, 101, 110]) tra_nil)))))))))))))))))))) (ts_one (tr_ret (tr_Ix C (tr_Add C (tr_var 4) (tr_lst (tra_cons (tr_Pow C tr_int tr_int) (tra_cons (tr_Add C (tr_Pow C tr_int tr_int) tr_int) (tra_cons (tr_tup tra_nil) (tra_cons (tr_lst tra_nil) tra_nil)))))) (tr_call C IH.o_7 V.g_7 V.d_7.kp (b_7 V) (tar_b 0 (tar_v tr_int tar_nil))))))) ts_nil) (ts_cons (tr_setLc 3 (own := [("_law_k", 5)]) C (ti_range1 (tr_call C IH.o_7 V.g_7 V.d_7.kp (b_7 V) (tar_b 0 (tar_v tr_int tar_nil))) V.n_range) (blkOk_by (by rfl)) (fun _ _ _ _ _ => have ND := C.nd; (tg_nm 5 ND)) (fun _ _ _ _ _ C => tts_nil) (fun _ _ _ _ _ C => (tr_call C IH.o_12 V.g_12 V.d_12.kp (b_12 V) (tar_b 0 (tar_v (tr_Sub C (tr_var 1) tr_int) tar_nil)))) (by rfl)) (ts_one (tr_ret (tr_Ix C (tr_lst (tra_cons (tr_fzV 3) (tra_cons (tr_b_tuple C V.n_tuple rfl (tra_cons (tr_fzV 3) tra_nil)) (tra_cons (tr_b_tuple C V.n_tuple rfl (tra_cons (tr_fzV 3) tra_nil)) tra_nil)))) (tr_Sub C (tr_var 2) tr_int)))))))
theorem b_13 (V : EV K mg fd) : Binds K (fd 13) ["_law_draws_here", "_law_thing_here", "_law_deep"] [] := V.d_13.bindsN fun _ _ _ _ _ _ us hl => match us, hl with | [_, _, _], _ => rfl
theorem sc_13 : FnScope ["_law_draws_here", "_law_thing_here", "_law_deep", "_law_parts", "_law_at", "_law_way"] ["_law_draws_here", "_law_thing_here", "_law_deep"] (defScope (top 18)) := ⟨rfl, rfl, rfl, by decide +kernel, rfl, by decide +kernel, by decide +kernel⟩
theorem ok_13 (V : EV K mg fd) (IH : OKS P w K mg base fd k) : FnOk P w K mg base (L2.CX P w) (k + 1) (a_13 K) (fd 13) ["_law_draws_here", "_law_thing_here", "_law_deep"] (spF (Gc K) 3 (runF 6 [0] (mb_13 (callF k)))) :=
  fn_ok (P := P) (w := w) (G := Gc K) (mg := mg) (base := base) (k := k) (N := ["_law_draws_here", "_law_thing_here", "_law_deep", "_law_parts", "_law_at", "_law_way"]) (ps := ["_law_draws_here", "_law_thing_here", "_law_deep"]) (m := mb_13 (callF k)) [0] V.d_13 sc_13 (by rfl) fun cdv A outer s H E σ (C : Cok (cxF P w K mg base ["_law_draws_here", "_law_thing_here", "_law_deep", "_law_parts", "_law_at", "_law_way"] "_law_otherwise" (defScope (top 18)) (a_13 K) cdv A outer s H E) (pinG (Gc K) [0] σ) _ k) =>
    (ts_cons (tr_set 3 C (tr_b_list C V.n_list rfl (tra_cons (tr_var 1) tra_nil))) (ts_cons (tr_ifS (tt_peek (W' := _) (tt_Eq C (tr_var 3) (tr_lst tra_nil))) (ts_one (tr_ret (tr_tup (tra_cons (tr_call C IH.o_12 V.g_12 V.d_12.kp (b_12 V) (tar_b 0 (tar_v tr_int tar_nil))) tra_nil)))) ts_nil) (ts_cons (tr_set 4 C (tr_call C IH.o_7 V.g_7 V.d_7.kp (b_7 V) (tar_b 0 (tar_v (tr_peek (W' := _) (tr_b_len C V.n_len rfl (tra_cons (tr_var 3) tra_nil))) tar_nil)))) (ts_cons (tr_ifS (tt_w (tw_and (tt_val (tr_isi .tuple C (tr_ixO 3 (tr_var 4)) V.n_isinstance V.n_tuple (by rfl))) (tw_and (tt_Gt C (tr_var 2) tr_int) (tw_and1 (tt_Gt C (tr_call C IH.o_7 V.g_7 V.d_7.kp (b_7 V) (tar_b 0 (tar_v tr_int tar_nil))) tr_int))))) (ts_cons (tr_setIx 3 (tr_call C IH.o_13 V.g_13 V.d_13.kp (b_13 V) (tar_b 0 (tar_v (tr_ixO 3 (tr_var 4)) (tar_v (tr_Sub C (tr_var 2) tr_int) tar_nil)))) (tr_var 4)) (ts_one (tr_ret (tr_b_tuple C V.n_tuple rfl (tra_cons (tr_fzV 3) tra_nil))))) ts_nil) (ts_cons (tr_set 5 C (tr_call C IH.o_7 V.g_7 V.d_7.kp (b_7 V) (tar_b 0 (tar_v tr_int tar_nil)))) (ts_cons (tr_ifS (tt_Eq C (tr_var 5) tr_int) (ts_one (tr_drop (tr_popAt 3 (tr_var 4)))) (ts_one (tr_ifS (tt_Eq C (tr_var 5) tr_int) (ts_one (tr_drop (tr_insert 3 (tr_var 4) (tr_ixO 3 (tr_var 4))))) (ts_one (tr_ifS (tt_Eq C (tr_var 5) tr_int) (ts_one (tr_setSl 3 (tr_rev (tr_slO 3 (to_some (tr_var 4)) (to_some (tr_Add C (tr_var 4) tr_int)))) (tr_var 4) (tr_Add C (tr_var 4) tr_int))) (ts_one (tr_ifS (tt_Eq C (tr_var 5) tr_int) (ts_one (tr_setIx 3 (tr_call C IH.o_12 V.g_12 V.d_12.kp (b_12 V) (tar_b 0 (tar_v tr_int tar_nil))) (tr_var 4))) (ts_one (tr_ifS (tt_Eq C (tr_var 5) tr_int) (ts_one (tr_setIx 3 (tr_Ix C (tr_lst (tra_cons tr_int (tra_cons tr_int (tra_cons (tr_neg C tr_int) (tra_cons tr_int (tra_cons tr_int (tra_cons (tr_Pow C tr_int tr_int) (tra_cons (tr_Add C (tr_Pow C tr_int tr_int) tr_int) (tra_cons tr_non (tra_cons tr_bl (tra_cons tr_int tra_nil))))))))))) (tr_call C IH.o_7 V.g_7 V.d_7.kp (b_7 V) (tar_b 0 (tar_v tr_int tar_nil)))) (tr_var 4))) (ts_one (tr_ifS (tt_w (tw_and (tt_Eq C (tr_var 5) tr_int) (tw_and1 (tt_val (tr_isi .tuple C (tr_ixO 3 (tr_var 4)) V.n_isinstance V.n_tuple (by rfl)))))) (ts_one (tr_setIx 3 (tr_b_list C V.n_list rfl (tra_cons (tr_ixO 3 (tr_var 4)) tra_nil)) (tr_var 4))) (ts_one (tr_ifS (tt_w (tw_and (tt_Eq C (tr_var 5) tr_int) (tw_and1 (tt_val (tr_isi .str C (tr_ixO 3 (tr_var 4)) V.n_isinstance V.n_str (by rfl)))))) (ts_one (tr_setIx 3 (tr_Add C (tr_ixO 3 (tr_var 4)) (tr_Ix C (tr_lst (tra_cons (tr_str [97]) (tra_cons (tr_str [65]) (tra_cons (tr_str [32]) (tra_cons (tr_str [98, 98, 98, 98, 98, 98, 98, 98]) tra_nil))))) (tr_call C IH.o_7 V.g_7 V.d_7.kp (b_7 V) (tar_b 0 (tar_v tr_int tar_nil))))) (tr_var 4))) (ts_one (tr_ret (tr_fzV 3)))))))))))))))) (ts_one (tr_ret (tr_b_tuple C V.n_tuple rfl (tra_cons (tr_fzV 3) tra_nil))))))))))
theorem b_14 (V : EV K mg fd) : Binds K (fd 14) ["_law_thing_here"] [] := V.d_14.bindsN fun _ _ _ _ _ _ us hl => match us, hl with | [_], _ => rfl
theorem sc_14 : FnScope ["_law_thing_here", "_law_sign"] ["_law_thing_here"] (defScope (top 19)) := ⟨rfl, rfl, rfl, by decide +kernel, rfl, by decide +kernel, by decide +kernel⟩
theorem ok_14 (V : EV K mg fd) (IH : OKS P w K mg base fd k) : FnOk P w K mg base (L2.CX P w) (k + 1) (a_14 K) (fd 14) ["_law_thing_here"] (spF (Gc K) 1 (runF 2 [] (mb_14 (callF k)))) :=
  fn_ok (P := P) (w := w) (G := Gc K) (mg := mg) (base := base) (k := k) (N := ["_law_thing_here", "_law_sign"]) (ps := ["_law_thing_here"]) (m := mb_14 (callF k)) [] V.d_14 sc_14 (by rfl) fun cdv A outer s H E σ (C : Cok (cxF P w K mg base ["_law_thing_here", "_law_sign"] "_law_is_name" (defScope (top 19)) (a_14 K) cdv A outer s H E) (pinG (Gc K) [] σ) _ k) =>
    (ts_cons (tr_ifS (tt_w (tw_or (tt_not (tt_val (tr_isi .str C (tr_var 0) V.n_isinstance V.n_str (by rfl)))) (tw_or (tt_Lt C (tr_b_len C V.n_len rfl (tra_cons (tr_var 0) tra_nil)) tr_int) (tw_or1 (tt_Gt C (tr_b_len C V.n_len rfl (tra_cons (tr_var 0) tra_nil)) tr_int))))) (ts_one (tr_ret tr_bl)) ts_nil) (ts_one (tr_ret (tr_Eq C (tr_lc (own := [("_law_sign", 1)]) C (ti_str (tr_var 0)) (blkOk_by (by rfl)) (fun _ _ _ _ _ => have ND := C.nd; (tg_nm 1 ND)) (fun _ _ _ _ _ C => (tts_one (tt_NotIn C (tr_var 1) (tr_str [97, 98, 99, 100, 101, 102, 103, 104, 105, 106, 107, 108, 109, 110, 111, 112, 113, 114, 115, 116, 117, 118, 119, 120, 121, 122])))) (fun _ _ _ _ _ C => (tr_var 1))) (tr_lst tra_nil)))))
theorem b_15 (V : EV K mg fd) : Binds K (fd 15) ["_law_thing_here", "_law_few", "_law_many"] [] := V.d_15.bindsN fun _ _ _ _ _ _ us hl => match us, hl with | [_, _, _], _ => rfl
theorem sc_15 : FnScope ["_law_thing_here", "_law_few", "_law_many", "_law_k"] ["_law_thing_here", "_law_few", "_law_many"] (defScope (top 20)) := ⟨rfl, rfl, rfl, by decide +kernel, rfl, by decide +kernel, by decide +kernel⟩
theorem ok_15 (V : EV K mg fd) (IH : OKS P w K mg base fd k) : FnOk P w K mg base (L2.CX P w) (k + 1) (a_15 K) (fd 15) ["_law_thing_here", "_law_few", "_law_many"] (spF (Gc K) 3 (runF 4 [] (mb_15 (callF k)))) :=
  fn_ok (P := P) (w := w) (G := Gc K) (mg := mg) (base := base) (k := k) (N := ["_law_thing_here", "_law_few", "_law_many", "_law_k"]) (ps := ["_law_thing_here", "_law_few", "_law_many"]) (m := mb_15 (callF k)) [] V.d_15 sc_15 (by rfl) fun cdv A outer s H E σ (C : Cok (cxF P w K mg base ["_law_thing_here", "_law_few", "_law_many", "_law_k"] "_law_are_rising" (defScope (top 20)) (a_15 K) cdv A outer s H E) (pinG (Gc K) [] σ) _ k) =>
    (ts_cons (tr_ifS (tt_w (tw_or (tt_not (tt_val (tr_isi .tuple C (tr_var 0) V.n_isinstance V.n_tuple (by rfl)))) (tw_or (tt_Lt C (tr_b_len C V.n_len rfl (tra_cons (tr_var 0) tra_nil)) (tr_var 1)) (tw_or1 (tt_Gt C (tr_b_len C V.n_len rfl (tra_cons (tr_var 0) tra_nil)) (tr_var 2)))))) (ts_one (tr_ret tr_bl)) ts_nil) (ts_one (tr_ret (tr_Eq C (tr_lc (own := [("_law_k", 3)]) C (ti_range2 tr_int (tr_b_len C V.n_len rfl (tra_cons (tr_var 0) tra_nil)) V.n_range) (blkOk_by (by rfl)) (fun _ _ _ _ _ => have ND := C.nd; (tg_nm 3 ND)) (fun _ _ _ _ _ C => (tts_one (tt_GtE C (tr_Ix C (tr_var 0) (tr_Sub C (tr_var 3) tr_int)) (tr_Ix C (tr_var 0) (tr_var 3))))) (fun _ _ _ _ _ C => (tr_var 3))) (tr_lst tra_nil)))))
theorem b_16 (V : EV K mg fd) : Binds K (fd 16) ["_law_thing_here", "_law_few", "_law_many"] [] := V.d_16.bindsN fun _ _ _ _ _ _ us hl => match us, hl with | [_, _, _], _ => rfl
theorem sc_16 : FnScope ["_law_thing_here", "_law_few", "_law_many", "_law_name"] ["_law_thing_here", "_law_few", "_law_many"] (defScope (top 21)) := ⟨rfl, rfl, rfl, by decide +kernel, rfl, by decide +kernel, by decide +kernel⟩
theorem ok_16 (V : EV K mg fd) (IH : OKS P w K mg base fd k) : FnOk P w K mg base (L2.CX P w) (k + 1) (a_16 K) (fd 16) ["_law_thing_here", "_law_few", "_law_many"] (spF (Gc K) 3 (runF 4 [] (mb_16 (callF k)))) :=
  fn_ok (P := P) (w := w) (G := Gc K) (mg := mg) (base := base) (k := k) (N := ["_law_thing_here", "_law_few", "_law_many", "_law_name"]) (ps := ["_law_thing_here", "_law_few", "_law_many"]) (m := mb_16 (callF k)) [] V.d_16 sc_16 (by rfl) fun cdv A outer s H E σ (C : Cok (cxF P w K mg base ["_law_thing_here", "_law_few", "_law_many", "_law_name"] "_law_are_names" (defScope (top 21)) (a_16 K) cdv A outer s H E) (pinG (Gc K) [] σ) _ k) =>
    (ts_cons (tr_ifS (tt_w (tw_or (tt_not (tt_val (tr_isi .tuple C (tr_var 0) V.n_isinstance V.n_tuple (by rfl)))) (tw_or1 (tt_NotEq C (tr_lc (own := [("_law_name", 3)]) C (ti_seq C (tr_var 0)) (blkOk_by (by rfl)) (fun _ _ _ _ _ => have ND := C.nd; (tg_nm 3 ND)) (fun _ _ _ _ _ C => (tts_one (tt_not (tt_val (tr_call C IH.o_14 V.g_14 V.d_14.kp (b_14 V) (tar_v (tr_var 3) tar_nil)))))) (fun _ _ _ _ _ C => (tr_var 3))) (tr_lst tra_nil))))) (ts_one (tr_ret tr_bl)) ts_nil) (ts_one (tr_ret (tr_call C IH.o_15 V.g_15 V.d_15.kp (b_15 V) (tar_v (tr_var 0) (tar_v (tr_var 1) (tar_v (tr_var 2) tar_nil)))))))
theorem b_17 (V : EV K mg fd) : Binds K (fd 17) ["_law_thing_here", "_law_low", "_law_high"] [] := V.d_17.bindsN fun _ _ _ _ _ _ us hl => match us, hl with | [_, _, _], _ => rfl
theorem sc_17 : FnScope ["_law_thing_here", "_law_low", "_law_high"] ["_law_thing_here", "_law_low", "_law_high"] (defScope (top 22)) := ⟨rfl, rfl, rfl, by decide +kernel, rfl, by decide +kernel, by decide +kernel⟩
theorem ok_17 (V : EV K mg fd) (IH : OKS P w K mg base fd k) : FnOk P w K mg base (L2.CX P w) (k + 1) (a_17 K) (fd 17) ["_law_thing_here", "_law_low", "_law_high"] (spF (Gc K) 3 (runF 3 [] (mb_17 (callF k)))) :=
  fn_ok (P := P) (w := w) (G := Gc K) (mg := mg) (base := base) (k := k) (N := ["_law_thing_here", "_law_low", "_law_high"]) (ps := ["_law_thing_here", "_law_low", "_law_high"]) (m := mb_17 (callF k)) [] V.d_17 sc_17 (by rfl) fun cdv A outer s H E σ (C : Cok (cxF P w K mg base ["_law_thing_here", "_law_low", "_law_high"] "_law_within" (defScope (top 22)) (a_17 K) cdv A outer s H E) (pinG (Gc K) [] σ) _ k) =>
    (ts_one (tr_ret (tr_and (tr_isi .int C (tr_var 0) V.n_isinstance V.n_int (by rfl)) (tr_and (tr_not (tr_isi .bool C (tr_var 0) V.n_isinstance V.n_bool (by rfl))) (tr_and (tr_LtE C (tr_var 1) (tr_var 0)) (tr_one (tr_LtE C (tr_var 0) (tr_var 2))))))))
theorem b_18 (V : EV K mg fd) : Binds K (fd 18) ["_law_thing_here"] [] := V.d_18.bindsN fun _ _ _ _ _ _ us hl => match us, hl with | [_], _ => rfl
theorem sc_18 : FnScope ["_law_thing_here", "_law_day"] ["_law_thing_here"] (defScope (top 23)) := ⟨rfl, rfl, rfl, by decide +kernel, rfl, by decide +kernel, by decide +kernel⟩
theorem ok_18 (V : EV K mg fd) (IH : OKS P w K mg base fd k) : FnOk P w K mg base (L2.CX P w) (k + 1) (a_18 K) (fd 18) ["_law_thing_here"] (spF (Gc K) 1 (runF 2 [] (mb_18 (callF k)))) :=
  fn_ok (P := P) (w := w) (G := Gc K) (mg := mg) (base := base) (k := k) (N := ["_law_thing_here", "_law_day"]) (ps := ["_law_thing_here"]) (m := mb_18 (callF k)) [] V.d_18 sc_18 (by rfl) fun cdv A outer s H E σ (C : Cok (cxF P w K mg base ["_law_thing_here", "_law_day"] "_law_is_rule" (defScope (top 23)) (a_18 K) cdv A outer s H E) (pinG (Gc K) [] σ) _ k) =>
    (ts_cons (tr_ifS (tt_w (tw_or (tt_not (tt_val (tr_isi .tuple C (tr_var 0) V.n_isinstance V.n_tuple (by rfl)))) (tw_or (tt_NotEq C (tr_b_len C V.n_len rfl (tra_cons (tr_var 0) tra_nil)) tr_int) (tw_or1 (tt_not (tt_val (tr_isi .str C (tr_Ix C (tr_var 0) tr_int) V.n_isinstance V.n_str (by rfl)))))))) (ts_one (tr_ret tr_bl)) ts_nil) (ts_cons (tr_ifS (tt_NotIn C (tr_Ix C (tr_var 0) tr_int) (tr_tup (tra_cons (tr_str [108, 101, 116]) (tra_cons (tr_str [98, 97, 114]) tra_nil)))) (ts_one (tr_ret tr_bl)) ts_nil) (ts_cons (tr_ifS (tt_w (tw_or (tt_not (tt_val (tr_call C IH.o_16 V.g_16 V.d_16.kp (b_16 V) (tar_v (tr_Ix C (tr_var 0) tr_int) (tar_v tr_int (tar_v tr_int tar_nil)))))) (tw_or (tt_not (tt_val (tr_call C IH.o_16 V.g_16 V.d_16.kp (b_16 V) (tar_v (tr_Ix C (tr_var 0) tr_int) (tar_v tr_int (tar_v tr_int tar_nil)))))) (tw_or1 (tt_not (tt_val (tr_isi .tuple C (tr_Ix C (tr_var 0) tr_int) V.n_isinstance V.n_tuple (by rfl)))))))) (ts_one (tr_ret tr_bl)) ts_nil) (ts_cons (tr_ifS (tt_w (tw_or (tt_NotEq C (tr_lc (own := [("_law_day", 1)]) C (ti_seq C (tr_Ix C (tr_var 0) tr_int)) (blkOk_by (by rfl)) (fun _ _ _ _ _ => have ND := C.nd; (tg_nm 1 ND)) (fun _ _ _ _ _ C => (tts_one (tt_not (tt_val (tr_call C IH.o_17 V.g_17 V.d_17.kp (b_17 V) (tar_v (tr_var 1) (tar_v tr_int (tar_v tr_int tar_nil)))))))) (fun _ _ _ _ _ C => (tr_var 1))) (tr_lst tra_nil)) (tw_or1 (tt_not (tt_val (tr_call C IH.o_15 V.g_15 V.d_15.kp (b_15 V) (tar_v (tr_Ix C (tr_var 0) tr_int) (tar_v tr_int (tar_v tr_int tar_nil))))))))) (ts_one (tr_ret tr_bl)) ts_nil) (ts_one (tr_ret (tr_and (tr_call C IH.o_17 V.g_17 V.d_17.kp (b_17 V) (tar_v (tr_Ix C (tr_var 0) tr_int) (tar_v tr_int (tar_v (tr_Pow C tr_int tr_int) tar_nil)))) (tr_one (tr_call C IH.o_17 V.g_17 V.d_17.kp (b_17 V) (tar_v (tr_Ix C (tr_var 0) tr_int) (tar_v (tr_Ix C (tr_var 0) tr_int) (tar_v (tr_Pow C tr_int tr_int) tar_nil))))))))))))
theorem b_19 (V : EV K mg fd) : Binds K (fd 19) ["_law_thing_here"] [] := V.d_19.bindsN fun _ _ _ _ _ _ us hl => match us, hl with | [_], _ => rfl
theorem sc_19 : FnScope ["_law_thing_here", "_law_rule_here"] ["_law_thing_here"] (defScope (top 24)) := ⟨rfl, rfl, rfl, by decide +kernel, rfl, by decide +kernel, by decide +kernel⟩
theorem ok_19 (V : EV K mg fd) (IH : OKS P w K mg base fd k) : FnOk P w K mg base (L2.CX P w) (k + 1) (a_19 K) (fd 19) ["_law_thing_here"] (spF (Gc K) 1 (runF 2 [] (mb_19 (callF k)))) :=
  fn_ok (P := P) (w := w) (G := Gc K) (mg := mg) (base := base) (k := k) (N := ["_law_thing_here", "_law_rule_here"]) (ps := ["_law_thing_here"]) (m := mb_19 (callF k)) [] V.d_19 sc_19 (by rfl) fun cdv A outer s H E σ (C : Cok (cxF P w K mg base ["_law_thing_here", "_law_rule_here"] "_law_is_book" (defScope (top 24)) (a_19 K) cdv A outer s H E) (pinG (Gc K) [] σ) _ k) =>
    (ts_cons (tr_ifS (tt_w (tw_or (tt_not (tt_val (tr_isi .tuple C (tr_var 0) V.n_isinstance V.n_tuple (by rfl)))) (tw_or1 (tt_Gt C (tr_b_len C V.n_len rfl (tra_cons (tr_var 0) tra_nil)) tr_int)))) (ts_one (tr_ret tr_bl)) ts_nil) (ts_one (tr_ret (tr_Eq C (tr_lc (own := [("_law_rule_here", 1)]) C (ti_seq C (tr_var 0)) (blkOk_by (by rfl)) (fun _ _ _ _ _ => have ND := C.nd; (tg_nm 1 ND)) (fun _ _ _ _ _ C => (tts_one (tt_not (tt_val (tr_call C IH.o_18 V.g_18 V.d_18.kp (b_18 V) (tar_v (tr_var 1) tar_nil)))))) (fun _ _ _ _ _ C => (tr_var 1))) (tr_lst tra_nil)))))
theorem b_20 (V : EV K mg fd) : Binds K (fd 20) ["_law_script"] [] := V.d_20.bindsN fun _ _ _ _ _ _ us hl => match us, hl with | [_], _ => rfl
theorem sc_20 : FnScope ["_law_script", "_law_k", "_law_draws_here", "_law_good", "_law_rule_here", "_law_things", "_law_thing_here", "_law_found"] ["_law_script"] (defScope (top 25)) := ⟨rfl, rfl, rfl, by decide +kernel, rfl, by decide +kernel, by decide +kernel⟩
theorem ok_20 (V : EV K mg fd) (IH : OKS P w K mg base fd k) : FnOk P w K mg base (L2.CX P w) (k + 1) (a_20 K) (fd 20) ["_law_script"] (spF (Gc K) 1 (runF 8 [] (mb_20 (callF k)))) :=
  fn_ok (P := P) (w := w) (G := Gc K) (mg := mg) (base := base) (k := k) (N := ["_law_script", "_law_k", "_law_draws_here", "_law_good", "_law_rule_here", "_law_things", "_law_thing_here", "_law_found"]) (ps := ["_law_script"]) (m := mb_20 (callF k)) [] V.d_20 sc_20 (by rfl) fun cdv A outer s H E σ (C : Cok (cxF P w K mg base ["_law_script", "_law_k", "_law_draws_here", "_law_good", "_law_rule_here", "_law_things", "_law_thing_here", "_law_found"] "law" (defScope (top 25)) (a_20 K) cdv A outer s H E) (pinG (Gc K) [] σ) _ k) =>
    (ts_cons (tr_for C (ti_range1 (tr_b_max C V.n_max rfl (tra_cons tr_int (tra_cons (tr_b_min C V.n_min rfl (tra_cons tr_int (tra_cons (tr_b_len C V.n_len rfl (tra_cons (tr_var 0) tra_nil)) tra_nil))) tra_nil))) V.n_range) (tg_nm 1 C.nd) (ts_cons (tr_set 2 C (tr_call C IH.o_6 V.g_6 V.d_6.kp (b_6 V) (tar_v (tr_var 0) (tar_v (tr_var 1) tar_nil)))) (ts_cons (tr_set 3 C (tr_call C IH.o_10 V.g_10 V.d_10.kp (b_10 V) (tar_b 2 (tar_v (tr_call C IH.o_11 V.g_11 V.d_11.kp (b_11 V) (tar_b 2 (tar_v tr_int tar_nil))) (tar_v (tr_call C IH.o_11 V.g_11 V.d_11.kp (b_11 V) (tar_b 2 (tar_v tr_int tar_nil))) tar_nil))))) (ts_cons (tr_set 4 C (tr_tup (tra_cons (tr_str [108, 101, 116]) (tra_cons (tr_tup (tra_cons (tr_str [97]) (tra_cons (tr_str [98]) tra_nil))) (tra_cons (tr_tup tra_nil) (tra_cons (tr_tup (tra_cons tr_int (tra_cons tr_int tra_nil))) (tra_cons tr_int (tra_cons (tr_Pow C tr_int tr_int) tra_nil)))))))) (ts_cons (tr_set 5 C (tr_lst (tra_cons (tr_var 3) (tra_cons (tr_Mult C (tr_tup (tra_cons (tr_var 4) tra_nil)) (tr_Add C tr_int (tr_call C IH.o_7 V.g_7 V.d_7.kp (b_7 V) (tar_b 2 (tar_v tr_int tar_nil))))) (tra_cons (tr_b_list C V.n_list rfl (tra_cons (tr_var 3) tra_nil)) (tra_cons (tr_call C IH.o_12 V.g_12 V.d_12.kp (b_12 V) (tar_b 2 (tar_v tr_int tar_nil))) (tra_cons (tr_var 4) (tra_cons (tr_tup (tra_cons (tr_sl C (tr_var 4) to_none (to_some tr_int)) tra_nil)) tra_nil)))))))) (ts_cons (tr_drop (tr_append 5 (tr_call C IH.o_13 V.g_13 V.d_13.kp (b_13 V) (tar_b 2 (tar_v (tr_var 3) (tar_v tr_int tar_nil)))))) (ts_cons (tr_drop (tr_append 5 (tr_call C IH.o_13 V.g_13 V.d_13.kp (b_13 V) (tar_b 2 (tar_v (tr_tup (tra_cons (tr_call C IH.o_13 V.g_13 V.d_13.kp (b_13 V) (tar_b 2 (tar_v (tr_var 4) (tar_v tr_int tar_nil)))) tra_nil)) (tar_v tr_int tar_nil)))))) (ts_cons (tr_drop (tr_append 5 (tr_tup (tra_cons (tr_Add C (tr_sl C (tr_var 4) to_none (to_some tr_int)) (tr_tup (tra_cons (tr_Add C tr_int (tr_call C IH.o_7 V.g_7 V.d_7.kp (b_7 V) (tar_b 2 (tar_v (tr_Pow C tr_int tr_int) tar_nil)))) (tra_cons (tr_Add C tr_int (tr_call C IH.o_7 V.g_7 V.d_7.kp (b_7 V) (tar_b 2 (tar_v (tr_Pow C tr_int tr_int) tar_nil)))) tra_nil)))) tra_nil)))) (ts_cons (tr_for C (ti_seq C (tr_fzV 5)) (tg_nm 6 C.nd) (ts_cons (tr_set 7 C (tr_call C IH.o_5 V.g_5 V.d_5.kp (b_5 V) (tar_v (tr_var 6) tar_nil))) (ts_one (tr_ifS (tt_w (tw_or (tt_not (tt_val (tr_isi .bool C (tr_var 7) V.n_isinstance V.n_bool (by rfl)))) (tw_or1 (tt_NotEq C (tr_var 7) (tr_call C IH.o_19 V.g_19 V.d_19.kp (b_19 V) (tar_v (tr_var 6) tar_nil)))))) (ts_one (tr_ret tr_bl)) ts_nil)))) (ts_one (tr_ifS (tt_IsNot C (tr_call C IH.o_5 V.g_5 V.d_5.kp (b_5 V) (tar_v (tr_var 3) tar_nil)) tr_bl) (ts_one (tr_ret tr_bl)) ts_nil))))))))))) (ts_one (tr_ret tr_bl)))
end
end LW

namespace LW
open PySem PySem.Spec PyProof.Rows L2 TB
def d_0 : He.DefD := ⟨("is_within", none), "is_within", "is_within", defArgs (top 4), defBody (top 4), defScope (top 4), [], []⟩
def d_1 : He.DefD := ⟨("is_name", none), "is_name", "is_name", defArgs (top 5), defBody (top 5), defScope (top 5), [], []⟩
def d_2 : He.DefD := ⟨("are_rising", none), "are_rising", "are_rising", defArgs (top 6), defBody (top 6), defScope (top 6), [], []⟩
def d_3 : He.DefD := ⟨("are_names", none), "are_names", "are_names", defArgs (top 7), defBody (top 7), defScope (top 7), [], []⟩
def d_4 : He.DefD := ⟨("is_rule", none), "is_rule", "is_rule", defArgs (top 8), defBody (top 8), defScope (top 8), [], []⟩
def d_5 : He.DefD := ⟨("is_book", none), "is_book", "is_book", defArgs (top 9), defBody (top 9), defScope (top 9), [], []⟩
def d_6 : He.DefD := ⟨("_law_draws", none), "_law_draws", "_law_draws", defArgs (top 11), defBody (top 11), defScope (top 11), [], []⟩
def d_7 : He.DefD := ⟨("_law_draw", none), "_law_draw", "_law_draw", defArgs (top 12), defBody (top 12), defScope (top 12), [], []⟩
def d_8 : He.DefD := ⟨("_law_some", none), "_law_some", "_law_some", defArgs (top 13), defBody (top 13), defScope (top 13), [], []⟩
def d_9 : He.DefD := ⟨("_law_rule", none), "_law_rule", "_law_rule", defArgs (top 14), defBody (top 14), defScope (top 14), [], []⟩
def d_10 : He.DefD := ⟨("_law_book", none), "_law_book", "_law_book", defArgs (top 15), defBody (top 15), defScope (top 15), [], []⟩
def d_11 : He.DefD := ⟨("_law_names", none), "_law_names", "_law_names", defArgs (top 16), defBody (top 16), defScope (top 16), [], []⟩
def d_12 : He.DefD := ⟨("_law_thing", none), "_law_thing", "_law_thing", defArgs (top 17), defBody (top 17), defScope (top 17), [], []⟩
def d_13 : He.DefD := ⟨("_law_otherwise", none), "_law_otherwise", "_law_otherwise", defArgs (top 18), defBody (top 18), defScope (top 18), [], []⟩
def d_14 : He.DefD := ⟨("_law_is_name", none), "_law_is_name", "_law_is_name", defArgs (top 19), defBody (top 19), defScope (top 19), [], []⟩
def d_15 : He.DefD := ⟨("_law_are_rising", none), "_law_are_rising", "_law_are_rising", defArgs (top 20), defBody (top 20), defScope (top 20), [], []⟩
def d_16 : He.DefD := ⟨("_law_are_names", none), "_law_are_names", "_law_are_names", defArgs (top 21), defBody (top 21), defScope (top 21), [], []⟩
def d_17 : He.DefD := ⟨("_law_within", none), "_law_within", "_law_within", defArgs (top 22), defBody (top 22), defScope (top 22), [], []⟩
def d_18 : He.DefD := ⟨("_law_is_rule", none), "_law_is_rule", "_law_is_rule", defArgs (top 23), defBody (top 23), defScope (top 23), [], []⟩
def d_19 : He.DefD := ⟨("_law_is_book", none), "_law_is_book", "_law_is_book", defArgs (top 24), defBody (top 24), defScope (top 24), [], []⟩
def d_20 : He.DefD := ⟨("law", none), "law", "law", defArgs (top 25), defBody (top 25), defScope (top 25), [], []⟩
def fn : List He.DefD := [d_0, d_1, d_2, d_3, d_4, d_5, d_6, d_7, d_8, d_9, d_10, d_11, d_12, d_13, d_14, d_15, d_16, d_17, d_18, d_19, d_20]
def fa : List He.Fa := [.glo "is_within", .glo "is_name", .glo "are_rising", .glo "are_names", .glo "is_rule", .glo "is_book", .glo "_law_draws", .glo "_law_draw", .glo "_law_some", .glo "_law_rule", .glo "_law_book", .glo "_law_names", .glo "_law_thing", .glo "_law_otherwise", .glo "_law_is_name", .glo "_law_are_rising", .glo "_law_are_names", .glo "_law_within", .glo "_law_is_rule", .glo "_law_is_book", .glo "law", .free "all", .free "bool", .free "int", .free "isinstance", .free "len", .free "list", .free "max", .free "min", .free "range", .free "sorted", .free "str", .free "tuple", .str "LETTERS" "abcdefghijklmnopqrstuvwxyz", .int "MOST_PENCE" 1000000, .int "MOST_RULES" 6]
def loose0 : List Str := ["__name__", "MOST_PENCE", "MOST_RULES", "LETTERS", "is_within", "is_name", "are_rising", "are_names", "is_rule", "is_book", "_law_draws", "_law_draw", "_law_some", "_law_rule", "_law_book", "_law_names", "_law_thing", "_law_otherwise", "_law_is_name", "_law_are_rising", "_law_are_names", "_law_within", "_law_is_rule", "_law_is_book"]
def loose : List Str := loose0
abbrev R : PySem.W.OpenRow := PySem.W.OpenLaw.row PySem.Challenge.rw_tuckbook_k01_what_is_a_book
abbrev hk : PySem.W.Hook := He.hookD 5 fa fn
def ob (s : PySem.W.SharedT) : He.AlD := He.obsDG 5 fa fn (HandSHeadRun.getT s)
theorem ob_eq (s : PySem.W.SharedT) : ob s = hk.obs s.abs := He.obsDG_eq (HandSHeadRun.getT_eq s)
abbrev qv : Program := PySem.W.view R.prog [25]
theorem run (w : World) : HandSHeadRun.RunEq R qv hk ob 6000 loose w := by
  intro os
  kernel_rfl
section
variable {P : Program} {w : World} {K : PySem.W.Frag} {mg : Str → Option Value} {base : Heap} {fd : Nat → FuncData}
theorem fn_zero {a : Addr} {fdv : FuncData} {ps : List Str} {n : Nat} {f : Nat} : FnOk P w K mg base (L2.CX P w) 0 a fdv ps (spF (Gc K) n (callF 0 f)) :=
  ⟨fun vs H Q E ⟨_, _, _, _, _, _, _, _, h⟩ => h.elim, fun _ _ _ _ _ _ _ _ _ _ _ _ _ ⟨_, _, _, _, _, _, _, _, h⟩ => h.elim⟩
theorem ok_all (V : EV K mg fd) : ∀ k, OKS P w K mg base fd k
  | 0 => ⟨fn_zero, fn_zero, fn_zero, fn_zero, fn_zero, fn_zero, fn_zero, fn_zero, fn_zero, fn_zero, fn_zero, fn_zero, fn_zero, fn_zero, fn_zero, fn_zero, fn_zero, fn_zero, fn_zero, fn_zero, fn_zero⟩
  | k + 1 => have IH := ok_all V k; ⟨ok_0 V IH, ok_1 V IH, ok_2 V IH, ok_3 V IH, ok_4 V IH, ok_5 V IH, ok_6 V IH, ok_7 V IH, ok_8 V IH, ok_9 V IH, ok_10 V IH, ok_11 V IH, ok_12 V IH, ok_13 V IH, ok_14 V IH, ok_15 V IH, ok_16 V IH, ok_17 V IH, ok_18 V IH, ok_19 V IH, ok_20 V IH⟩
end
theorem facts {P : Program} {w : World} {K : PySem.W.Frag} {h : Heap} {mg : Str → Option Value} {f : Addr} (X : K.In h) (G : h.Ns mainGlobals mg) (hfa : mg ("law" : Str) = some (.ref f)) (c : He.SaysD fa fn K) :
    ∃ fd : FuncData, (∀ (s : Shared) (v : Value), BindsTo s fd ⟨[v], []⟩ [("_law_script", v)]) ∧ ∀ base : Heap, K.In base → base.Ns mainGlobals mg → FnOk P w K mg base (L2.CX P w) 40 f fd ["_law_script"] (spF (Gc K) 1 (callF 40 20)) := by
  obtain ⟨fd0, F0⟩ := c.def_ 0 (d := d_0) rfl
  obtain ⟨fd1, F1⟩ := c.def_ 1 (d := d_1) rfl
  obtain ⟨fd2, F2⟩ := c.def_ 2 (d := d_2) rfl
  obtain ⟨fd3, F3⟩ := c.def_ 3 (d := d_3) rfl
  obtain ⟨fd4, F4⟩ := c.def_ 4 (d := d_4) rfl
  obtain ⟨fd5, F5⟩ := c.def_ 5 (d := d_5) rfl
  obtain ⟨fd6, F6⟩ := c.def_ 6 (d := d_6) rfl
  obtain ⟨fd7, F7⟩ := c.def_ 7 (d := d_7) rfl
  obtain ⟨fd8, F8⟩ := c.def_ 8 (d := d_8) rfl
  obtain ⟨fd9, F9⟩ := c.def_ 9 (d := d_9) rfl
  obtain ⟨fd10, F10⟩ := c.def_ 10 (d := d_10) rfl
  obtain ⟨fd11, F11⟩ := c.def_ 11 (d := d_11) rfl
  obtain ⟨fd12, F12⟩ := c.def_ 12 (d := d_12) rfl
  obtain ⟨fd13, F13⟩ := c.def_ 13 (d := d_13) rfl
  obtain ⟨fd14, F14⟩ := c.def_ 14 (d := d_14) rfl
  obtain ⟨fd15, F15⟩ := c.def_ 15 (d := d_15) rfl
  obtain ⟨fd16, F16⟩ := c.def_ 16 (d := d_16) rfl
  obtain ⟨fd17, F17⟩ := c.def_ 17 (d := d_17) rfl
  obtain ⟨fd18, F18⟩ := c.def_ 18 (d := d_18) rfl
  obtain ⟨fd19, F19⟩ := c.def_ 19 (d := d_19) rfl
  obtain ⟨fd20, F20⟩ := c.def_ 20 (d := d_20) rfl
  have e := hfa.symm.trans (He.glo_ok X G (c.fact 20 (f := .glo "law") rfl))
  cases e
  have V : EV K mg (fun | 0 => fd0 | 1 => fd1 | 2 => fd2 | 3 => fd3 | 4 => fd4 | 5 => fd5 | 6 => fd6 | 7 => fd7 | 8 => fd8 | 9 => fd9 | 10 => fd10 | 11 => fd11 | 12 => fd12 | 13 => fd13 | 14 => fd14 | 15 => fd15 | 16 => fd16 | 17 => fd17 | 18 => fd18 | 19 => fd19 | 20 => fd20 | _ => fd0) := ⟨F0, He.glo_ok X G (c.fact 0 (f := .glo "is_within") rfl), F1, He.glo_ok X G (c.fact 1 (f := .glo "is_name") rfl), F2, He.glo_ok X G (c.fact 2 (f := .glo "are_rising") rfl), F3, He.glo_ok X G (c.fact 3 (f := .glo "are_names") rfl), F4, He.glo_ok X G (c.fact 4 (f := .glo "is_rule") rfl), F5, He.glo_ok X G (c.fact 5 (f := .glo "is_book") rfl), F6, He.glo_ok X G (c.fact 6 (f := .glo "_law_draws") rfl), F7, He.glo_ok X G (c.fact 7 (f := .glo "_law_draw") rfl), F8, He.glo_ok X G (c.fact 8 (f := .glo "_law_some") rfl), F9, He.glo_ok X G (c.fact 9 (f := .glo "_law_rule") rfl), F10, He.glo_ok X G (c.fact 10 (f := .glo "_law_book") rfl), F11, He.glo_ok X G (c.fact 11 (f := .glo "_law_names") rfl), F12, He.glo_ok X G (c.fact 12 (f := .glo "_law_thing") rfl), F13, He.glo_ok X G (c.fact 13 (f := .glo "_law_otherwise") rfl), F14, He.glo_ok X G (c.fact 14 (f := .glo "_law_is_name") rfl), F15, He.glo_ok X G (c.fact 15 (f := .glo "_law_are_rising") rfl), F16, He.glo_ok X G (c.fact 16 (f := .glo "_law_are_names") rfl), F17, He.glo_ok X G (c.fact 17 (f := .glo "_law_within") rfl), F18, He.glo_ok X G (c.fact 18 (f := .glo "_law_is_rule") rfl), F19, He.glo_ok X G (c.fact 19 (f := .glo "_law_is_book") rfl), F20, He.glo_ok X G (c.fact 20 (f := .glo "law") rfl), He.free_ok X G (c.fact 21 (f := .free "all") rfl), He.free_ok X G (c.fact 22 (f := .free "bool") rfl), He.free_ok X G (c.fact 23 (f := .free "int") rfl), He.free_ok X G (c.fact 24 (f := .free "isinstance") rfl), He.free_ok X G (c.fact 25 (f := .free "len") rfl), He.free_ok X G (c.fact 26 (f := .free "list") rfl), He.free_ok X G (c.fact 27 (f := .free "max") rfl), He.free_ok X G (c.fact 28 (f := .free "min") rfl), He.free_ok X G (c.fact 29 (f := .free "range") rfl), He.free_ok X G (c.fact 30 (f := .free "sorted") rfl), He.free_ok X G (c.fact 31 (f := .free "str") rfl), He.free_ok X G (c.fact 32 (f := .free "tuple") rfl), He.str_ok X G (c.fact 33 (f := .str "LETTERS" "abcdefghijklmnopqrstuvwxyz") rfl), He.int_ok X G (c.fact 34 (f := .int "MOST_PENCE" 1000000) rfl), He.int_ok X G (c.fact 35 (f := .int "MOST_RULES" 6) rfl)⟩
  have b := FunD.bindsA (ps := ["_law_script"]) F20 fun _ _ _ _ _ _ us hl => match us, hl with | [_], _ => rfl
  exact ⟨fd20, fun s v => b s [v] rfl, fun base _ _ => (ok_all V 40).o_20⟩
theorem sp_law {K : PySem.W.Frag} (H : Hp) (a : Addr) (ns : List Int) (hl : ns.length ≤ 63) (hS : SqL K H a (ns.map V.int)) : spF (Gc K) 1 (LW.callF 40 20) [.ref a] H (fun v _ => v = .bl true) fun _ _ _ => False := by
  refine ⟨H, add nil0 nil0, [(.fz, .scr ns)], rfl, Same.refl H, .cons (.fz (.scr hS)) .nil, fun a => by simp [add, nil0], fun a _ => rfl, ?_⟩
  rw [LW.law_true ns hl]
  intro v F' H' T' f s1 s2 ou o le di
  cases o with
  | fz r => cases r; rfl
end LW
open PySem PySem.W PySem.Calls PyProof.Rows
theorem PySem.Challenge.cw_tuckbook_k01_what_is_a_book_holds : PySem.Challenge.rw_tuckbook_k01_what_is_a_book.Holds := by
  w_on; o_law
  refine HandSHeadRun.head_any (r := LW.R) (q := LW.qv) (H := LW.hk) (ob := LW.ob) (M := 6000) (loose := LW.loose) (d := HandSHeadRun.topDef LW.R.prog 25) (kwd := []) LW.ob_eq
    (by kernel_rfl) (fun s => by kernel_rfl) LW.run (by kernel_rfl) (by kernel_rfl) (by kernel_rfl) (by rfl) (by first | assumption | decide +kernel) (by decide +kernel) ⟨rfl, rfl, rfl, rfl, rfl, by decide +kernel⟩ ?hw ?hc
  case hw => w_witness2
  case hc =>
    refine L2.walk_ofEw (l := PySem.Challenge.rw_tuckbook_k01_what_is_a_book) (n := 63) (k := 40) (x := "_law_script") (CX := fun w => L2.CX PySem.Challenge.rw_tuckbook_k01_what_is_a_book.prog w) rfl (by decide) (by kernel_rfl) ⟨rfl, by decide, by decide⟩ ?F ?X
    case X =>
      intro w H s e s' z
      obtain ⟨_, _, _, _, _, _, _, _, _, _, _, _, z⟩ := z
      exact z
    intro w mg fa h Y G hmg0
    obtain ⟨K, KX, c⟩ := Y
    have hmg : mg ("law" : PySem.Str) = some (.ref fa) := by
      have e : (HandSHeadRun.topDef LW.R.prog 25).name = ("law" : PySem.Str) := by kernel_rfl
      rw [← e]
      exact hmg0
    obtain ⟨fd, hb, hF⟩ := LW.facts (P := (PySem.Challenge.rw_tuckbook_k01_what_is_a_book).prog) (w := w) KX G hmg c
    exact ⟨K, fd, _, KX, hb, fun H a ns hl hS => LW.sp_law H a ns hl hS, hF⟩

