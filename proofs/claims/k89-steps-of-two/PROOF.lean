import PyProof.Rows.All
import Wide.All
import OpenK.AllK
import Wide.FinOn
import HandS.ForMost
import HandS.Wide
import HandS.TupAny
import HandS.Deep
import HandS.SortInts
import HandS.Style
import HandS.IsInst
import HandS.TupLe
import HandS.Conv
import HandS.Words
import PySem.Challenge.RW_numberstead_k89_steps_of_two
set_option Elab.async false
set_option linter.all false
set_option maxRecDepth 100000
/-! MP0: the mini language and its pure interpreter -/
namespace MP
open PySem PySem.Spec PyProof.Rows L2

abbrev D := PyData
/-- a slot's content, an expression's value: data that never changes, or a list or dict that one name alone holds -/
inductive Ent where
  | val (d : D)
  | lst (ds : List D)
  | dct (kvs : List (Key × D))
  | dctT (kvs : List (List Key × D))
  | ro (ds : List D)
abbrev Env := List (Option Ent)
abbrev R (α : Type) := Option (α × Env)

def get : Env → Nat → Option Ent
  | [], _ => none
  | x :: _, 0 => x
  | _ :: r, n + 1 => get r n
def put : Env → Nat → Option Ent → Env
  | [], _, _ => []
  | _ :: r, 0, e => e :: r
  | x :: r, n + 1, e => x :: put r n e

/-- builtins that are called by their names -/
inductive Blt where
  | len | abs | int | sum | max1 | min1 | max2 | min2 | sorted | list | tuple | all | any
  deriving DecidableEq
inductive Ty where
  | int | bool | str | tuple | list
  deriving DecidableEq

inductive MT where
  | nm (i : Nat)
  | tup (ts : List MT)

mutual
inductive ME where
  | v (i : Nat) | int (k : Int) | bl (b : Bool) | non | str (s : Str) | nop
  | gc (x : Str) (d : D)
  | bin (op : Operator) (a b : ME) | neg (a : ME)
  | cmp (op : CmpOp) (a b : ME) | cmp2 (o p : CmpOp) (a b c : ME)
  | band (as : List ME) | bor (as : List ME) | bnot (a : ME)
  | ife (c a b : ME)
  | tup (as : List ME) | lst (as : List ME)
  | dnewK | dnewT | dct (ks : List Key) (vs : List ME)
  | idx (a i : ME) | slc (a lo hi : ME) | rev (a : ME)
  | blt (f : Blt) (as : List ME)
  | isi (t : Ty) (a : ME)
  | call (f : Str) (as : List ME)
  | app (i : Nat) (e : ME) | ext (i : Nat) (e : ME) | pop (i : Nat) | popAt (i : Nat) (e : ME) | rem (i : Nat) (e : ME)
  | mindex (a e : ME) | mcount (a e : ME) | dget (i : Nat) (k d : ME)
  | lrng (as : List ME)
  | comp (t : MT) (it : MI) (ifs : List ME) (e : ME) (own : List Nat)
inductive MI where
  | seq (e : ME)
  | rng (as : List ME)
  | zip (a b : ME)
end

inductive MS where
  | asg (t : MT) (e : ME)
  | asgs (ts : List MT) (es : List ME)
  | setIx (i : Nat) (k e : ME)
  | aug (i : Nat) (op : Operator) (e : ME)
  | augIx (i : Nat) (k : ME) (op : Operator) (e : ME)
  | ex (e : ME)
  | ite (c : ME) (a b : List MS)
  | wh (c : ME) (b : List MS)
  | for (t : MT) (it : MI) (b : List MS)
  | ret (e : ME) | retN | brk | ct | pass

inductive Fl where
  | nx | ret (e : Ent) | brk | ct

/-- a def as its callers know it: which parameters it may change; what it gives, and those parameters behind it -/
structure Fn where
  io : List Bool
  sem : List Ent → Option (Ent × List Ent)
abbrev FT := Str → Option Fn

/-! ### values -/
def LIM : Nat := 1000000
def toD : Ent → Option D
  | .val d => some d
  | .lst ds => some (.list ds)
  | _ => none
/-- the items of a sequence -/
def seqOf : Ent → Option (List D)
  | .val (.list ds) => some ds
  | .val (.tuple ds) => some ds
  | .lst ds => some ds
  | _ => none
def lstOf : Ent → Option (List D)
  | .val (.list ds) => some ds
  | .lst ds => some ds
  | _ => none
def mulOk (a b : Int) : Bool := decide (a.natAbs.log2 + b.natAbs.log2 < 1000000)
def powOk (i j : Int) : Bool := decide (0 ≤ j ∧ j ≤ 1000000 ∧ i.natAbs < 2 ^ 64)
def intBin (op : Operator) (i j : Int) : Option Int :=
  match op with
  | .Add => some (i + j)
  | .Sub => some (i - j)
  | .Mult => if mulOk i j then some (i * j) else none
  | .FloorDiv => if 0 < j then (if j.natAbs.log2 < 9000 then some (i / j) else none) else if j < 0 ∧ j.natAbs < 1073741824 then some (i.fdiv j) else none
  | .Mod => if 0 < j then some (i % j) else if j < 0 then some (i.fmod j) else none
  | .Pow => if powOk i j then some (i ^ j.toNat) else none
  | .LShift => if powOk i j then some (i * 2 ^ j.toNat) else none
  | .RShift => if 0 ≤ j then some (i / 2 ^ j.toNat) else none
  | .BitAnd => some (Builtin.bitAnd i j)
  | .BitOr => some (Builtin.bitOr i j)
  | .BitXor => some (Builtin.bitXor i j)
  | _ => none
def binSem (op : Operator) (x y : Ent) : Option Ent :=
  match x, y with
  | .val (.int i), .val (.int j) => (intBin op i j).map fun k => .val (.int k)
  | .val (.tuple xs), .val (.tuple ys) => if op = .Add ∧ xs.length + ys.length ≤ LIM then some (.val (.tuple (xs ++ ys))) else none
  | x, .val (.int k) => match lstOf x with
    | some xs => if op = .Mult ∧ (-1000000 ≤ k ∧ k ≤ 1000000) ∧ xs.length * k.toNat ≤ LIM then some (.lst (List.replicate k.toNat xs).flatten) else
      none
    | none => none
  | x, y => match lstOf x, lstOf y with
    | some xs, some ys => if op = .Add ∧ xs.length + ys.length ≤ LIM then some (.lst (xs ++ ys)) else none
    | _, _ => none
/-- order of whole numbers, and of rows of them -/
def intsOf : List D → Option (List Int)
  | [] => some []
  | .int i :: r => (intsOf r).map (i :: ·)
  | _ => none
def boolsOf : List D → Option (List Bool)
  | [] => some []
  | .bool i :: r => (boolsOf r).map (i :: ·)
  | _ => none
def eqSem (x y : Ent) : Option Bool :=
  match toD x, toD y with
  | some d, some e => if SeqAt.shaped d && SeqAt.shaped e then some (PyData.eqv d e) else none
  | _, _ => none
def isN : Ent → Bool
  | .val .none => true
  | _ => false
def isD (x : Ent) (d : D) : Option Bool :=
  match d with
  | .none => some (isN x)
  | .bool b => match x with | .val (.bool a) => some (decide (a = b)) | _ => none
  | _ => none
def tupInts : Ent → Option (List Int)
  | .val (.tuple ds) => intsOf ds
  | _ => none
def flatD : D → Bool
  | .none | .bool _ | .int _ | .str _ => true
  | _ => false
def lookG {κ β : Type} [DecidableEq κ] (kvs : List (κ × β)) (k : κ) : Option β := (kvs.find? fun kv => decide (kv.1 = k)).map (·.2)
def putG {κ β : Type} [DecidableEq κ] (kvs : List (κ × β)) (k : κ) (v : β) : List (κ × β) :=
  if (kvs.any fun kv => decide (kv.1 = k)) = true then kvs.map (fun kv => if kv.1 = k then (kv.1, v) else kv) else kvs ++ [(k, v)]
def keyOf : D → Option Key
  | .int i => some (.inl i)
  | .str s => some (.inr s)
  | _ => none
def keysOf : List D → Option (List Key)
  | [] => some []
  | d :: r => match keyOf d, keysOf r with
    | some k, some ks => some (k :: ks)
    | _, _ => none
def keyT : D → Option (List Key)
  | .tuple ds => keysOf ds
  | _ => none
def inSem (x y : Ent) : Option Bool :=
  match y with
  | .dct kvs => match x with
    | .val d => (keyOf d).map fun k => (lookG kvs k).isSome
    | _ => none
  | .dctT kvs => match x with
    | .val d => (keyT d).map fun k => (lookG kvs k).isSome
    | _ => none
  | _ => match toD x, seqOf y with
    | some d, some ds => if SeqAt.shaped d && PyData.canLayAll0 ds then some (ds.any fun e => PyData.eqv e d) else none
    | _, _ => none
def cmpSem (op : CmpOp) (x y : Ent) : Option Bool :=
  match op with
  | .Eq => eqSem x y
  | .NotEq => (eqSem x y).map not
  | .Is => match y with | .val d => isD x d | _ => none
  | .IsNot => match y with | .val d => (isD x d).map not | _ => none
  | .In => inSem x y
  | .NotIn => (inSem x y).map not
  | .Lt => match x, y with
    | .val (.int i), .val (.int j) => some (decide (i < j))
    | x, y => match tupInts x, tupInts y with
      | some ns, some ms => some (HT.lexLt ns ms)
      | _, _ => none
  | .LtE => match x, y with
    | .val (.int i), .val (.int j) => some (decide (i ≤ j))
    | _, _ => none
  | .Gt => match x, y with
    | .val (.int i), .val (.int j) => some (decide (j < i))
    | _, _ => none
  | .GtE => match x, y with
    | .val (.int i), .val (.int j) => some (decide (j ≤ i))
    | _, _ => none
def truSem : Ent → Option Bool
  | .val .none => some false
  | .val (.bool b) => some b
  | .val (.int i) => some (i != 0)
  | .val (.list ds) => some (!ds.isEmpty)
  | .val (.tuple ds) => some (!ds.isEmpty)
  | .lst ds => some (!ds.isEmpty)
  | _ => none
def idxSem (x y : Ent) : Option Ent :=
  match x, y with
  | .dct kvs, .val d => match keyOf d with
    | some k => (lookG kvs k).map .val
    | none => none
  | .dctT kvs, .val d => match keyT d with
    | some k => (lookG kvs k).map .val
    | none => none
  | .ro ds, .val (.int i) => (atI ds i).map .val
  | x, .val (.int i) => match seqOf x with
    | some ds => (atI ds i).map .val
    | none => none
  | _, _ => none
def cutD (xs : List D) (lo hi : Option Int) : List D := (xs.drop (HT.sIx xs.length 0 lo)).take (HT.sIx xs.length xs.length hi - HT.sIx xs.length 0 lo)
def slcSem (x : Ent) (lo hi : Option Int) : Option Ent :=
  match x with
  | .val (.tuple ds) => some (.val (.tuple (cutD ds lo hi)))
  | x => (lstOf x).map fun ds => .lst (cutD ds lo hi)
def revSem (x : Ent) : Option Ent :=
  match x with
  | x => (lstOf x).map fun ds => .lst ds.reverse
def sortI (ns : List Int) : List Int := ns.mergeSort fun a b => decide (a ≤ b)
def lenSem : List Ent → Option Ent
  | [x] => match x with
    | .ro ds => some (.val (.int ds.length))
    | _ => (seqOf x).map fun ds => .val (.int ds.length)
  | _ => none
def absSem : List Ent → Option Ent
  | [.val (.int i)] => some (.val (.int (if i < 0 then -i else i)))
  | _ => none
def intSem : List Ent → Option Ent
  | [.val (.int i)] => some (.val (.int i))
  | _ => none
/-- of one list of whole numbers -/
def onInts (g : List Int → Option Ent) : List Ent → Option Ent
  | [x] => match lstOf x with
    | some ds => match intsOf ds with
      | some ns => g ns
      | none => none
    | none => none
  | _ => none
def onBools (g : List Bool → Option Ent) : List Ent → Option Ent
  | [x] => match lstOf x with
    | some ds => match boolsOf ds with
      | some ns => g ns
      | none => none
    | none => none
  | _ => none
def onInt2 (g : Int → Int → Int) : List Ent → Option Ent
  | [.val (.int i), .val (.int j)] => some (.val (.int (g i j)))
  | _ => none
def onSeq (g : List D → Ent) : List Ent → Option Ent
  | [x] => (seqOf x).map g
  | _ => none
def maxL : List Int → Option Ent
  | [] => none
  | n :: ns => some (.val (.int (ns.foldl (fun a b => if b > a then b else a) n)))
def minL : List Int → Option Ent
  | [] => none
  | n :: ns => some (.val (.int (ns.foldl (fun a b => if b < a then b else a) n)))
def bltSem (f : Blt) (xs : List Ent) : Option Ent :=
  match f with
  | .len => lenSem xs
  | .abs => absSem xs
  | .int => intSem xs
  | .sum => onInts (fun ns => some (.val (.int ns.sum))) xs
  | .max1 => onInts maxL xs
  | .min1 => onInts minL xs
  | .max2 => onInt2 (fun i j => if j > i then j else i) xs
  | .min2 => onInt2 (fun i j => if j < i then j else i) xs
  | .list => onSeq .lst xs
  | .tuple => onSeq (fun ds => .val (.tuple ds)) xs
  | .sorted => onInts (fun ns => some (.lst ((sortI ns).map .int))) xs
  | .all => onBools (fun bs => some (.val (.bool (bs.all id)))) xs
  | .any => onBools (fun bs => some (.val (.bool (bs.any id)))) xs
def tyOf : Ent → Option Ty
  | .val (.int _) => some .int
  | .val (.bool _) => some .bool
  | .val (.str _) => some .str
  | .val (.tuple _) => some .tuple
  | .val (.list _) => some .list
  | .lst _ => some .list
  | _ => none
def isNonE : Ent → Bool
  | .val .none => true
  | _ => false
def isiSem (t : Ty) (x : Ent) : Option Bool :=
  if isNonE x then some false else (tyOf x).map fun u => decide (u = t) || (decide (u = .bool) && decide (t = .int))
/-- the numbers of a range -/
def rngL (lo : Int) (n : Nat) : List D := (List.range n).map fun (i : Nat) => .int (lo + i)
def rngLs (lo c : Int) (n : Nat) : List D := (List.range n).map fun (i : Nat) => .int (lo + i * c)
open Classical in
noncomputable def inB (i : Int) : Bool := @decide (-(2 ^ 62) ≤ i ∧ i < 2 ^ 62) (propDecidable _)
theorem inB_iff {i : Int} : inB i = true ↔ (-(2 ^ 62) ≤ i ∧ i < 2 ^ 62) := by
  unfold inB
  exact @decide_eq_true_iff _ (Classical.propDecidable _)
noncomputable def rngSem (xs : List Ent) : Option (List D) :=
  match xs with
  | [.val (.int j)] => if inB j then some (rngL 0 j.toNat) else none
  | [.val (.int i), .val (.int j)] => if inB i && inB j then some (rngL i (j - i).toNat) else none
  | [.val (.int i), .val (.int j), .val (.int c)] =>
    if inB i && inB j && decide (c = -1) then some (rngLs i (-1) (i - j).toNat)
    else if c ≠ 0 ∧ c.natAbs < 1073741824 ∧ Builtin.Range.small i j c = true ∧ 0 ≤ Builtin.Range.rangeSize i j c then some (rngLs i c (Builtin.Range.rangeSize i j c).toNat)
    else none
  | _ => none

/-! ### the interpreter -/
inductive PV where
  | sl (i : Nat)
  | tm (e : Ent)
def look (p : PV) (ρ : Env) : Option Ent :=
  match p with
  | .sl i => get ρ i
  | .tm e => some e
def looks : List PV → Env → Option (List Ent)
  | [], _ => some []
  | p :: r, ρ => match look p ρ, looks r ρ with
    | some e, some es => some (e :: es)
    | _, _ => none
def nameE (i : Nat) (ρ : Env) : R Ent :=
  match get ρ i with
  | some (.lst ds) => some (.val (.list ds), put ρ i (some (.val (.list ds))))
  | some (.val d) => some (.val d, ρ)
  | some (.ro ds) => some (.ro ds, ρ)
  | _ => none
/-- what an expression does: its name's slot (if it is a name), its value, its truth -/
structure Ev where
  nm : Option Nat
  e : Env → R Ent
  t : Env → R Bool
def tru (r : R Ent) : R Bool :=
  match r with
  | some (x, ρ) => match truSem x with
    | some b => some (b, ρ)
    | none => none
  | none => none
def evMk (e : Env → R Ent) : Ev := ⟨none, e, fun ρ => tru (e ρ)⟩
def bv (b : Bool) : Ent := .val (.bool b)
def asB (r : R Bool) : R Ent :=
  match r with
  | some (b, ρ) => some (bv b, ρ)
  | none => none
def evTest (t : Env → R Bool) : Ev := ⟨none, fun ρ => asB (t ρ), t⟩
def pvOf (a : Ev) (ρ : Env) : R PV :=
  match a.nm with
  | some i => match get ρ i with
    | some _ => some (.sl i, ρ)
    | none => none
  | none => match a.e ρ with
    | some (e, ρ') => some (.tm e, ρ')
    | none => none
def pvs : List Ev → Env → R (List PV)
  | [], ρ => some ([], ρ)
  | a :: r, ρ => match pvOf a ρ with
    | some (p, ρ1) => match pvs r ρ1 with
      | some (ps, ρ2) => some (p :: ps, ρ2)
      | none => none
    | none => none
/-- arguments that the operation only reads -/
def args (as : List Ev) (ρ : Env) : R (List Ent) :=
  match pvs as ρ with
  | some (ps, ρ1) => match looks ps ρ1 with
    | some xs => some (xs, ρ1)
    | none => none
  | none => none
/-- items that are kept: data -/
def items : List Ev → Env → R (List D)
  | [], ρ => some ([], ρ)
  | a :: r, ρ => match a.e ρ with
    | some (x, ρ1) => match toD x with
      | some d => match items r ρ1 with
        | some (ds, ρ2) => some (d :: ds, ρ2)
        | none => none
      | none => none
    | none => none
def ents : List Ev → Env → R (List Ent)
  | [], ρ => some ([], ρ)
  | a :: r, ρ => match a.e ρ with
    | some (x, ρ1) => match ents r ρ1 with
      | some (ds, ρ2) => some (x :: ds, ρ2)
      | none => none
    | none => none
mutual
def asgT : MT → Ent → Env → Option Env
  | .nm i, e, ρ => some (put ρ i (some e))
  | .tup ts, .val (.tuple ds), ρ => asgTs ts ds ρ
  | .tup _, _, _ => none
def asgTs : List MT → List D → Env → Option Env
  | [], [], ρ => some ρ
  | t :: ts, d :: ds, ρ => match asgT t (.val d) ρ with
    | some ρ' => asgTs ts ds ρ'
    | none => none
  | _, _, _ => none
end
def asgEs : List MT → List Ent → Env → Option Env
  | [], [], ρ => some ρ
  | t :: ts, e :: es, ρ => match asgT t e ρ with
    | some ρ' => asgEs ts es ρ'
    | none => none
  | _, _, _ => none
def wipeE : Env → List Nat → Env
  | ρ, [] => ρ
  | ρ, i :: is => put (wipeE ρ is) i none
/-- the slots is as they were in ρ0 -/
def backE (ρ0 : Env) : Env → List Nat → Env
  | ρ, [] => ρ
  | ρ, i :: is => put (backE ρ0 ρ is) i (get ρ0 i)
def putOuts : Env → List PV → List Bool → List Ent → Option Env
  | ρ, _, [], [] => some ρ
  | ρ, .sl i :: ps, true :: bs, o :: os => putOuts (put ρ i (some o)) ps bs os
  | ρ, _ :: ps, false :: bs, os => putOuts ρ ps bs os
  | _, _, _, _ => none
/-- an argument by its mode: changed in place (a name's own object), or data -/
def argE (io : Bool) (a : Ev) (ρ : Env) : R PV :=
  match io with
  | true => match a.nm with
    | some i => match get ρ i with
      | some _ => some (.sl i, ρ)
      | none => none
    | none => none
  | false => match a.e ρ with
    | some (.ro ds, ρ') => some (.tm (.ro ds), ρ')
    | some (e, ρ') => match toD e with
      | some d => some (.tm (.val d), ρ')
      | none => none
    | none => none
def argEs : List Bool → List Ev → Env → R (List PV)
  | [], [], ρ => some ([], ρ)
  | b :: bs, a :: as, ρ => match argE b a ρ with
    | some (p, ρ1) => match argEs bs as ρ1 with
      | some (ps, ρ2) => some (p :: ps, ρ2)
      | none => none
    | none => none
  | _, _, _ => none
def slotsOf : List PV → List Bool → List Nat
  | .sl i :: ps, true :: bs => i :: slotsOf ps bs
  | _ :: ps, _ :: bs => slotsOf ps bs
  | _, _ => []

def runFor (body : Env → R Fl) (t : MT) : List D → Env → R Fl
  | [], ρ => some (.nx, ρ)
  | d :: r, ρ => match asgT t (.val d) ρ with
    | some ρ1 => match body ρ1 with
      | some (.nx, ρ2) => runFor body t r ρ2
      | some (.ct, ρ2) => runFor body t r ρ2
      | some (.brk, ρ2) => some (.nx, ρ2)
      | some (.ret e, ρ2) => some (.ret e, ρ2)
      | none => none
    | none => none
/-- one turn: it goes on, or ends -/
def turnW (c : Env → R Bool) (body : Env → R Fl) (ρ : Env) : Option (Env ⊕ (Fl × Env)) :=
  match c ρ with
  | some (true, ρ1) => match body ρ1 with
    | some (.nx, ρ2) => some (.inl ρ2)
    | some (.ct, ρ2) => some (.inl ρ2)
    | some (.brk, ρ2) => some (.inr (.nx, ρ2))
    | some (.ret e, ρ2) => some (.inr (.ret e, ρ2))
    | none => none
  | some (false, ρ1) => some (.inr (.nx, ρ1))
  | none => none
def iterN (f : Env → Option (Env ⊕ (Fl × Env))) : Nat → Env → R Fl
  | 0, _ => none
  | n + 1, ρ => match f ρ with
    | some (.inl ρ1) => iterN f n ρ1
    | some (.inr r) => some r
    | none => none
open Classical in
noncomputable def iterW (f : Env → Option (Env ⊕ (Fl × Env))) (ρ : Env) : R Fl :=
  if h : ∃ n, (iterN f n ρ).isSome = true then iterN f h.choose ρ else none
def runComp (tests : Env → R Bool) (elt : Env → R Ent) (t : MT) (own : List Nat) : List D → Env → List D → R (List D)
  | [], ρ, acc => some (acc, ρ)
  | d :: r, ρ, acc => match asgT t (.val d) (wipeE ρ own) with
    | some ρ1 => match tests ρ1 with
      | some (true, ρ2) => match elt ρ2 with
        | some (e, ρ3) => match toD e with
          | some y => if acc.length < LIM then runComp tests elt t own r ρ3 (acc ++ [y]) else none
          | none => none
        | none => none
      | some (false, ρ2) => runComp tests elt t own r ρ2 acc
      | none => none
    | none => none

/-! ### the combinators -/
def evV (i : Nat) : Ev := { evMk (nameE i) with nm := some i }
def evC (d : D) : Ev := evMk fun ρ => some (.val d, ρ)
/-- an operation that reads its operands -/
def evOp (f : List Ent → Option Ent) (as : List Ev) : Ev := evMk fun ρ =>
  match args as ρ with
  | some (xs, ρ1) => match f xs with
    | some y => some (y, ρ1)
    | none => none
  | none => none
def evCmp (f : List Ent → Option Bool) (as : List Ev) : Ev := evTest fun ρ =>
  match args as ρ with
  | some (xs, ρ1) => match f xs with
    | some y => some (y, ρ1)
    | none => none
  | none => none
def fBin (op : Operator) : List Ent → Option Ent
  | [x, y] => binSem op x y
  | _ => none
def fNeg : List Ent → Option Ent
  | [.val (.int i)] => some (.val (.int (-i)))
  | _ => none
def fCmp (op : CmpOp) : List Ent → Option Bool
  | [x, y] => cmpSem op x y
  | _ => none
def fIdx : List Ent → Option Ent
  | [x, y] => idxSem x y
  | _ => none
def fRev : List Ent → Option Ent
  | [x] => revSem x
  | _ => none
def fIsi (t : Ty) : List Ent → Option Bool
  | [x] => isiSem t x
  | _ => none
/-- two whole numbers compared -/
def cmpI (op : CmpOp) (x y : Ent) : Option Bool :=
  match x, y with
  | .val (.int i), .val (.int j) => match op with
    | .Lt => some (decide (i < j))
    | .LtE => some (decide (i ≤ j))
    | .Gt => some (decide (j < i))
    | .GtE => some (decide (j ≤ i))
    | _ => none
  | _, _ => none
/-- a < b < c: three operands, the third only if the first two hold -/
def evCmp2 (o p : CmpOp) (a b c : Ev) : Ev := evTest fun ρ =>
  match args [a, b] ρ with
  | some ([x, y], ρ1) => match cmpI o x y with
    | some true => match args [c] ρ1 with
      | some ([z], ρ2) => match cmpI p y z with
        | some r => some (r, ρ2)
        | none => none
      | _ => none
    | some false => some (false, ρ1)
    | none => none
  | _ => none
def tAnds : List Ev → Env → R Bool
  | [], ρ => some (true, ρ)
  | a :: r, ρ => match a.t ρ with
    | some (true, ρ1) => tAnds r ρ1
    | some (false, ρ1) => some (false, ρ1)
    | none => none
def tOrs : List Ev → Env → R Bool
  | [], ρ => some (false, ρ)
  | a :: r, ρ => match a.t ρ with
    | some (true, ρ1) => some (true, ρ1)
    | some (false, ρ1) => tOrs r ρ1
    | none => none
def asBl (r : R Ent) : R Bool :=
  match r with
  | some (.val (.bool b), ρ) => some (b, ρ)
  | _ => none
def eAnds : List Ev → Env → R Ent
  | [], _ => none
  | [a], ρ => a.e ρ
  | a :: r, ρ => match asBl (a.e ρ) with
    | some (true, ρ1) => eAnds r ρ1
    | some (false, ρ1) => some (bv false, ρ1)
    | none => none
def eOrs : List Ev → Env → R Ent
  | [], _ => none
  | [a], ρ => a.e ρ
  | a :: r, ρ => match asBl (a.e ρ) with
    | some (true, ρ1) => some (bv true, ρ1)
    | some (false, ρ1) => eOrs r ρ1
    | none => none
def evAnd (as : List Ev) : Ev := ⟨none, eAnds as, tAnds as⟩
def evOr (as : List Ev) : Ev := ⟨none, eOrs as, tOrs as⟩
def notR (r : R Bool) : R Bool :=
  match r with
  | some (b, ρ) => some (!b, ρ)
  | none => none
def evNot (a : Ev) : Ev := ⟨none, fun ρ => asB (notR (asBl (a.e ρ))), fun ρ => notR (a.t ρ)⟩
def evIf (c a b : Ev) : Ev :=
  ⟨none, fun ρ => match c.t ρ with
    | some (true, ρ1) => a.e ρ1
    | some (false, ρ1) => b.e ρ1
    | none => none, fun ρ => match c.t ρ with
    | some (true, ρ1) => a.t ρ1
    | some (false, ρ1) => b.t ρ1
    | none => none⟩
def evTup (as : List Ev) : Ev := evMk fun ρ =>
  match items as ρ with
  | some (ds, ρ1) => if ds.length ≤ LIM then some (.val (.tuple ds), ρ1) else none
  | none => none
def evLst (as : List Ev) : Ev := evMk fun ρ =>
  match items as ρ with
  | some (ds, ρ1) => if ds.length ≤ LIM then some (.lst ds, ρ1) else none
  | none => none
def evE1 (x : Ent) : Ev := evMk fun ρ => some (x, ρ)
def evDct (ks : List Key) (vs : List Ev) : Ev := evMk fun ρ =>
  match items vs ρ with
  | some (ds, ρ1) => if ds.length = ks.length ∧ ks.Nodup ∧ ks.length ≤ 15 then some (.dct (ks.zip ds), ρ1) else none
  | none => none
def optI (x : Option Ev) (ρ : Env) : R (Option Int) :=
  match x with
  | none => some (none, ρ)
  | some a => match a.e ρ with
    | some (.val (.int i), ρ1) => some (some i, ρ1)
    | _ => none
def evSlc (a : Ev) (lo hi : Option Ev) : Ev := evMk fun ρ =>
  match pvOf a ρ with
  | some (p, ρ1) => match optI lo ρ1 with
    | some (l, ρ2) => match optI hi ρ2 with
      | some (h, ρ3) => match look p ρ3 with
        | some x => match slcSem x l h with
          | some y => some (y, ρ3)
          | none => none
        | none => none
      | none => none
    | none => none
  | none => none
def evCall (F : FT) (f : Str) (as : List Ev) : Ev := evMk fun ρ =>
  match F f with
  | some g => match argEs g.io as ρ with
    | some (ps, ρ1) => if (slotsOf ps g.io).Nodup then match looks ps ρ1 with
      | some xs => match g.sem xs with
        | some (y, os) => match putOuts ρ1 ps g.io os with
          | some ρ2 => some (y, ρ2)
          | none => none
        | none => none
      | none => none
      else none
    | none => none
  | none => none
def noneR (r : Option Env) : R Ent :=
  match r with
  | some ρ => some (.val .none, ρ)
  | none => none
def evApp (i : Nat) (a : Ev) : Ev := evMk fun ρ =>
  match get ρ i with
  | some (.lst _) => match a.e ρ with
    | some (x, ρ1) => match toD x, get ρ1 i with
      | some d, some (.lst ds) => if ds.length < LIM then some (.val .none, put ρ1 i (some (.lst (ds ++ [d])))) else none
      | _, _ => none
    | none => none
  | _ => none
def evExt (i : Nat) (a : Ev) : Ev := evMk fun ρ =>
  match get ρ i with
  | some (.lst _) => match a.e ρ with
    | some (x, ρ1) => match lstOf x, get ρ1 i with
      | some es, some (.lst ds) => if ds.length + es.length ≤ LIM then some (.val .none, put ρ1 i (some (.lst (ds ++ es)))) else none
      | _, _ => none
    | none => none
  | _ => none
def evPop (i : Nat) : Ev := evMk fun ρ =>
  match get ρ i with
  | some (.lst ds) => match ds[ds.length - 1]? with
    | some d => some (.val d, put ρ i (some (.lst ds.dropLast)))
    | none => none
  | _ => none
noncomputable def evPopAt (i : Nat) (a : Ev) : Ev := evMk fun ρ =>
  match get ρ i with
  | some (.lst _) => match a.e ρ with
    | some (.val (.int k), ρ1) => match get ρ1 i with
      | some (.lst ds) => match ixN ds.length k with
        | some j => match ds[j]? with
          | some d => if inB k then some (.val d, put ρ1 i (some (.lst (ds.eraseIdx j)))) else none
          | none => none
        | none => none
      | _ => none
    | _ => none
  | _ => none
noncomputable def evRng (as : List Ev) : Env → R (List D) := fun ρ =>
  match args as ρ with
  | some (xs, ρ1) => match rngSem xs with
    | some ds => some (ds, ρ1)
    | none => none
  | none => none
/-- a walk of a list or a tuple -/
def evSeq (a : Ev) : Env → R (List D) := fun ρ =>
  match a.e ρ with
  | some (x, ρ1) => match seqOf x with
    | some ds => some (ds, ρ1)
    | none => none
  | none => none
noncomputable def evLrng (as : List Ev) : Ev := evMk fun ρ =>
  match evRng as ρ with
  | some (ds, ρ1) => if ds.length ≤ LIM then some (.lst ds, ρ1) else none
  | none => none
def evComp (t : MT) (it : Env → R (List D)) (ifs : List Ev) (e : Ev) (own : List Nat) : Ev := evMk fun ρ =>
  match it ρ with
  | some (ds, ρ1) => match runComp (tAnds ifs) e.e t own ds ρ1 [] with
    | some (ys, ρ2) => some (.lst ys, backE ρ1 ρ2 own)
    | none => none
  | none => none
/-- return x: the name's own object goes to the caller -/
def evRet (a : Ev) (ρ : Env) : R Ent :=
  match a.nm with
  | some i => match get ρ i with
    | some x => some (x, match x with
      | .val _ => ρ
      | .ro _ => ρ
      | _ => put ρ i none)
    | none => none
  | none => a.e ρ

mutual
noncomputable def den (F : FT) : ME → Ev
  | .v i => evV i
  | .int k => evC (.int k)
  | .bl b => evC (.bool b)
  | .non => evC .none
  | .str s => evC (.str s)
  | .nop => evMk fun _ => none
  | .gc _ d => evC d
  | .bin op a b => evOp (fBin op) [den F a, den F b]
  | .neg a => evOp fNeg [den F a]
  | .cmp op a b => evCmp (fCmp op) [den F a, den F b]
  | .cmp2 o p a b c => evCmp2 o p (den F a) (den F b) (den F c)
  | .band as => evAnd (dens F as)
  | .bor as => evOr (dens F as)
  | .bnot a => evNot (den F a)
  | .ife c a b => evIf (den F c) (den F a) (den F b)
  | .tup as => evTup (dens F as)
  | .lst as => evLst (dens F as)
  | .dnewK => evE1 (.dct [])
  | .dnewT => evE1 (.dctT [])
  | .dct ks vs => evDct ks (dens F vs)
  | .idx a i => evOp fIdx [den F a, den F i]
  | .slc a lo hi => evSlc (den F a) (match lo with | .nop => none | _ => some (den F lo)) (match hi with | .nop => none | _ => some (den F hi))
  | .rev a => evOp fRev [den F a]
  | .blt f as => evOp (bltSem f) (dens F as)
  | .isi t a => evCmp (fIsi t) [den F a]
  | .call f as => evCall F f (dens F as)
  | .app i e => evApp i (den F e)
  | .ext i e => evExt i (den F e)
  | .pop i => evPop i
  | .popAt i e => evPopAt i (den F e)
  | .rem _ _ => evMk fun _ => none
  | .mindex _ _ => evMk fun _ => none
  | .mcount _ _ => evMk fun _ => none
  | .dget _ _ _ => evMk fun _ => none
  | .lrng as => evLrng (dens F as)
  | .comp t it ifs e own => evComp t (denI F it) (dens F ifs) (den F e) own
noncomputable def dens (F : FT) : List ME → List Ev
  | [] => []
  | a :: r => den F a :: dens F r
noncomputable def denI (F : FT) : MI → Env → R (List D)
  | .seq e => evSeq (den F e)
  | .rng as => evRng (dens F as)
  | .zip _ _ => fun _ => none
end

def sAsg (t : MT) (a : Ev) (ρ : Env) : R Fl :=
  match a.e ρ with
  | some (x, ρ1) => match asgT t x ρ1 with
    | some ρ2 => some (.nx, ρ2)
    | none => none
  | none => none
def sAsgs (ts : List MT) (as : List Ev) (ρ : Env) : R Fl :=
  match ents as ρ with
  | some (xs, ρ1) => match asgEs ts xs ρ1 with
    | some ρ2 => some (.nx, ρ2)
    | none => none
  | none => none
def setSem (o : Ent) (k : Ent) (d : D) : Option Ent :=
  match o, k with
  | .lst ds, .val (.int i) => (ixN ds.length i).map fun j => .lst (ds.set j d)
  | .dct kvs, .val k => match keyOf k with
    | some q => if kvs.length < LIM then some (.dct (putG kvs q d)) else none
    | none => none
  | .dctT kvs, .val k => match keyT k with
    | some q => if kvs.length < LIM then some (.dctT (putG kvs q d)) else none
    | none => none
  | _, _ => none
/-- x[k] = e: e, then x, then k -/
def sSetIx (i : Nat) (k e : Ev) (ρ : Env) : R Fl :=
  match e.e ρ with
  | some (x, ρ1) => match toD x, get ρ1 i with
    | some d, some _ => match k.e ρ1 with
      | some (q, ρ2) => match get ρ2 i with
        | some o => match setSem o q d with
          | some o' => some (.nx, put ρ2 i (some o'))
          | none => none
        | none => none
      | none => none
    | _, _ => none
  | none => none
def sAug (i : Nat) (op : Operator) (a : Ev) (ρ : Env) : R Fl :=
  match get ρ i with
  | some (.val (.int m)) => match a.e ρ with
    | some (.val (.int n), ρ1) => match intBin op m n with
      | some k => some (.nx, put ρ1 i (some (.val (.int k))))
      | none => none
    | _ => none
  | _ => none
def isOwnE : Ent → Bool
  | .lst _ => true
  | .dct _ => true
  | .dctT _ => true
  | _ => false
/-- x[k] op= e: x, k, x[k], e -/
def sAugIx (i : Nat) (k : Ev) (op : Operator) (e : Ev) (ρ : Env) : R Fl :=
  match get ρ i with
  | none => none
  | some _ => match k.e ρ with
    | some (q, ρ1) => match get ρ1 i with
      | some o => match (if isOwnE o then idxSem o q else none) with
        | some (.val (.int m)) => match e.e ρ1 with
          | some (.val (.int n), ρ2) => match intBin op m n, get ρ2 i with
            | some z, some o2 => match setSem o2 q (.int z) with
              | some o' => some (.nx, put ρ2 i (some o'))
              | none => none
            | _, _ => none
          | _ => none
        | _ => none
      | none => none
    | none => none
def sEx (a : Ev) (ρ : Env) : R Fl :=
  match a.e ρ with
  | some (_, ρ1) => some (.nx, ρ1)
  | none => none
def sIf (c : Ev) (a b : Env → R Fl) (ρ : Env) : R Fl :=
  match c.t ρ with
  | some (true, ρ1) => a ρ1
  | some (false, ρ1) => b ρ1
  | none => none
noncomputable def sWh (c : Ev) (b : Env → R Fl) (ρ : Env) : R Fl := iterW (turnW c.t b) ρ
def sFor (t : MT) (it : Env → R (List D)) (b : Env → R Fl) (ρ : Env) : R Fl :=
  match it ρ with
  | some (ds, ρ1) => runFor b t ds ρ1
  | none => none
def sRet (a : Ev) (ρ : Env) : R Fl :=
  match evRet a ρ with
  | some (x, ρ1) => some (.ret x, ρ1)
  | none => none
def sSeq (a b : Env → R Fl) (ρ : Env) : R Fl :=
  match a ρ with
  | some (.nx, ρ1) => b ρ1
  | r => r
mutual
noncomputable def denS (F : FT) : MS → Env → R Fl
  | .asg t e => sAsg t (den F e)
  | .asgs ts es => sAsgs ts (dens F es)
  | .setIx i k e => sSetIx i (den F k) (den F e)
  | .aug i op e => sAug i op (den F e)
  | .augIx i k op e => sAugIx i (den F k) op (den F e)
  | .ex e => sEx (den F e)
  | .ite c a b => sIf (den F c) (denSs F a) (denSs F b)
  | .wh c b => sWh (den F c) (denSs F b)
  | .for t it b => sFor t (denI F it) (denSs F b)
  | .ret e => sRet (den F e)
  | .retN => fun ρ => some (.ret (.val .none), ρ)
  | .brk => fun ρ => some (.brk, ρ)
  | .ct => fun ρ => some (.ct, ρ)
  | .pass => fun ρ => some (.nx, ρ)
noncomputable def denSs (F : FT) : List MS → Env → R Fl
  | [] => fun ρ => some (.nx, ρ)
  | s :: r => sSeq (denS F s) (denSs F r)
end
/-- a def's call: its parameters' contents in; what it gives, and the parameters that it may change -/
def start' (args : List Ent) (n : Nat) : Env := args.map some ++ List.replicate (n - args.length) none
def outsOf : Env → List Bool → Option (List Ent)
  | _, [] => some []
  | x :: r, true :: bs => match x, outsOf r bs with
    | some e, some es => some (e :: es)
    | _, _ => none
  | _ :: r, false :: bs => outsOf r bs
  | [], _ :: _ => none
structure MD where
  n : Nat
  io : List Bool
  body : List MS
noncomputable def runD (F : FT) (d : MD) (args : List Ent) : Option (Ent × List Ent) :=
  match denSs F d.body (start' args d.n) with
  | some (.ret x, ρ) => (outsOf ρ d.io).map fun os => (x, os)
  | some (.nx, ρ) => (outsOf ρ d.io).map fun os => (.val .none, os)
  | _ => none
end MP
set_option Elab.async false
set_option linter.all false
set_option maxRecDepth 100000
/-! MP1: what a value of the hand layer stands for, and how it stays -/
namespace MP
open PySem PySem.Spec PyProof.Rows L2

abbrev Sl := L2.St

/-! ### slots -/
theorem get_eq : ∀ (ρ : Env) (i : Nat), get ρ i = (ρ[i]?).join
  | [], i => by simp [get]
  | x :: r, 0 => by simp [get]
  | x :: r, i + 1 => by simp [get, get_eq r i]
theorem put_length : ∀ (ρ : Env) (i : Nat) (e : Option Ent), (put ρ i e).length = ρ.length
  | [], i, e => rfl
  | x :: r, 0, e => rfl
  | x :: r, i + 1, e => by simp [put, put_length r i e]
theorem get_put_self : ∀ (ρ : Env) (i : Nat) (e : Option Ent), i < ρ.length → get (put ρ i e) i = e
  | [], i, e, h => by simp at h
  | x :: r, 0, e, h => rfl
  | x :: r, i + 1, e, h => by
    show get (put r i e) i = e
    exact get_put_self r i e (by simpa using h)
theorem get_put_ne : ∀ (ρ : Env) (i j : Nat) (e : Option Ent), j ≠ i → get (put ρ i e) j = get ρ j
  | [], i, j, e, h => rfl
  | x :: r, 0, 0, e, h => absurd rfl h
  | x :: r, 0, j + 1, e, h => rfl
  | x :: r, i + 1, 0, e, h => rfl
  | x :: r, i + 1, j + 1, e, h => get_put_ne r i j e (by omega)
theorem get_lt : ∀ {ρ : Env} {i : Nat} {e : Ent}, get ρ i = some e → i < ρ.length
  | [], i, e, h => by simp [get] at h
  | x :: r, 0, e, h => by simp
  | x :: r, i + 1, e, h => by
    have := get_lt (ρ := r) (i := i) (e := e) h
    simp; exact this
theorem get_put {ρ : Env} {i j : Nat} {e : Option Ent} {x : Ent} (h : get (put ρ i e) j = some x) : (j = i ∧ e = some x) ∨ (j ≠ i ∧ get ρ j = some x) := by
  by_cases hj : j = i
  · subst hj
    by_cases hl : j < ρ.length
    · rw [get_put_self ρ j e hl] at h; exact .inl ⟨rfl, h⟩
    · have := get_lt h
      rw [put_length] at this
      exact absurd this hl
  · rw [get_put_ne ρ i j e hj] at h; exact .inr ⟨hj, h⟩

/-! ### data -/
/-- tuples and lists that stand in the text -/
structure Cst where
  t : Addr → List V → Prop
  l : Addr → List V → Prop
def TpA (K : Cst) (H : Hp) (a : Addr) (vs : List V) : Prop := H a = some (.tup vs) ∨ K.t a vs
section
variable (K : Cst) (Fz : Addr → Prop) (H : Hp)
mutual
/-- v stands for d, and goes on doing so while the tuples and the lists in Fz stay -/
def RF : PyData → V → Prop
  | .none, v => v = .non
  | .bool b, v => v = .bl b
  | .int i, v => v = .int i
  | .str s, v => v = .str s
  | .tuple ds, v => ∃ a vs, v = .ref a ∧ TpA K H a vs ∧ RFs ds vs
  | .list ds, v => ∃ a vs, v = .ref a ∧ Fz a ∧ H a = some (.lst vs) ∧ RFs ds vs
  | .dict _, _ => False
def RFs : List PyData → List V → Prop
  | [], vs => vs = []
  | d :: ds, vs => ∃ v r, vs = v :: r ∧ RF d v ∧ RFs ds r
end
def kRel {κ : Type} (kvs : List (κ × PyData)) (us : List (κ × V)) : Prop := us.map (·.1) = kvs.map (·.1) ∧ RFs K Fz H (kvs.map (·.2)) (us.map (·.2))
def RE : Ent → V → Prop
  | .val d, v => RF K Fz H d v
  | .lst ds, v => ∃ a vs, v = .ref a ∧ ¬ Fz a ∧ H a = some (.lst vs) ∧ RFs K Fz H ds vs
  | .dct kvs, v => ∃ a us, v = .ref a ∧ ¬ Fz a ∧ H a = some (.dK us) ∧ kRel K Fz H kvs us
  | .dctT kvs, v => ∃ a us, v = .ref a ∧ ¬ Fz a ∧ H a = some (.dT us) ∧ kRel K Fz H kvs us
  | .ro ds, v => ∃ a vs, v = .ref a ∧ ((Fz a ∧ H a = some (.lst vs)) ∨ (∃ o, H a = some (.frz o (.lst vs))) ∨ K.l a vs) ∧ RFs K Fz H ds vs
end
def OwnV : Ent → V → Addr → Prop
  | .lst _, v, a => v = .ref a
  | .dct _, v, a => v = .ref a
  | .dctT _, v, a => v = .ref a
  | _, _, _ => False
def Own (ρ : Env) (σ : Sl) (a : Addr) : Prop := ∃ i e v, get ρ i = some e ∧ σ[i]? = some (some v) ∧ OwnV e v a

structure Rel (K : Cst) (Fz : Addr → Prop) (ρ : Env) (σ : Sl) (H : Hp) : Prop where
  len : ρ.length = σ.length
  re : ∀ i e, get ρ i = some e → ∃ v, σ[i]? = some (some v) ∧ RE K Fz H e v
  ap : ∀ i j e e' v v' a, get ρ i = some e → get ρ j = some e' → σ[i]? = some (some v) → σ[j]? = some (some v') → OwnV e v a → OwnV e' v' a → i = j
  fzH : ∀ a, Fz a → ∃ vs, H a = some (.lst vs)

/-- from one state to another: what may have changed -/
structure Mv (K : Cst) (Fz : Addr → Prop) (ρ : Env) (σ : Sl) (H : Hp) (Fz' : Addr → Prop) (ρ' : Env) (σ' : Sl) (H' : Hp) : Prop where
  rel : Rel K Fz' ρ' σ' H'
  fz : ∀ a, Fz a → Fz' a
  fzn : ∀ a, Fz' a → Fz a ∨ Own ρ σ a ∨ H a = none
  own : ∀ a, Own ρ' σ' a → Own ρ σ a ∨ H a = none
  frame : ∀ b o, H b = some o → ¬ Own ρ σ b → H' b = some o

section
variable {K : Cst} {Fz Fz' Fz2 : Addr → Prop} {ρ ρ' ρ2 : Env} {σ σ' σ2 : Sl} {H H' H2 : Hp}
/-- what may be written: lists, dicts -/
def Wr : HO → Prop
  | .lst _ => True
  | .dK _ => True
  | .dT _ => True
  | _ => False
theorem RE.own {e : Ent} {v : V} {a : Addr} (r : RE K Fz H e v) (o : OwnV e v a) : ¬ Fz a ∧ ∃ h, H a = some h ∧ Wr h := by
  cases e with
  | val d => exact False.elim o
  | ro ds => exact False.elim o
  | lst ds =>
    obtain ⟨b, vs, e1, nf, hb, _⟩ := r
    have e2 : v = .ref a := o
    rw [e1] at e2
    cases e2
    exact ⟨nf, _, hb, trivial⟩
  | dct ds =>
    obtain ⟨b, vs, e1, nf, hb, _⟩ := r
    have e2 : v = .ref a := o
    rw [e1] at e2
    cases e2
    exact ⟨nf, _, hb, trivial⟩
  | dctT ds =>
    obtain ⟨b, vs, e1, nf, hb, _⟩ := r
    have e2 : v = .ref a := o
    rw [e1] at e2
    cases e2
    exact ⟨nf, _, hb, trivial⟩
theorem Rel.own (R : Rel K Fz ρ σ H) {a : Addr} (o : Own ρ σ a) : ¬ Fz a ∧ ∃ h, H a = some h ∧ Wr h := by
  obtain ⟨i, e, v, g, s, w⟩ := o
  obtain ⟨v', s', r⟩ := R.re i e g
  rw [s] at s'
  cases s'
  exact r.own w

/-- what must stay for data to stay -/
structure Stay (K : Cst) (Fz : Addr → Prop) (H : Hp) (Fz' : Addr → Prop) (H' : Hp) : Prop where
  fz : ∀ a, Fz a → Fz' a
  lst : ∀ a vs, Fz a → H a = some (.lst vs) → H' a = some (.lst vs)
  tup : ∀ a vs, H a = some (.tup vs) → H' a = some (.tup vs)
  frz : ∀ a o u, H a = some (.frz o u) → H' a = some (.frz o u)
theorem Stay.sqT (S : Stay K Fz H Fz' H') {a : Addr} {vs : List V} (h : TpA K H a vs) : TpA K H' a vs := h.imp (S.tup _ _) id
mutual
theorem RF.stay (S : Stay K Fz H Fz' H') : ∀ (d : PyData) (v : V), RF K Fz H d v → RF K Fz' H' d v
  | .none, v, h => by simpa only [RF] using h
  | .bool b, v, h => by simpa only [RF] using h
  | .int i, v, h => by simpa only [RF] using h
  | .str s, v, h => by simpa only [RF] using h
  | .tuple ds, v, h => by
    simp only [RF] at h ⊢
    obtain ⟨a, vs, e, t, r⟩ := h
    exact ⟨a, vs, e, S.sqT t, RFs.stay S ds vs r⟩
  | .list ds, v, h => by
    simp only [RF] at h ⊢
    obtain ⟨a, vs, e, f, t, r⟩ := h
    exact ⟨a, vs, e, S.fz a f, S.lst a vs f t, RFs.stay S ds vs r⟩
  | .dict kvs, v, h => by simp only [RF] at h
theorem RFs.stay (S : Stay K Fz H Fz' H') : ∀ (ds : List PyData) (vs : List V), RFs K Fz H ds vs → RFs K Fz' H' ds vs
  | [], vs, h => by simpa only [RFs] using h
  | d :: ds, vs, h => by
    simp only [RFs] at h ⊢
    obtain ⟨v, r, e, h1, h2⟩ := h
    exact ⟨v, r, e, RF.stay S d v h1, RFs.stay S ds r h2⟩
end
theorem Mv.stay (R : Rel K Fz ρ σ H) (M : Mv K Fz ρ σ H Fz' ρ' σ' H') : Stay K Fz H Fz' H' where
  fz := M.fz
  lst := fun a vs f h => M.frame a _ h fun o => (R.own o).1 f
  tup := fun a vs h => M.frame a _ h fun o => by
    obtain ⟨_, u, hu, w⟩ := R.own o
    rw [h] at hu; cases hu; exact w
  frz := fun a ob u h => M.frame a _ h fun o => by
    obtain ⟨_, u, hu, w⟩ := R.own o
    rw [h] at hu; cases hu; exact w
theorem kRel.stay {κ : Type} (S : Stay K Fz H Fz' H') {kvs : List (κ × PyData)} {us : List (κ × V)} (h : kRel K Fz H kvs us) : kRel K Fz' H' kvs us := ⟨h.1, RFs.stay S _ _ h.2⟩
/-- a value that is held apart from the slots -/
structure Tmp (K : Cst) (Fz : Addr → Prop) (ρ : Env) (σ : Sl) (H : Hp) (e : Ent) (v : V) : Prop where
  re : RE K Fz H e v
  no : ∀ a, OwnV e v a → ¬ Own ρ σ a
theorem RE.stay (S : Stay K Fz H Fz' H') {e : Ent} {v : V} (h : RE K Fz H e v) (w : ∀ a, OwnV e v a → ¬ Fz' a ∧ ∀ o, H a = some o → H' a = some o) : RE K Fz' H' e v := by
  cases e with
  | val d => exact RF.stay S d v h
  | lst ds =>
    obtain ⟨a, vs, e1, nf, hb, r⟩ := h
    obtain ⟨n, k⟩ := w a e1
    exact ⟨a, vs, e1, n, k _ hb, RFs.stay S _ _ r⟩
  | dct ds =>
    obtain ⟨a, vs, e1, nf, hb, r⟩ := h
    obtain ⟨n, k⟩ := w a e1
    exact ⟨a, vs, e1, n, k _ hb, kRel.stay S r⟩
  | dctT ds =>
    obtain ⟨a, vs, e1, nf, hb, r⟩ := h
    obtain ⟨n, k⟩ := w a e1
    exact ⟨a, vs, e1, n, k _ hb, kRel.stay S r⟩
  | ro ds =>
    obtain ⟨a, vs, e1, c, r⟩ := h
    refine ⟨a, vs, e1, ?_, RFs.stay S _ _ r⟩
    rcases c with ⟨f, hb⟩ | ⟨o, hb⟩ | c
    · exact .inl ⟨S.fz a f, S.lst a vs f hb⟩
    · exact .inr (.inl ⟨o, S.frz a o _ hb⟩)
    · exact .inr (.inr c)
/-- it outlives what moves -/
theorem Tmp.move (R : Rel K Fz ρ σ H) (M : Mv K Fz ρ σ H Fz' ρ' σ' H') {e : Ent} {v : V} (T : Tmp K Fz ρ σ H e v) : Tmp K Fz' ρ' σ' H' e v where
  re := RE.stay (M.stay R) T.re fun a o => by
    obtain ⟨nf, u, hu, w⟩ := T.re.own o
    refine ⟨fun f => ?_, fun ob hb => M.frame a ob hb (T.no a o)⟩
    rcases M.fzn a f with z | z | z
    · exact nf z
    · exact T.no a o z
    · rw [hu] at z; cases z
  no := fun a o z => by
    obtain ⟨nf, u, hu, w⟩ := T.re.own o
    rcases M.own a z with q | q
    · exact T.no a o q
    · rw [hu] at q; cases q
theorem Mv.refl (R : Rel K Fz ρ σ H) : Mv K Fz ρ σ H Fz ρ σ H := ⟨R, fun _ h => h, fun _ h => .inl h, fun _ h => .inl h, fun _ _ h _ => h⟩
theorem Mv.nn (M : Mv K Fz ρ σ H Fz' ρ' σ' H') {a : Addr} (h : H' a = none) : Own ρ σ a ∨ H a = none := by
  cases q : H a with
  | none => exact .inr rfl
  | some o =>
    by_cases w : Own ρ σ a
    · exact .inl w
    · rw [M.frame a o q w] at h; cases h
theorem Mv.trans (M : Mv K Fz ρ σ H Fz' ρ' σ' H') (N : Mv K Fz' ρ' σ' H' Fz2 ρ2 σ2 H2) : Mv K Fz ρ σ H Fz2 ρ2 σ2 H2 where
  rel := N.rel
  fz := fun a h => N.fz a (M.fz a h)
  fzn := fun a h => by
    rcases N.fzn a h with z | z | z
    · exact M.fzn a z
    · exact .inr (M.own a z)
    · exact .inr (M.nn z)
  own := fun a h => by
    rcases N.own a h with z | z
    · exact M.own a z
    · exact M.nn z
  frame := fun b o h n => N.frame b o (M.frame b o h n) fun z => by
    rcases M.own b z with q | q
    · exact n q
    · rw [h] at q; cases q

/-- a value that an expression gave: held apart, its own object new or a slot's before -/
structure Out (K : Cst) (ρ0 : Env) (σ0 : Sl) (H0 : Hp) (Fz : Addr → Prop) (ρ : Env) (σ : Sl) (H : Hp) (e : Ent) (v : V) : Prop extends Tmp K Fz ρ σ H e v where
  new : ∀ a, OwnV e v a → Own ρ0 σ0 a ∨ H0 a = none
theorem Out.data {d : PyData} {v : V} {ρ0 : Env} {σ0 : Sl} {H0 : Hp} (h : RF K Fz H d v) : Out K ρ0 σ0 H0 Fz ρ σ H (.val d) v := ⟨⟨h, fun _ o => False.elim o⟩, fun _ o => False.elim o⟩
/-- what began further back -/
theorem Out.back {ρ0 : Env} {σ0 : Sl} {H0 : Hp} {Fz0 Fz1 : Addr → Prop} {ρ1 : Env} {σ1 : Sl} {H1 : Hp} {e : Ent} {v : V} (M : Mv K Fz0 ρ0 σ0 H0 Fz1 ρ1 σ1 H1) (h : Out K ρ1 σ1 H1 Fz ρ σ H e v) : Out K ρ0 σ0 H0 Fz ρ σ H e v :=
  ⟨h.toTmp, fun a o => by
    rcases h.new a o with z | z
    · exact M.own a z
    · exact M.nn z⟩

/-- a new object in the heap -/
theorem Stay.new {p : Addr} {o : HO} (n : H p = none) : Stay K Fz H Fz (upd H p o) :=
  ⟨fun _ h => h, fun a vs _ h => by rw [upd_ne (ne_of_none h n)]; exact h, fun a vs h => by rw [upd_ne (ne_of_none h n)]; exact h, fun a ob u h => by rw [upd_ne (ne_of_none h n)]; exact h⟩
theorem Rel.stay (R : Rel K Fz ρ σ H) (S : Stay K Fz H Fz' H') (k : ∀ a, Own ρ σ a → ¬ Fz' a ∧ ∀ o, H a = some o → H' a = some o) (f : ∀ a, Fz' a → ∃ vs, H' a = some (.lst vs)) : Rel K Fz' ρ σ H' where
  len := R.len
  re := fun i e g => by
    obtain ⟨v, s, r⟩ := R.re i e g
    exact ⟨v, s, r.stay S fun a o => k a ⟨i, e, v, g, s, o⟩⟩
  ap := R.ap
  fzH := f
theorem Mv.new (R : Rel K Fz ρ σ H) {p : Addr} {o : HO} (n : H p = none) : Mv K Fz ρ σ H Fz ρ σ (upd H p o) := by
  have kp : ∀ b ob, H b = some ob → (upd H p o) b = some ob := fun b ob h => by rw [upd_ne (ne_of_none h n)]; exact h
  refine ⟨R.stay (Stay.new n) (fun a w => ⟨(R.own w).1, kp a⟩) fun a f => ?_, fun _ h => h, fun _ h => .inl h, fun _ h => .inl h, fun b ob h _ => kp b ob h⟩
  obtain ⟨vs, h⟩ := R.fzH a f
  exact ⟨vs, kp _ _ h⟩
theorem Rel.nfz (R : Rel K Fz ρ σ H) {p : Addr} (n : H p = none) : ¬ Fz p := fun f => by
  obtain ⟨vs, h⟩ := R.fzH p f
  rw [n] at h; cases h
theorem Rel.nown (R : Rel K Fz ρ σ H) {p : Addr} (n : H p = none) : ¬ Own ρ σ p := fun o => by
  obtain ⟨_, u, hu, _⟩ := R.own o
  rw [n] at hu; cases hu
/-- a value that is held apart is put among the lists that no one changes -/
theorem Out.frz {ρ0 : Env} {σ0 : Sl} {H0 : Hp} {Fz0 : Addr → Prop} {ds : List PyData} {v : V} (M : Mv K Fz0 ρ0 σ0 H0 Fz ρ σ H) (O : Out K ρ0 σ0 H0 Fz ρ σ H (.lst ds) v) :
    ∃ Fz', Mv K Fz0 ρ0 σ0 H0 Fz' ρ σ H ∧ RF K Fz' H (.list ds) v := by
  obtain ⟨a, vs, e1, nf, ha, r⟩ := O.re
  have S : Stay K Fz H (fun b => Fz b ∨ b = a) H := ⟨fun _ h => .inl h, fun _ _ _ h => h, fun _ _ h => h, fun _ _ _ h => h⟩
  refine ⟨fun b => Fz b ∨ b = a, ⟨M.rel.stay S (fun b w => ⟨fun z => ?_, fun _ h => h⟩) fun b f => ?_, fun b h => .inl (M.fz b h), fun b f => ?_, M.own, M.frame⟩, ?_⟩
  · rcases z with z | z
    · exact (M.rel.own w).1 z
    · subst z; exact O.no b e1 w
  · rcases f with f | f
    · exact M.rel.fzH b f
    · subst f; exact ⟨_, ha⟩
  · rcases f with f | f
    · exact M.fzn b f
    · subst f; exact .inr (O.new b e1)
  · simp only [RF]
    exact ⟨a, vs, e1, .inr rfl, ha, RFs.stay S _ _ r⟩
/-- any value as data -/
theorem Out.toD {ρ0 : Env} {σ0 : Sl} {H0 : Hp} {Fz0 : Addr → Prop} {e : Ent} {d : PyData} {v : V} (M : Mv K Fz0 ρ0 σ0 H0 Fz ρ σ H) (O : Out K ρ0 σ0 H0 Fz ρ σ H e v) (h : toD e = some d) :
    ∃ Fz', Mv K Fz0 ρ0 σ0 H0 Fz' ρ σ H ∧ RF K Fz' H d v := by
  cases e with
  | val d' => cases h; exact ⟨Fz, M, O.re⟩
  | lst ds => cases h; exact O.frz M
  | dct _ => cases h
  | dctT _ => cases h
  | ro _ => cases h
/-- a slot's content changed (same object, same or other way of holding) -/
theorem Rel.put (R : Rel K Fz ρ σ H) {i : Nat} {e : Ent} {v : V} (hs : σ[i]? = some (some v)) (he : RE K Fz H e v) (ow : ∀ a, OwnV e v a → ∀ j e' v', j ≠ i → MP.get ρ j = some e' → σ[j]? = some (some v') → ¬ OwnV e' v' a) : Rel K Fz (MP.put ρ i (some e)) σ H where
  len := by rw [put_length]; exact R.len
  re := fun j x g => by
    rcases get_put g with ⟨rfl, q⟩ | ⟨hj, q⟩
    · cases q; exact ⟨v, hs, he⟩
    · exact R.re j x q
  ap := fun j k x y u w a g1 g2 s1 s2 o1 o2 => by
    rcases get_put g1 with ⟨rfl, q1⟩ | ⟨h1, q1⟩ <;> rcases get_put g2 with ⟨rfl, q2⟩ | ⟨h2, q2⟩
    · rfl
    · cases q1
      rw [hs] at s1; cases s1
      exact absurd o2 (ow a o1 k y w h2 q2 s2)
    · cases q2
      rw [hs] at s2; cases s2
      exact absurd o1 (ow a o2 j x u h1 q1 s1)
    · exact R.ap j k x y u w a q1 q2 s1 s2 o1 o2
  fzH := R.fzH
/-- a slot forgotten -/
theorem Rel.drop (R : Rel K Fz ρ σ H) (i : Nat) : Rel K Fz (MP.put ρ i none) σ H where
  len := by rw [put_length]; exact R.len
  re := fun j x g => by
    rcases get_put g with ⟨rfl, q⟩ | ⟨hj, q⟩
    · cases q
    · exact R.re j x q
  ap := fun j k x y u w a g1 g2 s1 s2 o1 o2 => by
    rcases get_put g1 with ⟨rfl, q1⟩ | ⟨h1, q1⟩
    · cases q1
    rcases get_put g2 with ⟨rfl, q2⟩ | ⟨h2, q2⟩
    · cases q2
    exact R.ap j k x y u w a q1 q2 s1 s2 o1 o2
  fzH := R.fzH
theorem Own.put {i : Nat} {x : Option Ent} {a : Addr} (h : Own (MP.put ρ i x) σ a) : (∃ e v, x = some e ∧ σ[i]? = some (some v) ∧ OwnV e v a) ∨ Own ρ σ a := by
  obtain ⟨j, e, v, g, s, w⟩ := h
  rcases get_put g with ⟨rfl, q⟩ | ⟨hj, q⟩
  · exact .inl ⟨e, v, q, s, w⟩
  · exact .inr ⟨j, e, v, q, s, w⟩
/-- a name's own list becomes data -/
theorem Rel.frzSlot (R : Rel K Fz ρ σ H) {i : Nat} {ds : List PyData} (g : MP.get ρ i = some (.lst ds)) : ∃ v Fz', σ[i]? = some (some v) ∧ RF K Fz' H (.list ds) v ∧ Mv K Fz ρ σ H Fz' (MP.put ρ i (some (.val (.list ds)))) σ H := by
  obtain ⟨v, s, a, vs, e1, nf, ha, r⟩ := R.re i _ g
  have S : Stay K Fz H (fun b => Fz b ∨ b = a) H := ⟨fun _ h => .inl h, fun _ _ _ h => h, fun _ _ h => h, fun _ _ _ h => h⟩
  have rf : RF K (fun b => Fz b ∨ b = a) H (.list ds) v := by
    simp only [RF]
    exact ⟨a, vs, e1, .inr rfl, ha, RFs.stay S _ _ r⟩
  have oi : Own ρ σ a := ⟨i, _, v, g, s, e1⟩
  refine ⟨v, _, s, rf, ⟨?_, fun b h => .inl h, fun b f => ?_, fun b o => ?_, fun b o h _ => h⟩⟩
  · refine ⟨by rw [put_length]; exact R.len, fun j x gj => ?_, fun j k x y u w b g1 g2 s1 s2 o1 o2 => ?_, fun b f => ?_⟩
    · rcases get_put gj with ⟨rfl, q⟩ | ⟨hj, q⟩
      · cases q; exact ⟨v, s, rf⟩
      · obtain ⟨u, su, ru⟩ := R.re j x q
        refine ⟨u, su, ru.stay S fun b ob => ⟨fun z => ?_, fun _ h => h⟩⟩
        rcases z with z | z
        · exact (ru.own ob).1 z
        · subst z; exact hj (R.ap j i x _ u v b q g su s ob e1)
    · rcases get_put g1 with ⟨rfl, q1⟩ | ⟨h1, q1⟩
      · cases q1; exact False.elim o1
      rcases get_put g2 with ⟨rfl, q2⟩ | ⟨h2, q2⟩
      · cases q2; exact False.elim o2
      exact R.ap j k x y u w b q1 q2 s1 s2 o1 o2
    · rcases f with f | f
      · exact R.fzH b f
      · subst f; exact ⟨_, ha⟩
  · rcases f with f | f
    · exact .inl f
    · subst f; exact .inr (.inl oi)
  · rcases Own.put o with ⟨e, u, q, _, w⟩ | z
    · cases q; exact False.elim w
    · exact .inl z
end
end MP
set_option Elab.async false
set_option linter.all false
set_option maxRecDepth 100000
/-! MP2: expressions: the interpreter's answer is what the code gives -/
namespace MP
open PySem PySem.Spec PyProof.Rows L2

/-- a def's promise by its interpreted meaning -/
def outEnv : List Bool → List Ent → Env
  | true :: bs, o :: os => some o :: outEnv bs os
  | false :: bs, os => none :: outEnv bs os
  | _, _ => []
def isOwn : Ent → Bool
  | .lst _ => true
  | .dct _ => true
  | .dctT _ => true
  | _ => false
/-- only what is told may be an object of its own -/
def modesOk : List Bool → List Ent → Bool
  | [], [] => true
  | b :: bs, x :: xs => (b || !isOwn x) && modesOk bs xs
  | _, _ => false
def spOf (K : Cst) (g : Fn) : Sp := fun vs H Q _ => ∃ (Fz : Addr → Prop) (xs : List Ent) (y : Ent) (os : List Ent), g.sem xs = some (y, os) ∧ modesOk g.io xs = true ∧
  Rel K Fz (xs.map some) (vs.map some) H ∧
  ∀ v H' Fz', Mv K Fz (xs.map some) (vs.map some) H Fz' (outEnv g.io os) (vs.map some) H' → Out K (xs.map some) (vs.map some) H Fz' (outEnv g.io os) (vs.map some) H' y v → Q v H'
structure FnIs (X : Cx) (K : Cst) (f : Str) (g : Fn) : Prop where
  is : ∃ (a : Addr) (fd : FuncData) (ps : List Str) (k : Nat), X.mg f = some (.ref a) ∧ PySem.W.keepIn X.K (.ref a) = true ∧ Binds X.K fd ps [] ∧ FnOk X.prog X.w X.K X.mg X.base CX0 k a fd ps (spOf K g) ∧ Room k X.A
def bltL : List Str := ["len", "abs", "int", "sum", "max", "min", "sorted", "list", "tuple", "all", "any", "isinstance", "range", "bool", "str", "zip", "set", "dict", "enumerate", "reversed"]
structure GoodE (X : Cx) (K : Cst) (F : FT) : Prop where
  nd : X.N.Nodup
  calm : X.calm = true
  hu : X.A.units + 65 < cLine
  ct : ∀ a vs, K.t a vs → ∀ H, SqT X.K H a vs
  cl : ∀ a vs, K.l a vs → ∀ H, SqL X.K H a vs
  ck : ∀ a vs, K.t a vs → ∃ o, X.K.lookup a = some o ∧ o.cls = .type "tuple"
  bn : ∀ x ∈ bltL, X.mg x = none
  fn : ∀ f g, F f = some g → FnIs X K f g

section
variable {X : Cx} {K : Cst} {F : FT}
def ValOk (K : Cst) (t : TE) (f : Env → R Ent) : Prop :=
  ∀ Fz ρ σ H r ρ' (Q : VK), f ρ = some (r, ρ') → Rel K Fz ρ σ H → (∀ v H' Fz', Mv K Fz ρ σ H Fz' ρ' σ H' → Out K ρ σ H Fz' ρ' σ H' r v → Q v H') → t σ H Q
def TstOk (K : Cst) (t : TT) (f : Env → R Bool) : Prop :=
  ∀ Fz ρ σ H b ρ' (Q : Bool → Hp → Prop), f ρ = some (b, ρ') → Rel K Fz ρ σ H → (∀ H' Fz', Mv K Fz ρ σ H Fz' ρ' σ H' → Q b H') → t σ H Q
def PvOut (K : Cst) (ρ0 : Env) (σ0 : Sl) (H0 : Hp) (Fz : Addr → Prop) (ρ : Env) (σ : Sl) (H : Hp) (p : PV) (v : V) : Prop :=
  match p with
  | .sl i => σ[i]? = some (some v)
  | .tm e => Out K ρ0 σ0 H0 Fz ρ σ H e v
def PvOk (K : Cst) (t : TE) (f : Env → R PV) : Prop :=
  ∀ Fz ρ σ H p ρ' (Q : VK), f ρ = some (p, ρ') → Rel K Fz ρ σ H → (∀ v H' Fz', Mv K Fz ρ σ H Fz' ρ' σ H' → PvOut K ρ σ H Fz' ρ' σ H' p v → Q v H') → t σ H Q
def NS (a : Expr) : Prop := ∀ es env, starEach (a :: es) env = (false, eval a env) :: starEach es env
def PL (a : Expr) : Prop := ∀ env whole, isTrue a env whole = (do let v ← whole; standAt a.pos; holding [v] (truthy v))
def MK (a : Expr) : Prop := ∀ op, behindInMarks op a = false
/-- what it is not: starred, a set display, a slice -/
structure Plain (a : Expr) : Prop where
  ns : NS a
  mrk : MK a
  ix : PlainIx a
structure SE (X : Cx) (K : Cst) (ev : Ev) (a : Expr) : Prop where
  pn : Plain a
  val : ∃ t, PE X a t ∧ ValOk K t ev.e
  tst : ∃ t, PT X a t ∧ TstOk K t ev.t
  nm : ∀ i, ev.nm = some i → PE X a (tVar i)

/-! ### truth -/
theorem RFs.empty {Fz : Addr → Prop} {H : Hp} {ds : List D} {vs : List V} (r : RFs K Fz H ds vs) : ds.isEmpty = vs.isEmpty := by
  cases ds with
  | nil => simp only [RFs] at r; subst r; rfl
  | cons d r' => simp only [RFs] at r; obtain ⟨v, r, e, _⟩ := r; subst e; rfl
theorem RFs.length {Fz : Addr → Prop} {H : Hp} : ∀ {ds : List D} {vs : List V}, RFs K Fz H ds vs → ds.length = vs.length
  | [], vs, r => by simp only [RFs] at r; subst r; rfl
  | d :: ds, vs, r => by
    simp only [RFs] at r
    obtain ⟨v, r', e, _, h⟩ := r
    subst e
    simp [RFs.length h]
theorem TpA.sq (G : GoodE X K F) {H : Hp} {a : Addr} {vs : List V} (h : TpA K H a vs) : SqT X.K H a vs := by
  rcases h with h | h
  · exact .inl (.inl h)
  · exact G.ct a vs h H
theorem truV (G : GoodE X K F) {Fz : Addr → Prop} {H : Hp} {e : Ent} {v : V} {b : Bool} (h : RE K Fz H e v) (t : truSem e = some b) : TruV X.K v H b := by
  cases e with
  | dct _ => cases t
  | dctT _ => cases t
  | ro _ => cases t
  | lst ds =>
    obtain ⟨a, vs, e1, nf, ha, r⟩ := h
    subst e1
    cases t
    exact .inl ⟨vs, .inl (.inl ha), by rw [r.empty]⟩
  | val d =>
    cases d with
    | none => cases t; have h : v = .non := by simpa only [RE, RF] using h
              subst h; rfl
    | bool b => cases t; have h : v = .bl b := by simpa only [RE, RF] using h
                subst h; rfl
    | int i => cases t; have h : v = .int i := by simpa only [RE, RF] using h
               subst h; rfl
    | str s => cases t
    | dict _ => cases t
    | list ds =>
      cases t
      simp only [RE, RF] at h
      obtain ⟨a, vs, e1, nf, ha, r⟩ := h
      subst e1
      exact .inl ⟨vs, .inl (.inl ha), by rw [r.empty]⟩
    | tuple ds =>
      cases t
      simp only [RE, RF] at h
      obtain ⟨a, vs, e1, ha, r⟩ := h
      subst e1
      exact .inr (.inl ⟨vs, ha.sq G, by rw [r.empty]⟩)
theorem tst_mk (G : GoodE X K F) {a : Expr} {f : Env → R Ent} (pl : PL a) (h : ∃ t, PE X a t ∧ ValOk K t f) : ∃ t, PT X a t ∧ TstOk K t (fun ρ => tru (f ρ)) := by
  obtain ⟨t, p, ok⟩ := h
  refine ⟨_, pt_truth p (fun whole => pl X.env whole), fun Fz ρ σ H b ρ' Q hf R q => ?_⟩
  have hf : tru (f ρ) = some (b, ρ') := hf
  cases e : f ρ with
  | none => rw [e] at hf; cases hf
  | some z =>
    obtain ⟨r, ρ1⟩ := z
    rw [e] at hf
    simp only [tru] at hf
    cases e2 : truSem r with
    | none => rw [e2] at hf; cases hf
    | some k =>
      rw [e2] at hf
      cases hf
      exact ok Fz ρ σ H r ρ' _ e R fun v H' Fz' M O => ⟨b, truV G O.re e2, q H' Fz' M⟩
theorem se_mk (G : GoodE X K F) {a : Expr} {f : Env → R Ent} (pn : Plain a) (pl : PL a) (h : ∃ t, PE X a t ∧ ValOk K t f) : SE X K (evMk f) a :=
  ⟨pn, h, tst_mk G pl h, fun i e => by cases e⟩
/-- a bool, as a test (a call of isinstance, say) -/
theorem tst_b {a : Expr} {f : Env → R Bool} (pl : PL a) (h : ∃ t, PE X a t ∧ ValOk K t (fun ρ => asB (f ρ))) : ∃ t, PT X a t ∧ TstOk K t f := by
  obtain ⟨t, p, ok⟩ := h
  refine ⟨_, pt_truth p (fun whole => pl X.env whole), fun Fz ρ σ H b ρ' Q hf R q => ?_⟩
  refine ok Fz ρ σ H (bv b) ρ' _ (by show asB (f ρ) = _; rw [hf]; rfl) R fun v H' Fz' M O => ⟨b, ?_, q H' Fz' M⟩
  have h : v = .bl b := by simpa only [bv, RE, RF] using O.re
  subst h; rfl

/-! ### names and constants -/
theorem se_v (G : GoodE X K F) {i : Nat} {x : Str} {p : Pos} (hN : X.N[i]? = some x) (hv : Vis X.env.scope x) (hd : (x == ("__debug__" : Str)) = false) (hcd : (x == ("__classdict__" : Str)) = false) : SE X K (evV i) (.Name x p) := by
  have pe := pe_var (X := X) (pos := p) hN hv hd hcd
  have val : ∃ t, PE X (.Name x p) t ∧ ValOk K t (nameE i) := by
    refine ⟨_, pe, fun Fz ρ σ H r ρ' Q hf R q => ?_⟩
    unfold nameE at hf
    cases g : get ρ i with
    | none => rw [g] at hf; cases hf
    | some e =>
      rw [g] at hf
      cases e with
      | dct _ => cases hf
      | dctT _ => cases hf
      | val d =>
        cases hf
        obtain ⟨v, s, re⟩ := R.re i _ g
        exact ⟨v, s, q v H Fz (Mv.refl R) (Out.data re)⟩
      | ro d =>
        cases hf
        obtain ⟨v, s, re⟩ := R.re i _ g
        exact ⟨v, s, q v H Fz (Mv.refl R) ⟨⟨re, fun _ o => False.elim o⟩, fun _ o => False.elim o⟩⟩
      | lst ds =>
        cases hf
        obtain ⟨v, Fz', s, rf, M⟩ := R.frzSlot g
        exact ⟨v, s, q v H Fz' M (Out.data rf)⟩
  refine ⟨⟨fun _ _ => rfl, fun _ => rfl, fun _ _ => rfl⟩, val, tst_mk G (fun _ _ => rfl) val, fun j e => ?_⟩
  cases e
  exact pe
theorem se_c (G : GoodE X K F) {d : D} {v : V} {a : Expr} (pn : Plain a) (pl : PL a) (p : PE X a (tC v)) (h : ∀ Fz H, RF K Fz H d v) : SE X K (evC d) a :=
  se_mk G pn pl ⟨_, p, fun Fz ρ σ H r ρ' Q hf R q => by cases hf; exact q v H Fz (Mv.refl R) (Out.data (h Fz H))⟩
theorem se_int (G : GoodE X K F) {i : Int} {j pos} : SE X K (evC (.int i)) (.Constant (.int i) j pos) := se_c G ⟨fun _ _ => rfl, fun _ => rfl, fun _ _ => rfl⟩ (fun _ _ => rfl) pe_int fun Fz H => by simp only [RF]
theorem se_bl (G : GoodE X K F) {i : Bool} {j pos} : SE X K (evC (.bool i)) (.Constant (.bool i) j pos) := se_c G ⟨fun _ _ => rfl, fun _ => rfl, fun _ _ => rfl⟩ (fun _ _ => rfl) pe_bl fun Fz H => by simp only [RF]
theorem se_non (G : GoodE X K F) {j pos} : SE X K (evC .none) (.Constant .none j pos) := se_c G ⟨fun _ _ => rfl, fun _ => rfl, fun _ _ => rfl⟩ (fun _ _ => rfl) pe_non fun Fz H => by simp only [RF]
theorem se_str (G : GoodE X K F) {s : Str} {j pos} : SE X K (evC (.str s)) (.Constant (.str s) j pos) := se_c G ⟨fun _ _ => rfl, fun _ => rfl, fun _ _ => rfl⟩ (fun _ _ => rfl) pe_str fun Fz H => by simp only [RF]

/-! ### operands -/
theorem SE.pv {ev : Ev} {a : Expr} (h : SE X K ev a) : ∃ t, PE X a t ∧ PvOk K t (pvOf ev) := by
  cases e : ev.nm with
  | some i =>
    refine ⟨_, h.nm i e, fun Fz ρ σ H p ρ' Q hf R q => ?_⟩
    unfold pvOf at hf
    rw [e] at hf
    dsimp only at hf
    cases g : get ρ i with
    | none => rw [g] at hf; cases hf
    | some x =>
      rw [g] at hf
      cases hf
      obtain ⟨v, s, re⟩ := R.re i _ g
      exact ⟨v, s, q v H Fz (Mv.refl R) s⟩
  | none =>
    obtain ⟨t, p, ok⟩ := h.val
    refine ⟨t, p, fun Fz ρ σ H p ρ' Q hf R q => ?_⟩
    unfold pvOf at hf
    rw [e] at hf
    dsimp only at hf
    cases g : ev.e ρ with
    | none => rw [g] at hf; cases hf
    | some z =>
      obtain ⟨r, ρ1⟩ := z
      rw [g] at hf
      cases hf
      exact ok Fz ρ σ H r _ _ g R fun v H' Fz' M O => q v H' Fz' M O
theorem PvOut.move {Fz0 Fz Fz' : Addr → Prop} {ρ0 ρ ρ' : Env} {σ : Sl} {H0 H H' : Hp} {p : PV} {v : V} (R : Rel K Fz ρ σ H) (M : Mv K Fz ρ σ H Fz' ρ' σ H') (h : PvOut K ρ0 σ H0 Fz ρ σ H p v) : PvOut K ρ0 σ H0 Fz' ρ' σ H' p v := by
  cases p with
  | sl i => exact h
  | tm e => exact ⟨Tmp.move R M h.toTmp, h.new⟩
theorem PvOut.back {Fz0 Fz1 Fz : Addr → Prop} {ρ0 ρ1 ρ : Env} {σ : Sl} {H0 H1 H : Hp} {p : PV} {v : V} (M : Mv K Fz0 ρ0 σ H0 Fz1 ρ1 σ H1) (h : PvOut K ρ1 σ H1 Fz ρ σ H p v) : PvOut K ρ0 σ H0 Fz ρ σ H p v := by
  cases p with
  | sl i => exact h
  | tm e => exact Out.back M h
theorem PvOut.look {Fz : Addr → Prop} {ρ0 ρ : Env} {σ : Sl} {H0 H : Hp} {p : PV} {v : V} {x : Ent} (R : Rel K Fz ρ σ H) (h : PvOut K ρ0 σ H0 Fz ρ σ H p v) (l : MP.look p ρ = some x) : RE K Fz H x v := by
  cases p with
  | sl i =>
    obtain ⟨u, s, re⟩ := R.re i x l
    have h : σ[i]? = some (some v) := h
    rw [h] at s
    cases s
    exact re
  | tm e =>
    cases l
    exact Out.toTmp h |>.re
/-- lists, place by place -/
inductive All2 {α β : Type} (P : α → β → Prop) : List α → List β → Prop
  | nil : All2 P [] []
  | cons {a b as bs} : P a b → All2 P as bs → All2 P (a :: as) (b :: bs)
theorem All2.imp {α β : Type} {P Q : α → β → Prop} (f : ∀ a b, P a b → Q a b) : ∀ {as bs}, All2 P as bs → All2 Q as bs
  | _, _, .nil => .nil
  | _, _, .cons h t => .cons (f _ _ h) (All2.imp f t)
theorem All2.len {α β : Type} {P : α → β → Prop} : ∀ {as bs}, All2 P as bs → as.length = bs.length
  | _, _, .nil => rfl
  | _, _, .cons _ t => by simp [All2.len t]
abbrev REs (K : Cst) (Fz : Addr → Prop) (H : Hp) (xs : List Ent) (vs : List V) : Prop := All2 (RE K Fz H) xs vs
def tArgs : List TE → TA
  | [] => tNil
  | t :: r => tCons t (tArgs r)
inductive SEs (X : Cx) (K : Cst) : List Ev → List Expr → Prop
  | nil : SEs X K [] []
  | cons {a e as es} : SE X K a e → SEs X K as es → SEs X K (a :: as) (e :: es)
def PvsOk (K : Cst) (ts : List TE) (f : Env → R (List PV)) : Prop :=
  ∀ Fz ρ σ H ps ρ' (Q : List V → Hp → Prop), f ρ = some (ps, ρ') → Rel K Fz ρ σ H → (∀ vs H' Fz', Mv K Fz ρ σ H Fz' ρ' σ H' → All2 (PvOut K ρ σ H Fz' ρ' σ H') ps vs → Q vs H') → tArgs ts σ H Q
def ArgsOk (K : Cst) (ts : List TE) (f : Env → R (List Ent)) : Prop :=
  ∀ Fz ρ σ H xs ρ' (Q : List V → Hp → Prop), f ρ = some (xs, ρ') → Rel K Fz ρ σ H → (∀ vs H' Fz', Mv K Fz ρ σ H Fz' ρ' σ H' → REs K Fz' H' xs vs → Q vs H') → tArgs ts σ H Q
/-- the expressions' readings, one by one -/
inductive PEs (X : Cx) : List Expr → List TE → Prop
  | nil : PEs X [] []
  | cons {e es t ts} : NS e → PE X e t → PEs X es ts → PEs X (e :: es) (t :: ts)
theorem PEs.pa : ∀ {es : List Expr} {ts : List TE}, PEs X es ts → PA X es (tArgs ts)
  | _, _, .nil => pa_nil
  | _, _, .cons n h t => pa_cons h t.pa (n _ _)
theorem SEs.pvs : ∀ {as : List Ev} {es : List Expr}, SEs X K as es → ∃ ts, PEs X es ts ∧ PvsOk K ts (pvs as)
  | _, _, .nil => ⟨[], .nil, fun Fz ρ σ H ps ρ' Q hf R q => by
      cases hf
      exact q [] H Fz (Mv.refl R) .nil⟩
  | _, _, @SEs.cons _ _ a e as es h t => by
    obtain ⟨ts, ps, ok⟩ := SEs.pvs t
    obtain ⟨u, p, okh⟩ := h.pv
    refine ⟨u :: ts, .cons h.pn.ns p ps, fun Fz ρ σ H qs ρ' Q hf R q => ?_⟩
    simp only [MP.pvs] at hf
    cases g : pvOf a ρ with
    | none => rw [g] at hf; cases hf
    | some z =>
      obtain ⟨p1, ρ1⟩ := z
      rw [g] at hf
      dsimp only at hf
      cases g2 : MP.pvs as ρ1 with
      | none => rw [g2] at hf; cases hf
      | some z =>
        obtain ⟨ps2, ρ2⟩ := z
        rw [g2] at hf
        cases hf
        refine okh Fz ρ σ H p1 ρ1 _ g R fun v H1 Fz1 M1 o1 => ?_
        refine ok Fz1 ρ1 σ H1 ps2 _ _ g2 M1.rel fun vs H2 Fz2 M2 o2 => ?_
        exact q (v :: vs) H2 Fz2 (M1.trans M2) (.cons (o1.move (Fz0 := Fz) M1.rel M2) (o2.imp fun p w z => z.back M1))
theorem looks_re {Fz : Addr → Prop} {ρ0 ρ : Env} {σ : Sl} {H0 H : Hp} (R : Rel K Fz ρ σ H) : ∀ {ps : List PV} {vs : List V} {xs : List Ent}, All2 (PvOut K ρ0 σ H0 Fz ρ σ H) ps vs → looks ps ρ = some xs → REs K Fz H xs vs
  | _, _, xs, .nil, e => by cases e; exact .nil
  | _, _, xs, @All2.cons _ _ _ p v ps vs h t, e => by
    simp only [looks] at e
    cases g : look p ρ with
    | none => simp [g] at e
    | some x =>
      cases g2 : looks ps ρ with
      | none => simp [g, g2] at e
      | some ys =>
        simp [g, g2] at e
        subst e
        exact .cons (h.look R g) (looks_re R t g2)
theorem SEs.args {as : List Ev} {es : List Expr} (h : SEs X K as es) : ∃ ts, PEs X es ts ∧ ArgsOk K ts (args as) := by
  obtain ⟨ts, ps, ok⟩ := h.pvs
  refine ⟨ts, ps, fun Fz ρ σ H xs ρ' Q hf R q => ?_⟩
  unfold MP.args at hf
  cases g : MP.pvs as ρ with
  | none => rw [g] at hf; cases hf
  | some z =>
    obtain ⟨qs, ρ1⟩ := z
    rw [g] at hf
    dsimp only at hf
    cases g2 : looks qs ρ1 with
    | none => rw [g2] at hf; cases hf
    | some ys =>
      rw [g2] at hf
      cases hf
      exact ok Fz ρ σ H qs _ _ g R fun vs H' Fz' M o => q vs H' Fz' M (looks_re M.rel o g2)

/-! ### operations that read -/
/-- what an operation gives: data that stands already, or one new object -/
inductive Res (K : Cst) (Fz : Addr → Prop) (H : Hp) (e : Ent) : Hp → V → Prop
  | old {v : V} : isOwn e = false → RE K Fz H e v → Res K Fz H e H v
  | new {p : Addr} {o : HO} : H p = none → RE K Fz (upd H p o) e (.ref p) → Res K Fz H e (upd H p o) (.ref p)
theorem own_is {e : Ent} {v : V} {a : Addr} (h : OwnV e v a) : isOwn e = true ∧ v = .ref a := by
  cases e <;> first | exact False.elim h | exact ⟨rfl, h⟩
theorem Res.out {Fz : Addr → Prop} {ρ : Env} {σ : Sl} {H H' : Hp} {e : Ent} {v : V} (R : Rel K Fz ρ σ H) (h : Res K Fz H e H' v) : Mv K Fz ρ σ H Fz ρ σ H' ∧ Out K ρ σ H Fz ρ σ H' e v := by
  cases h with
  | old n re =>
    have no : ∀ a, ¬ OwnV e v a := fun a o => by rw [(own_is o).1] at n; cases n
    exact ⟨Mv.refl R, ⟨re, fun a o => absurd o (no a)⟩, fun a o => absurd o (no a)⟩
  | @new p o n re =>
    refine ⟨Mv.new R n, ⟨re, fun a w z => ?_⟩, fun a w => ?_⟩
    · have e : V.ref p = .ref a := (own_is w).2
      cases e
      exact R.nown n z
    · have e : V.ref p = .ref a := (own_is w).2
      cases e
      exact .inr n
/-- r, asked at values that stand for xs, answers f xs -/
def RuleOk (K : Cst) (r : List V → Hp → VK → Prop) (f : List Ent → Option Ent) : Prop :=
  ∀ Fz H xs vs y (Q : VK), f xs = some y → (∀ a, Fz a → ∃ ws, H a = some (.lst ws)) → REs K Fz H xs vs → (∀ v H', Res K Fz H y H' v → Q v H') → r vs H Q
theorem val_op {ts : List TE} {as : List Ev} {f : List Ent → Option Ent} {r : List V → Hp → VK → Prop} (h : ArgsOk K ts (args as)) (hr : RuleOk K r f) :
    ValOk K (fun σ H Q => tArgs ts σ H fun vs H1 => r vs H1 Q) (evOp f as).e := by
  intro Fz ρ σ H y ρ' Q hf R q
  simp only [evOp, evMk] at hf
  cases g : args as ρ with
  | none => rw [g] at hf; cases hf
  | some z =>
    obtain ⟨xs, ρ1⟩ := z
    rw [g] at hf
    dsimp only at hf
    cases g2 : f xs with
    | none => rw [g2] at hf; cases hf
    | some w =>
      rw [g2] at hf
      cases hf
      refine h Fz ρ σ H xs _ _ g R fun vs H1 Fz1 M re => ?_
      refine hr Fz1 H1 xs vs _ _ g2 M.rel.fzH re fun v H2 res => ?_
      obtain ⟨M2, O2⟩ := res.out M.rel
      exact q v H2 Fz1 (M.trans M2) (Out.back M O2)
theorem val_cmp {ts : List TE} {as : List Ev} {f : List Ent → Option Bool} {r : List V → Hp → VK → Prop} (h : ArgsOk K ts (args as)) (hr : RuleOk K r fun xs => (f xs).map bv) :
    ValOk K (fun σ H Q => tArgs ts σ H fun vs H1 => r vs H1 Q) (evCmp f as).e := by
  intro Fz ρ σ H y ρ' Q hf R q
  simp only [evCmp, evTest] at hf
  cases g : args as ρ with
  | none => rw [g] at hf; cases hf
  | some z =>
    obtain ⟨xs, ρ1⟩ := z
    rw [g] at hf
    dsimp only at hf
    cases g2 : f xs with
    | none => rw [g2] at hf; cases hf
    | some w =>
      rw [g2] at hf
      cases hf
      refine h Fz ρ σ H xs _ _ g R fun vs H1 Fz1 M re => ?_
      refine hr Fz1 H1 xs vs (bv w) _ (by simp [g2]) M.rel.fzH re fun v H2 res => ?_
      obtain ⟨M2, O2⟩ := res.out M.rel
      exact q v H2 Fz1 (M.trans M2) (Out.back M O2)
/-- .. two operands -/
def RuleOk2 (K : Cst) (r : R2) (f : List Ent → Option Ent) : Prop :=
  ∀ Fz H x y u v e (Q : VK), f [x, y] = some e → (∀ a, Fz a → ∃ ws, H a = some (.lst ws)) → RE K Fz H x u → RE K Fz H y v → (∀ w H', Res K Fz H e H' w → Q w H') → r u v H Q
def r2L (r : R2) : List V → Hp → VK → Prop := fun vs H Q => match vs with
  | [u, v] => r u v H Q
  | _ => False
theorem RuleOk2.list {r : R2} {f : List Ent → Option Ent} (h : RuleOk2 K r f) (h2 : ∀ xs y, f xs = some y → ∃ a b, xs = [a, b]) : RuleOk K (r2L r) f := by
  intro Fz H xs vs y Q hf fz re q
  obtain ⟨a, b, e⟩ := h2 xs y hf
  subst e
  cases re with
  | cons h1 t =>
    cases t with
    | cons h3 t =>
      cases t
      exact h Fz H a b _ _ y Q hf fz h1 h3 q
end
end MP
set_option Elab.async false
set_option linter.all false
set_option maxRecDepth 100000
/-! MP3: operators, comparisons, subscripts, slices -/
namespace MP
open PySem PySem.Spec PyProof.Rows L2
section
variable {X : Cx} {K : Cst} {F : FT} {Fz : Addr → Prop} {H : Hp}

/-! ### rows of data -/
theorem RFs.all : ∀ {ds : List D} {vs : List V}, RFs K Fz H ds vs → All2 (RF K Fz H) ds vs
  | [], vs, h => by simp only [RFs] at h; subst h; exact .nil
  | d :: ds, vs, h => by
    simp only [RFs] at h
    obtain ⟨v, r, e, h1, h2⟩ := h
    subst e
    exact .cons h1 (RFs.all h2)
theorem RFs.of : ∀ {ds : List D} {vs : List V}, All2 (RF K Fz H) ds vs → RFs K Fz H ds vs
  | _, _, .nil => by simp only [RFs]
  | _, _, .cons h t => by simp only [RFs]; exact ⟨_, _, rfl, h, RFs.of t⟩
theorem All2.append {α β : Type} {P : α → β → Prop} : ∀ {as bs cs ds}, All2 P as bs → All2 P cs ds → All2 P (as ++ cs) (bs ++ ds)
  | _, _, _, _, .nil, h => h
  | _, _, _, _, .cons a t, h => .cons a (All2.append t h)
theorem All2.take {α β : Type} {P : α → β → Prop} : ∀ (n : Nat) {as bs}, All2 P as bs → All2 P (as.take n) (bs.take n)
  | 0, _, _, _ => by simp only [List.take_zero]; exact .nil
  | n + 1, _, _, .nil => .nil
  | n + 1, _, _, .cons a t => .cons a (All2.take n t)
theorem All2.drop {α β : Type} {P : α → β → Prop} : ∀ (n : Nat) {as bs}, All2 P as bs → All2 P (as.drop n) (bs.drop n)
  | 0, _, _, h => h
  | n + 1, _, _, .nil => .nil
  | n + 1, _, _, .cons a t => All2.drop n t
theorem All2.reverse {α β : Type} {P : α → β → Prop} : ∀ {as bs}, All2 P as bs → All2 P as.reverse bs.reverse
  | _, _, .nil => .nil
  | _, _, .cons a t => by
    rw [List.reverse_cons, List.reverse_cons]
    exact (All2.reverse t).append (.cons a .nil)
theorem All2.rep {α β : Type} {P : α → β → Prop} {as : List α} {bs : List β} (h : All2 P as bs) : ∀ n : Nat, All2 P (List.replicate n as).flatten (List.replicate n bs).flatten
  | 0 => .nil
  | n + 1 => by
    rw [List.replicate_succ, List.replicate_succ, List.flatten_cons, List.flatten_cons]
    exact h.append (All2.rep h n)
theorem All2.at {α β : Type} {P : α → β → Prop} : ∀ {as bs} {j : Nat} {a : α}, All2 P as bs → as[j]? = some a → ∃ b, bs[j]? = some b ∧ P a b
  | _, _, j, a, .nil, e => by simp at e
  | _, _, 0, a, .cons h t, e => by simp at e; subst e; exact ⟨_, rfl, h⟩
  | _, _, j + 1, a, .cons h t, e => by
    obtain ⟨b, e2, p⟩ := All2.at (j := j) t (by simpa using e)
    exact ⟨b, by simpa using e2, p⟩
theorem All2.set {α β : Type} {P : α → β → Prop} {a : α} {b : β} (p : P a b) : ∀ {as bs} (j : Nat), All2 P as bs → All2 P (as.set j a) (bs.set j b)
  | _, _, j, .nil => .nil
  | _, _, 0, .cons h t => .cons p t
  | _, _, j + 1, .cons h t => .cons h (All2.set p j t)
theorem All2.erase {α β : Type} {P : α → β → Prop} : ∀ {as bs} (j : Nat), All2 P as bs → All2 P (as.eraseIdx j) (bs.eraseIdx j)
  | _, _, j, .nil => .nil
  | _, _, 0, .cons h t => t
  | _, _, j + 1, .cons h t => .cons h (All2.erase j t)
theorem RFs.ints : ∀ {ds : List D} {ns : List Int} {vs : List V}, intsOf ds = some ns → RFs K Fz H ds vs → vs = ns.map V.int
  | [], ns, vs, e, h => by
    cases e
    simp only [RFs] at h
    subst h
    rfl
  | d :: ds, ns, vs, e, h => by
    cases d with
    | int i =>
      simp only [intsOf] at e
      cases g : intsOf ds with
      | none => rw [g] at e; cases e
      | some ms =>
        rw [g] at e
        cases e
        simp only [RFs, RF] at h
        obtain ⟨v, r, e, h1, h2⟩ := h
        subst e
        subst h1
        rw [RFs.ints g h2]
        rfl
    | _ => simp [intsOf] at e
theorem RFs.ofInts : ∀ ns : List Int, RFs K Fz H (ns.map .int) (ns.map V.int)
  | [] => by simp only [List.map_nil, RFs]
  | n :: ns => by
    simp only [List.map_cons, RFs, RF]
    exact ⟨_, _, rfl, rfl, RFs.ofInts ns⟩
theorem RFs.bools : ∀ {ds : List D} {ns : List Bool} {vs : List V}, boolsOf ds = some ns → RFs K Fz H ds vs → vs = ns.map V.bl
  | [], ns, vs, e, h => by
    cases e
    simp only [RFs] at h
    subst h
    rfl
  | d :: ds, ns, vs, e, h => by
    cases d with
    | bool i =>
      simp only [boolsOf] at e
      cases g : boolsOf ds with
      | none => rw [g] at e; cases e
      | some ms =>
        rw [g] at e
        cases e
        simp only [RFs, RF] at h
        obtain ⟨v, r, e, h1, h2⟩ := h
        subst e
        subst h1
        rw [RFs.bools g h2]
        rfl
    | _ => simp [boolsOf] at e
theorem lim_line {n : Nat} (h : n ≤ LIM) : n ≤ sizeLine := by
  rw [sizeLine_eq]
  unfold LIM at h
  omega
theorem lim_lt {n : Nat} (h : n < LIM) : n < sizeLine := by
  rw [sizeLine_eq]
  unfold LIM at h
  omega

/-! ### what a value is -/
theorem RE.int {i : Int} {v : V} (h : RE K Fz H (.val (.int i)) v) : v = .int i := by simpa only [RE, RF] using h
theorem RE.bool {i : Bool} {v : V} (h : RE K Fz H (.val (.bool i)) v) : v = .bl i := by simpa only [RE, RF] using h
theorem RE.non {v : V} (h : RE K Fz H (.val .none) v) : v = .non := by simpa only [RE, RF] using h
theorem RE.tup {ds : List D} {v : V} (h : RE K Fz H (.val (.tuple ds)) v) : ∃ a vs, v = .ref a ∧ TpA K H a vs ∧ RFs K Fz H ds vs := by simpa only [RE, RF] using h
theorem RE.lstOf {x : Ent} {v : V} {ds : List D} (h : RE K Fz H x v) (e : MP.lstOf x = some ds) : ∃ a vs, v = .ref a ∧ H a = some (.lst vs) ∧ RFs K Fz H ds vs := by
  cases x with
  | val d =>
    cases d with
    | list es =>
      cases e
      simp only [RE, RF] at h
      obtain ⟨a, vs, e1, _, ha, r⟩ := h
      exact ⟨a, vs, e1, ha, r⟩
    | _ => simp [MP.lstOf] at e
  | lst es =>
    cases e
    obtain ⟨a, vs, e1, _, ha, r⟩ := h
    exact ⟨a, vs, e1, ha, r⟩
  | _ => simp [MP.lstOf] at e
theorem RE.seqOf {x : Ent} {v : V} {ds : List D} (h : RE K Fz H x v) (e : MP.seqOf x = some ds) : ∃ a vs, v = .ref a ∧ (H a = some (.lst vs) ∨ TpA K H a vs) ∧ RFs K Fz H ds vs := by
  cases x with
  | val d =>
    cases d with
    | list es =>
      cases e
      simp only [RE, RF] at h
      obtain ⟨a, vs, e1, _, ha, r⟩ := h
      exact ⟨a, vs, e1, .inl ha, r⟩
    | tuple es =>
      cases e
      obtain ⟨a, vs, e1, ha, r⟩ := h.tup
      exact ⟨a, vs, e1, .inr ha, r⟩
    | _ => simp [MP.seqOf] at e
  | lst es =>
    cases e
    obtain ⟨a, vs, e1, _, ha, r⟩ := h
    exact ⟨a, vs, e1, .inl ha, r⟩
  | _ => simp [MP.seqOf] at e
theorem Res.int {i : Int} : Res K Fz H (.val (.int i)) H (.int i) := .old rfl (by simp only [RE, RF])
theorem Res.bl {i : Bool} : Res K Fz H (bv i) H (.bl i) := .old rfl (by simp only [bv, RE, RF])
theorem Res.non : Res K Fz H (.val .none) H .non := .old rfl (by simp only [RE, RF])
theorem Res.lst {p : Addr} {ds : List D} {vs : List V} (fz : ∀ a, Fz a → ∃ ws, H a = some (.lst ws)) (n : H p = none) (r : RFs K Fz H ds vs) : Res K Fz H (.lst ds) (upd H p (.lst vs)) (.ref p) :=
  .new n ⟨p, vs, rfl, (fun f => by obtain ⟨ws, h⟩ := fz p f; rw [n] at h; cases h), upd_same, RFs.stay (Stay.new n) _ _ r⟩
theorem Res.tup {p : Addr} {ds : List D} {vs : List V} (n : H p = none) (r : RFs K Fz H ds vs) : Res K Fz H (.val (.tuple ds)) (upd H p (.tup vs)) (.ref p) :=
  .new n (by simp only [RE, RF]; exact ⟨p, vs, rfl, .inl upd_same, RFs.stay (Stay.new n) _ _ r⟩)

/-! ### a op b -/
theorem fBin2 {op : Operator} : ∀ xs y, fBin op xs = some y → ∃ a b, xs = [a, b] := fun xs y h => by
  match xs, h with
  | [a, b], _ => exact ⟨a, b, rfl⟩
  | [], h => simp [fBin] at h
  | [_], h => simp [fBin] at h
  | _ :: _ :: _ :: _, h => simp [fBin] at h
theorem se_op2 (G : GoodE X K F) {ea eb : Ev} {a b : Expr} {op : Operator} {r : R2} {pos : Pos} (ho : OpR X (binaryOp op) r) (hr : RuleOk2 K r (fBin op)) (ha : SE X K ea a) (hb : SE X K eb b) :
    SE X K (evOp (fBin op) [ea, eb]) (.BinOp a op b pos) := by
  obtain ⟨ts, ps, ok⟩ := (SEs.cons ha (SEs.cons hb SEs.nil)).args
  cases ps with
  | cons n1 p1 ps =>
    cases ps with
    | cons n2 p2 ps =>
      cases ps
      exact se_mk G ⟨fun _ _ => rfl, fun _ => rfl, fun _ _ => rfl⟩ (fun _ _ => rfl) ⟨_, pe_op ho p1 p2, val_op ok (hr.list fBin2)⟩
theorem bin_int {op : Operator} {x y e : Ent} (h : binSem op x y = some e) (hop : op ≠ .Add) (hm : op ≠ .Mult) : ∃ i j k, x = .val (.int i) ∧ y = .val (.int j) ∧ intBin op i j = some k ∧ e = .val (.int k) := by
  unfold binSem at h
  split at h
  · rename_i i j
    cases g : intBin op i j with
    | none => rw [g] at h; cases h
    | some k => rw [g] at h; cases h; exact ⟨i, j, k, rfl, rfl, g, rfl⟩
  · rw [if_neg (fun z => hop z.1)] at h; cases h
  · split at h
    · rw [if_neg (fun z => hm z.1)] at h; cases h
    · cases h
  · split at h
    · rw [if_neg (fun z => hop z.1)] at h; cases h
    · cases h
/-- ints alone, one rule -/
theorem rule_int {op : Operator} {C : Int → Int → Prop} {g : Int → Int → V} (hop : op ≠ .Add) (hm : op ≠ .Mult) (hc : ∀ i j k, intBin op i j = some k → C i j ∧ g i j = .int k) : RuleOk2 K (rI C g) (fBin op) := by
  intro Fz H x y u v e Q hf fz hx hy q
  obtain ⟨i, j, k, rfl, rfl, hk, rfl⟩ := bin_int hf hop hm
  obtain ⟨c, eg⟩ := hc i j k hk
  exact ⟨i, j, hx.int, hy.int, c, by rw [eg]; exact q _ _ Res.int⟩
theorem rule_int0 {op : Operator} {g : Int → Int → V} (hop : op ≠ .Add) (hm : op ≠ .Mult) (hc : ∀ i j k, intBin op i j = some k → g i j = .int k) : RuleOk2 K (rI0 g) (fBin op) := by
  intro Fz H x y u v e Q hf fz hx hy q
  obtain ⟨i, j, k, rfl, rfl, hk, rfl⟩ := bin_int hf hop hm
  exact ⟨i, j, hx.int, hy.int, by rw [hc i j k hk]; exact q _ _ Res.int⟩
/-- two rules, by the first operand's answer -/
theorem rule_or {r r' : R2} {f : List Ent → Option Ent} (h : ∀ Fz H x y u v e (Q : VK), f [x, y] = some e → (∀ a, Fz a → ∃ ws, H a = some (.lst ws)) → RE K Fz H x u → RE K Fz H y v → (∀ w H', Res K Fz H e H' w → Q w H') → r u v H Q ∨ r' u v H Q) :
    RuleOk2 K (fun x y H Q => r x y H Q ∨ r' x y H Q) f := h
theorem se_sub (G : GoodE X K F) {ea eb : Ev} {a b : Expr} {pos : Pos} (ha : SE X K ea a) (hb : SE X K eb b) : SE X K (evOp (fBin .Sub) [ea, eb]) (.BinOp a .Sub b pos) :=
  se_op2 G op_sub (rule_int0 (by decide) (by decide) fun i j k h => by cases h; rfl) ha hb
theorem se_fdiv (G : GoodE X K F) {ea eb : Ev} {a b : Expr} {pos : Pos} (ha : SE X K ea a) (hb : SE X K eb b) : SE X K (evOp (fBin .FloorDiv) [ea, eb]) (.BinOp a .FloorDiv b pos) := by
  refine se_op2 G (op_fdivW.or op_fdivN) (rule_or fun Fz H x y u v e Q hf fz hx hy q => ?_) ha hb
  obtain ⟨i, j, k, rfl, rfl, hk, rfl⟩ := bin_int hf (by decide) (by decide)
  simp only [intBin] at hk
  split at hk
  · rename_i hj
    split at hk
    · rename_i hl
      cases hk
      exact .inl ⟨i, j, hx.int, hy.int, ⟨hj, hl⟩, q _ _ Res.int⟩
    · cases hk
  · split at hk
    · rename_i hj
      cases hk
      exact .inr ⟨i, j, hx.int, hy.int, ⟨by omega, hj.2⟩, q _ _ Res.int⟩
    · cases hk
theorem se_mod (G : GoodE X K F) {ea eb : Ev} {a b : Expr} {pos : Pos} (ha : SE X K ea a) (hb : SE X K eb b) : SE X K (evOp (fBin .Mod) [ea, eb]) (.BinOp a .Mod b pos) := by
  refine se_op2 G (op_mod.or op_modN) (rule_or fun Fz H x y u v e Q hf fz hx hy q => ?_) ha hb
  obtain ⟨i, j, k, rfl, rfl, hk, rfl⟩ := bin_int hf (by decide) (by decide)
  simp only [intBin] at hk
  split at hk
  · rename_i hj
    cases hk
    exact .inl ⟨i, j, hx.int, hy.int, hj, q _ _ Res.int⟩
  · split at hk
    · rename_i hj
      cases hk
      exact .inr ⟨i, j, hx.int, hy.int, by show j ≠ 0; omega, q _ _ Res.int⟩
    · cases hk
theorem powOk_of {i j : Int} (h : powOk i j = true) : CPow i j := by
  have h : decide (0 ≤ j ∧ j ≤ 1000000 ∧ i.natAbs < 2 ^ 64) = true := h
  have h2 := of_decide_eq_true h
  exact h2
theorem se_pow (G : GoodE X K F) {ea eb : Ev} {a b : Expr} {pos : Pos} (ha : SE X K ea a) (hb : SE X K eb b) : SE X K (evOp (fBin .Pow) [ea, eb]) (.BinOp a .Pow b pos) :=
  se_op2 G op_pow (rule_int (by decide) (by decide) fun i j k h => by
    simp only [intBin] at h
    split at h
    · rename_i c; cases h; exact ⟨powOk_of c, rfl⟩
    · cases h) ha hb
theorem se_shl (G : GoodE X K F) {ea eb : Ev} {a b : Expr} {pos : Pos} (ha : SE X K ea a) (hb : SE X K eb b) : SE X K (evOp (fBin .LShift) [ea, eb]) (.BinOp a .LShift b pos) :=
  se_op2 G op_shl (rule_int (by decide) (by decide) fun i j k h => by
    simp only [intBin] at h
    split at h
    · rename_i c; cases h; exact ⟨powOk_of c, rfl⟩
    · cases h) ha hb
theorem se_shr (G : GoodE X K F) {ea eb : Ev} {a b : Expr} {pos : Pos} (ha : SE X K ea a) (hb : SE X K eb b) : SE X K (evOp (fBin .RShift) [ea, eb]) (.BinOp a .RShift b pos) :=
  se_op2 G op_shr (rule_int (by decide) (by decide) fun i j k h => by
    simp only [intBin] at h
    split at h
    · rename_i c; cases h; exact ⟨c, rfl⟩
    · cases h) ha hb
theorem se_and (G : GoodE X K F) {ea eb : Ev} {a b : Expr} {pos : Pos} (ha : SE X K ea a) (hb : SE X K eb b) : SE X K (evOp (fBin .BitAnd) [ea, eb]) (.BinOp a .BitAnd b pos) :=
  se_op2 G op_and (rule_int0 (by decide) (by decide) fun i j k h => by cases h; rfl) ha hb
theorem se_xor (G : GoodE X K F) {ea eb : Ev} {a b : Expr} {pos : Pos} (ha : SE X K ea a) (hb : SE X K eb b) : SE X K (evOp (fBin .BitXor) [ea, eb]) (.BinOp a .BitXor b pos) :=
  se_op2 G op_xor (rule_int0 (by decide) (by decide) fun i j k h => by cases h; rfl) ha hb
theorem RFs.nil_iff {ds : List D} {vs : List V} (h : RFs K Fz H ds vs) : vs = [] ↔ ds = [] := by
  have := h.length
  constructor
  · intro e; subst e; exact List.length_eq_zero_iff.mp (by simpa using this)
  · intro e; subst e; exact List.length_eq_zero_iff.mp (by simpa using this.symm)
theorem se_add (G : GoodE X K F) {ea eb : Ev} {a b : Expr} {pos : Pos} (ha : SE X K ea a) (hb : SE X K eb b) : SE X K (evOp (fBin .Add) [ea, eb]) (.BinOp a .Add b pos) := by
  refine se_op2 G (op_add.or (op_catA.or op_cat)) (rule_or fun Fz H x y u v e Q hf fz hx hy q => ?_) ha hb
  simp only [fBin, binSem] at hf
  split at hf
  · rename_i i j
    cases hf
    exact .inl ⟨i, j, hx.int, hy.int, q _ _ Res.int⟩
  · rename_i xs ys
    split at hf
    · rename_i c
      cases hf
      obtain ⟨a1, vs, rfl, t1, r1⟩ := hx.tup
      obtain ⟨a2, ws, rfl, t2, r2⟩ := hy.tup
      refine .inr (.inl ⟨a1, a2, vs, ws, rfl, rfl, t1.sq G, t2.sq G, ?_, fun e1 => q _ _ ?_, fun e1 e2 => q _ _ ?_, fun e1 e2 p n => q _ _ (Res.tup n (RFs.of (r1.all.append r2.all)))⟩)
      · rw [← r1.length, ← r2.length]; exact lim_line c.2
      · rw [r1.nil_iff.mp e1, List.nil_append]; exact .old rfl hy
      · rw [r2.nil_iff.mp e2, List.append_nil]; exact .old rfl hx
    · cases hf
  · split at hf
    · split at hf
      · rename_i c; cases c.1
      · cases hf
    · cases hf
  · split at hf
    · rename_i xs ys g1 g2
      split at hf
      · rename_i c
        cases hf
        obtain ⟨a1, vs, rfl, t1, r1⟩ := hx.lstOf g1
        obtain ⟨a2, ws, rfl, t2, r2⟩ := hy.lstOf g2
        refine .inr (.inr ⟨a1, a2, vs, ws, rfl, rfl, t1, t2, ?_, fun p n => q _ _ (Res.lst fz n (RFs.of (r1.all.append r2.all)))⟩)
        rw [← r1.length, ← r2.length]; exact lim_line c.2
      · cases hf
    · cases hf
theorem mulOk_of {i j : Int} (h : mulOk i j = true) : CMulW i j := by
  have h : decide (i.natAbs.log2 + j.natAbs.log2 < 1000000) = true := h
  have h2 := of_decide_eq_true h
  exact h2
theorem se_mul (G : GoodE X K F) {ea eb : Ev} {a b : Expr} {pos : Pos} (ha : SE X K ea a) (hb : SE X K eb b) : SE X K (evOp (fBin .Mult) [ea, eb]) (.BinOp a .Mult b pos) := by
  refine se_op2 G (op_mulW.or op_rep) (rule_or fun Fz H x y u v e Q hf fz hx hy q => ?_) ha hb
  simp only [fBin, binSem] at hf
  split at hf
  · rename_i i j
    simp only [intBin] at hf
    split at hf
    · rename_i c
      cases hf
      exact .inl ⟨i, j, hx.int, hy.int, mulOk_of c, q _ _ Res.int⟩
    · cases hf
  · rename_i xs ys
    split at hf
    · rename_i c; cases c.1
    · cases hf
  · rename_i k _
    split at hf
    · rename_i xs g1
      split at hf
      · rename_i c
        cases hf
        obtain ⟨a1, vs, rfl, t1, r1⟩ := hx.lstOf g1
        exact .inr ⟨a1, k, vs, rfl, hy.int, t1, by have := c.2.1; omega, by have := c.2.1; omega, by rw [← r1.length]; exact lim_line c.2.2, fun p n => q _ _ (Res.lst fz n (RFs.of (r1.all.rep _)))⟩
      · cases hf
    · cases hf
  · split at hf
    · split at hf
      · rename_i c; cases c.1
      · cases hf
    · cases hf
end
end MP
set_option Elab.async false
set_option linter.all false
set_option maxRecDepth 100000
/-! MP4: comparisons, and, or, not, if, displays, subscripts -/
namespace MP
open PySem PySem.Spec PyProof.Rows L2
section
variable {X : Cx} {K : Cst} {F : FT} {Fz : Addr → Prop} {H : Hp}

abbrev pnR {a : Expr} (h1 : NS a) (h2 : MK a) (h3 : PlainIx a) : Plain a := ⟨h1, h2, h3⟩

/-! ### -a -/
theorem se_neg (G : GoodE X K F) {ea : Ev} {a : Expr} {pos : Pos} (ha : SE X K ea a) : SE X K (evOp fNeg [ea]) (.UnaryOp .USub a pos) := by
  obtain ⟨ts, ps, ok⟩ := (SEs.cons ha SEs.nil).args
  cases ps with
  | cons n1 p1 ps =>
    cases ps
    refine se_mk G ⟨fun _ _ => rfl, fun _ => rfl, fun _ _ => rfl⟩ (fun _ _ => rfl) ⟨_, pe_un un_neg p1, val_op (r := fun vs H Q => match vs with | [u] => rU (fun i => .int (-i)) u H Q | _ => False) ok ?_⟩
    intro Fz H xs vs y Q hf fz re q
    match xs, hf with
    | [.val (.int i)], hf =>
      cases hf
      cases re with
      | cons h t =>
        cases t
        exact ⟨i, h.int, q _ _ Res.int⟩

/-! ### data compared -/
mutual
theorem RF.dp (G : GoodE X K F) : ∀ (d : PyData) (v : V), RF K Fz H d v → Dp X.K H v d
  | .none, v, h => by simp only [RF] at h; subst h; exact .non
  | .bool b, v, h => by simp only [RF] at h; subst h; exact .bl b
  | .int i, v, h => by simp only [RF] at h; subst h; exact .int i
  | .str s, v, h => by simp only [RF] at h; subst h; exact .str s
  | .tuple ds, v, h => by
    simp only [RF] at h
    obtain ⟨a, vs, e, t, r⟩ := h
    subst e
    exact .tup (t.sq G) (RFs.dp G ds vs r)
  | .list ds, v, h => by
    simp only [RF] at h
    obtain ⟨a, vs, e, f, t, r⟩ := h
    subst e
    exact .lst (.inl (.inl t)) (RFs.dp G ds vs r)
  | .dict kvs, v, h => by simp only [RF] at h
theorem RFs.dp (G : GoodE X K F) : ∀ (ds : List PyData) (vs : List V), RFs K Fz H ds vs → DpAll X.K H vs ds
  | [], vs, h => by simp only [RFs] at h; subst h; exact .nil
  | d :: ds, vs, h => by
    simp only [RFs] at h
    obtain ⟨v, r, e, h1, h2⟩ := h
    subst e
    exact .cons (RF.dp G d v h1) (RFs.dp G ds r h2)
end
theorem RE.dp (G : GoodE X K F) {x : Ent} {v : V} {d : D} (h : RE K Fz H x v) (e : MP.toD x = some d) : Dp X.K H v d := by
  cases x with
  | val d' => cases e; exact RF.dp G _ _ h
  | lst ds =>
    cases e
    obtain ⟨a, vs, e1, _, ha, r⟩ := h
    subst e1
    exact .lst (.inl (.inl ha)) (RFs.dp G _ _ r)
  | _ => cases e
theorem fCmp2 {op : CmpOp} : ∀ xs y, (fCmp op xs).map bv = some y → ∃ a b, xs = [a, b] := fun xs y h => by
  match xs, h with
  | [a, b], _ => exact ⟨a, b, rfl⟩
  | [], h => simp [fCmp] at h
  | [_], h => simp [fCmp] at h
  | _ :: _ :: _ :: _, h => simp [fCmp] at h
/-- an operator on two operands, as a value and as a test -/
theorem se_cmp2 (G : GoodE X K F) {ea eb : Ev} {a b : Expr} {op : CmpOp} {r : R2} {pos : Pos} (ho : OpR X (compareOp op) r) (hr : RuleOk2 K r fun xs => (fCmp op xs).map bv) (ha : SE X K ea a) (hb : SE X K eb b) :
    SE X K (evCmp (fCmp op) [ea, eb]) (.Compare a [op] [b] pos) := by
  obtain ⟨ts, ps, ok⟩ := (SEs.cons ha (SEs.cons hb SEs.nil)).args
  cases ps with
  | cons n1 p1 ps =>
    cases ps with
    | cons n2 p2 ps =>
      cases ps
      have v := val_cmp ok (hr.list fCmp2)
      refine ⟨⟨fun _ _ => rfl, fun _ => rfl, fun _ _ => rfl⟩, ⟨_, pe_cmpR ho p1 p2 (hb.pn.mrk op), v⟩, ⟨_, pt_cmpR ho p1 p2 (hb.pn.mrk op), fun Fz ρ σ H c ρ' Q hf R q => ?_⟩, fun i e => by cases e⟩
      refine v Fz ρ σ H (bv c) ρ' _ (by show asB ((evCmp (fCmp op) [ea, eb]).t ρ) = _; rw [hf]; rfl) R fun w H' Fz' M O => ⟨c, ?_, q H' Fz' M⟩
      exact O.re.bool
theorem se_eq (G : GoodE X K F) {ea eb : Ev} {a b : Expr} {pos : Pos} (ha : SE X K ea a) (hb : SE X K eb b) : SE X K (evCmp (fCmp .Eq) [ea, eb]) (.Compare a [.Eq] [b] pos) := by
  refine se_cmp2 G (op_eqD (by have := G.hu; omega)) (fun Fz H x y u v e Q hf fz hx hy q => ?_) ha hb
  simp only [fCmp, cmpSem, eqSem] at hf
  cases g1 : toD x with
  | none => simp [g1] at hf
  | some d =>
    cases g2 : toD y with
    | none => simp [g1, g2] at hf
    | some d' =>
      simp only [g1, g2] at hf
      split at hf
      · rename_i c
        cases hf
        rw [Bool.and_eq_true] at c
        exact ⟨d, d', hx.dp G g1, hy.dp G g2, c.1, c.2, q _ _ Res.bl⟩
      · cases hf
theorem se_ne (G : GoodE X K F) {ea eb : Ev} {a b : Expr} {pos : Pos} (ha : SE X K ea a) (hb : SE X K eb b) : SE X K (evCmp (fCmp .NotEq) [ea, eb]) (.Compare a [.NotEq] [b] pos) := by
  refine se_cmp2 G (op_neD (by have := G.hu; omega)) (fun Fz H x y u v e Q hf fz hx hy q => ?_) ha hb
  simp only [fCmp, cmpSem, eqSem] at hf
  cases g1 : toD x with
  | none => simp [g1] at hf
  | some d =>
    cases g2 : toD y with
    | none => simp [g1, g2] at hf
    | some d' =>
      simp only [g1, g2] at hf
      split at hf
      · rename_i c
        cases hf
        rw [Bool.and_eq_true] at c
        exact ⟨d, d', hx.dp G g1, hy.dp G g2, c.1, c.2, q _ _ Res.bl⟩
      · cases hf
theorem RE.isNon {x : Ent} {v : V} (h : RE K Fz H x v) : decide (v = .non) = isN x := by
  cases x with
  | val d =>
    cases d with
    | none => have := h.non; subst this; rfl
    | bool b => have := h.bool; subst this; rfl
    | int b => have := h.int; subst this; rfl
    | str b => have h : v = .str b := by simpa only [RE, RF] using h
               subst h; rfl
    | list ds =>
      simp only [RE, RF] at h
      obtain ⟨a, vs, e, _⟩ := h
      subst e; rfl
    | tuple ds =>
      obtain ⟨a, vs, e, _⟩ := h.tup
      subst e; rfl
    | dict ds => simp only [RE, RF] at h
  | lst ds => obtain ⟨a, vs, e, _⟩ := h; subst e; rfl
  | dct ds => obtain ⟨a, vs, e, _⟩ := h; subst e; rfl
  | dctT ds => obtain ⟨a, vs, e, _⟩ := h; subst e; rfl
  | ro ds => obtain ⟨a, vs, e, _⟩ := h; subst e; rfl
theorem is_cases {x y : Ent} {c : Bool} (h : cmpSem .Is x y = some c) : (y = .val .none ∧ c = isN x) ∨ ∃ d b, y = .val (.bool b) ∧ x = .val (.bool d) ∧ c = decide (d = b) := by
  simp only [cmpSem] at h
  cases y with
  | val d =>
    cases d with
    | none => simp only [isD, Option.some.injEq] at h; exact .inl ⟨rfl, h.symm⟩
    | bool b =>
      simp only [isD] at h
      cases x with
      | val e =>
        cases e with
        | bool d => simp only [Option.some.injEq] at h; exact .inr ⟨d, b, rfl, rfl, h.symm⟩
        | _ => simp at h
      | _ => simp at h
    | _ => simp [isD] at h
  | _ => simp at h
theorem se_is (G : GoodE X K F) {ea eb : Ev} {a b : Expr} {pos : Pos} (ha : SE X K ea a) (hb : SE X K eb b) : SE X K (evCmp (fCmp .Is) [ea, eb]) (.Compare a [.Is] [b] pos) := by
  refine se_cmp2 G (op_isN.or op_isBl) (rule_or fun Fz H x y u v e Q hf fz hx hy q => ?_) ha hb
  simp only [fCmp] at hf
  cases g : cmpSem .Is x y with
  | none => rw [g] at hf; cases hf
  | some c =>
    rw [g] at hf
    cases hf
    rcases is_cases g with ⟨e1, e2⟩ | ⟨d, b, e1, e2, e3⟩
    · subst e1
      exact .inl ⟨hy.non, by rw [hx.isNon, ← e2]; exact q _ _ Res.bl⟩
    · subst e1; subst e2; subst e3
      exact .inr ⟨d, b, hx.bool, hy.bool, q _ _ Res.bl⟩
theorem se_isnot (G : GoodE X K F) {ea eb : Ev} {a b : Expr} {pos : Pos} (ha : SE X K ea a) (hb : SE X K eb b) : SE X K (evCmp (fCmp .IsNot) [ea, eb]) (.Compare a [.IsNot] [b] pos) := by
  refine se_cmp2 G (op_notN.or op_notBl) (rule_or fun Fz H x y u v e Q hf fz hx hy q => ?_) ha hb
  have hf : (cmpSem .IsNot x y).map bv = some e := hf
  have e0 : cmpSem .IsNot x y = (cmpSem .Is x y).map not := by
    cases y <;> rfl
  rw [e0] at hf
  cases g : cmpSem .Is x y with
  | none => rw [g] at hf; cases hf
  | some c =>
    rw [g] at hf
    cases hf
    rcases is_cases g with ⟨e1, e2⟩ | ⟨d, b, e1, e2, e3⟩
    · subst e1
      exact .inl ⟨hy.non, by rw [hx.isNon, ← e2]; exact q _ _ Res.bl⟩
    · subst e1; subst e2; subst e3
      exact .inr ⟨d, b, hx.bool, hy.bool, q _ _ Res.bl⟩
theorem RE.tupInts {x : Ent} {v : V} {ns : List Int} (G : GoodE X K F) (h : RE K Fz H x v) (e : MP.tupInts x = some ns) : ∃ a, v = .ref a ∧ SqT X.K H a (ns.map V.int) := by
  cases x with
  | val d =>
    cases d with
    | tuple ds =>
      obtain ⟨a, vs, e1, t, r⟩ := h.tup
      have e2 : intsOf ds = some ns := e
      have := RFs.ints e2 r
      subst this
      exact ⟨a, e1, t.sq G⟩
    | _ => exact absurd e (by simp [MP.tupInts])
  | _ => exact absurd e (by simp [MP.tupInts])
theorem se_lt (G : GoodE X K F) {ea eb : Ev} {a b : Expr} {pos : Pos} (ha : SE X K ea a) (hb : SE X K eb b) : SE X K (evCmp (fCmp .Lt) [ea, eb]) (.Compare a [.Lt] [b] pos) := by
  refine se_cmp2 G (op_lt.or (op_ltT (by have := G.hu; omega))) (rule_or fun Fz H x y u v e Q hf fz hx hy q => ?_) ha hb
  simp only [fCmp, cmpSem] at hf
  split at hf
  · cases hf
    exact .inl ⟨_, _, hx.int, hy.int, q _ _ Res.bl⟩
  · split at hf
    · rename_i ns ms g1 g2
      cases hf
      obtain ⟨p, e1, t1⟩ := hx.tupInts G g1
      obtain ⟨p2, e2, t2⟩ := hy.tupInts G g2
      exact .inr ⟨p, p2, ns, ms, e1, e2, t1, t2, q _ _ Res.bl⟩
    · cases hf
theorem rule_cmpI {op : CmpOp} {p : Int → Int → Bool} (h : ∀ x y c, cmpSem op x y = some c → ∃ i j, x = .val (.int i) ∧ y = .val (.int j) ∧ c = p i j) : RuleOk2 K (rI0 fun i j => .bl (p i j)) fun xs => (fCmp op xs).map bv := by
  intro Fz H x y u v e Q hf fz hx hy q
  simp only [fCmp] at hf
  cases g : cmpSem op x y with
  | none => simp [g] at hf
  | some c =>
    simp only [g, Option.map_some, Option.some.injEq] at hf
    subst hf
    obtain ⟨i, j, rfl, rfl, rfl⟩ := h x y c g
    exact ⟨i, j, hx.int, hy.int, q _ _ Res.bl⟩
theorem se_le (G : GoodE X K F) {ea eb : Ev} {a b : Expr} {pos : Pos} (ha : SE X K ea a) (hb : SE X K eb b) : SE X K (evCmp (fCmp .LtE) [ea, eb]) (.Compare a [.LtE] [b] pos) :=
  se_cmp2 G op_le (rule_cmpI fun x y c g => by
    simp only [cmpSem] at g
    split at g
    · cases g; exact ⟨_, _, rfl, rfl, rfl⟩
    · cases g) ha hb
theorem se_gt (G : GoodE X K F) {ea eb : Ev} {a b : Expr} {pos : Pos} (ha : SE X K ea a) (hb : SE X K eb b) : SE X K (evCmp (fCmp .Gt) [ea, eb]) (.Compare a [.Gt] [b] pos) :=
  se_cmp2 G op_gt (rule_cmpI fun x y c g => by
    simp only [cmpSem] at g
    split at g
    · cases g; exact ⟨_, _, rfl, rfl, rfl⟩
    · cases g) ha hb
theorem se_ge (G : GoodE X K F) {ea eb : Ev} {a b : Expr} {pos : Pos} (ha : SE X K ea a) (hb : SE X K eb b) : SE X K (evCmp (fCmp .GtE) [ea, eb]) (.Compare a [.GtE] [b] pos) :=
  se_cmp2 G op_ge (rule_cmpI fun x y c g => by
    simp only [cmpSem] at g
    split at g
    · cases g; exact ⟨_, _, rfl, rfl, rfl⟩
    · cases g) ha hb

/-! ### k in d, x in xs -/
theorem RF.key {d : D} {v : V} {k : Key} (h : RF K Fz H d v) (e : keyOf d = some k) : v = kV k := by
  cases d with
  | int i => cases e; simp only [RF] at h; subst h; rfl
  | str s => cases e; simp only [RF] at h; subst h; rfl
  | _ => cases e
theorem RFs.keys : ∀ {ds : List D} {vs : List V} {ks : List Key}, RFs K Fz H ds vs → keysOf ds = some ks → vs = ks.map kV
  | [], vs, ks, h, e => by
    simp only [RFs] at h
    cases e
    subst h
    rfl
  | d :: ds, vs, ks, h, e => by
    simp only [keysOf] at e
    cases g1 : keyOf d with
    | none => simp [g1] at e
    | some k =>
      cases g2 : keysOf ds with
      | none => simp [g1, g2] at e
      | some r =>
        simp only [g1, g2, Option.some.injEq] at e
        subst e
        simp only [RFs] at h
        obtain ⟨v, w, e, h1, h2⟩ := h
        subst e
        rw [h1.key g1, RFs.keys h2 g2]
        rfl
theorem val_look {κ : Type} [DecidableEq κ] : ∀ {kvs : List (κ × D)} {us : List (κ × V)} (k : κ), kRel K Fz H kvs us → match lookG kvs k with | some d => ∃ v, valV us k = some v ∧ RF K Fz H d v | none => valV us k = none
  | [], us, k, h => by
    obtain ⟨h1, h2⟩ := h
    have : us = [] := by simpa using h1
    subst this
    rfl
  | (j, d) :: r, us, k, h => by
    obtain ⟨h1, h2⟩ := h
    match us, h1, h2 with
    | [], h1, _ => simp at h1
    | (i, u) :: s, h1, h2 =>
      simp only [List.map_cons, List.cons.injEq] at h1
      obtain ⟨e1, h1'⟩ := h1
      subst e1
      simp only [List.map_cons, RFs] at h2
      obtain ⟨v, w, e, hv, hw⟩ := h2
      cases e
      by_cases hk : i = k
      · subst hk
        simp only [lookG, List.find?_cons, decide_true, Option.map_some]
        exact ⟨u, by simp [valV], hv⟩
      · have ih := val_look (kvs := r) (us := s) k ⟨h1', hw⟩
        simp only [lookG, List.find?_cons, hk, decide_false] at ih ⊢
        have e2 : valV ((i, u) :: s) k = valV s k := valV_neg hk
        rw [e2]
        exact ih
theorem look_some {κ : Type} [DecidableEq κ] {kvs : List (κ × D)} {us : List (κ × V)} (k : κ) (h : kRel K Fz H kvs us) : (valV us k).isSome = (lookG kvs k).isSome := by
  have := val_look k h
  cases g : lookG kvs k with
  | none => rw [g] at this; dsimp only at this; rw [this]; rfl
  | some d => rw [g] at this; obtain ⟨v, e, _⟩ := this; rw [e]; rfl
/-- a key that is a tuple of ints and texts -/
theorem RE.keyT {d : D} {v : V} {k : List Key} (nc : ∀ a vs, ¬ K.t a vs) (h : RE K Fz H (.val d) v) (e : MP.keyT d = some k) : ∃ b, v = .ref b ∧ H b = some (.tup (k.map kV)) := by
  cases d with
  | tuple ds =>
    obtain ⟨a, vs, e1, t, r⟩ := h.tup
    have := r.keys e
    subst this
    rcases t with t | t
    · exact ⟨a, e1, t⟩
    · exact absurd t (nc _ _)
  | _ => cases e
theorem op_dIn (hu : X.A.units + 1 < cLine) : OpR X (compareOp .In) (fun y x H Q => ∃ a o, x = .ref a ∧ DGet H a y o ∧ Q (.bl o.isSome) H) := by
  intro pins s σ H y x u v Q I ry rx h
  obtain ⟨a, o, ex, g, q⟩ := h
  subst ex
  obtain rfl : v = Value.ref a := rx
  exact d_in hu I g ry fun s3 I3 => ⟨.bl o.isSome, H, I3, rfl, q⟩
theorem op_dNotIn (hu : X.A.units + 1 < cLine) : OpR X (compareOp .NotIn) (fun y x H Q => ∃ a o, x = .ref a ∧ DGet H a y o ∧ Q (.bl (!o.isSome)) H) := by
  intro pins s σ H y x u v Q I ry rx h
  obtain ⟨a, o, ex, g, q⟩ := h
  subst ex
  obtain rfl : v = Value.ref a := rx
  exact d_notIn hu I g ry fun s3 I3 => ⟨.bl (!o.isSome), H, I3, rfl, q⟩
end
end MP
set_option Elab.async false
set_option linter.all false
set_option maxRecDepth 100000
/-! MP5: in, and, or, not, if, displays, subscripts, slices -/
namespace MP
open PySem PySem.Spec PyProof.Rows L2
section
variable {X : Cx} {K : Cst} {F : FT} {Fz : Addr → Prop} {H : Hp}

/-! ### x in xs -/
def rInA (K : PySem.W.Frag) (neg : Bool) : R2 := fun x y H Q => ∃ d ds, Dp K H x d ∧ (Dp K H y (.list ds) ∨ Dp K H y (.tuple ds)) ∧ SeqAt.shaped d = true ∧ PyData.canLayAll0 ds = true ∧
  Q (.bl (if neg then !(ds.any fun z => PyData.eqv z d) else ds.any fun z => PyData.eqv z d)) H
theorem op_inA (hu : X.A.units + 65 < cLine) : OpR X (compareOp .In) (rInA X.K false) := by
  intro pins s σ H x y v u Q I rx ry h
  obtain ⟨d, ds, hd, he, sd, se, q⟩ := h
  obtain ⟨as, r1⟩ := Dp.reads I d x v hd rx
  rcases he with he | he
  · obtain ⟨bs, r2⟩ := Dp.reads I (.list ds) y u he ry
    exact SeqAt.in_list_reads r2 r1 (by simpa [PyData.canLay0] using se) (SeqAt.canLay_of_shaped sd) (room_in_shaped sd hu) ⟨.bl _, H, I, rfl, q⟩
  · obtain ⟨bs, r2⟩ := Dp.reads I (.tuple ds) y u he ry
    exact SeqAt.in_tuple_reads r2 r1 (by simpa [PyData.canLay0] using se) (SeqAt.canLay_of_shaped sd) (room_in_shaped sd hu) ⟨.bl _, H, I, rfl, q⟩
theorem op_notInA (hu : X.A.units + 65 < cLine) : OpR X (compareOp .NotIn) (rInA X.K true) := by
  intro pins s σ H x y v u Q I rx ry h
  obtain ⟨d, ds, hd, he, sd, se, q⟩ := h
  obtain ⟨as, r1⟩ := Dp.reads I d x v hd rx
  rcases he with he | he
  · obtain ⟨bs, r2⟩ := Dp.reads I (.list ds) y u he ry
    exact SeqAt.notIn_list_reads r2 r1 (by simpa [PyData.canLay0] using se) (SeqAt.canLay_of_shaped sd) (room_in_shaped sd hu) ⟨.bl _, H, I, rfl, q⟩
  · obtain ⟨bs, r2⟩ := Dp.reads I (.tuple ds) y u he ry
    exact SeqAt.notIn_tuple_reads r2 r1 (by simpa [PyData.canLay0] using se) (SeqAt.canLay_of_shaped sd) (room_in_shaped sd hu) ⟨.bl _, H, I, rfl, q⟩
/-- what «in» asks of its right side -/
theorem in_cases {x y : Ent} {c : Bool} (h : inSem x y = some c) :
    (∃ kvs d k, y = .dct kvs ∧ x = .val d ∧ keyOf d = some k ∧ c = (lookG kvs k).isSome) ∨ (∃ kvs d k, y = .dctT kvs ∧ x = .val d ∧ keyT d = some k ∧ c = (lookG kvs k).isSome) ∨
    ∃ d ds, toD x = some d ∧ seqOf y = some ds ∧ SeqAt.shaped d = true ∧ PyData.canLayAll0 ds = true ∧ c = ds.any fun e => PyData.eqv e d := by
  have seq : ∀ {y : Ent}, (match toD x, seqOf y with
    | some d, some ds => if SeqAt.shaped d && PyData.canLayAll0 ds then some (ds.any fun e => PyData.eqv e d) else none
    | _, _ => none) = some c → ∃ d ds, toD x = some d ∧ seqOf y = some ds ∧ SeqAt.shaped d = true ∧ PyData.canLayAll0 ds = true ∧ c = ds.any fun e => PyData.eqv e d := by
    intro y h
    cases g1 : toD x with
    | none => simp [g1] at h
    | some d =>
      cases g2 : seqOf y with
      | none => simp [g1, g2] at h
      | some ds =>
        simp only [g1, g2] at h
        split at h
        · rename_i z
          rw [Bool.and_eq_true] at z
          cases h
          exact ⟨d, ds, rfl, rfl, z.1, z.2, rfl⟩
        · cases h
  cases y with
  | dct kvs =>
    simp only [inSem] at h
    cases x with
    | val d =>
      cases g : keyOf d with
      | none => simp [g] at h
      | some k => simp only [g, Option.map_some, Option.some.injEq] at h; exact .inl ⟨kvs, d, k, rfl, rfl, g, h.symm⟩
    | _ => simp at h
  | dctT kvs =>
    simp only [inSem] at h
    cases x with
    | val d =>
      cases g : keyT d with
      | none => simp [g] at h
      | some k => simp only [g, Option.map_some, Option.some.injEq] at h; exact .inr (.inl ⟨kvs, d, k, rfl, rfl, g, h.symm⟩)
    | _ => simp at h
  | val e => exact .inr (.inr (seq h))
  | lst e => exact .inr (.inr (seq h))
  | ro e => exact .inr (.inr (seq h))
theorem RE.dpSeq (G : GoodE X K F) {y : Ent} {v : V} {ds : List D} (h : RE K Fz H y v) (e : MP.seqOf y = some ds) : Dp X.K H v (.list ds) ∨ Dp X.K H v (.tuple ds) := by
  cases y with
  | val d =>
    cases d with
    | list es => cases e; exact .inl (RF.dp G _ _ h)
    | tuple es => cases e; exact .inr (RF.dp G _ _ h)
    | _ => cases e
  | lst es =>
    cases e
    obtain ⟨a, vs, e1, _, ha, r⟩ := h
    subst e1
    exact .inl (.lst (.inl (.inl ha)) (RFs.dp G _ _ r))
  | _ => cases e
theorem in_fin (G : GoodE X K F) (nc : ∀ a vs, ¬ K.t a vs) {x y : Ent} {u v : V} {c : Bool} (hx : RE K Fz H x u) (hy : RE K Fz H y v) (h : inSem x y = some c) :
    (∃ a o, v = .ref a ∧ DGet H a u o ∧ c = o.isSome) ∨ ∃ d ds, Dp X.K H u d ∧ (Dp X.K H v (.list ds) ∨ Dp X.K H v (.tuple ds)) ∧ SeqAt.shaped d = true ∧ PyData.canLayAll0 ds = true ∧ c = ds.any fun e => PyData.eqv e d := by
  rcases in_cases h with ⟨kvs, d, k, rfl, rfl, ek, rfl⟩ | ⟨kvs, d, k, rfl, rfl, ek, rfl⟩ | ⟨d, ds, e1, e2, s1, s2, rfl⟩
  · obtain ⟨a, us, rfl, nf, ha, kr⟩ := hy
    refine .inl ⟨a, valV us k, rfl, ?_, (look_some k kr).symm⟩
    have := RF.key hx ek
    subst this
    exact DGet.k ha
  · obtain ⟨a, us, rfl, nf, ha, kr⟩ := hy
    refine .inl ⟨a, valV us k, rfl, ?_, (look_some k kr).symm⟩
    obtain ⟨b, rfl, hb⟩ := hx.keyT nc ek
    exact DGet.t ha hb
  · exact .inr ⟨d, ds, hx.dp G e1, hy.dpSeq G e2, s1, s2, rfl⟩
theorem se_in (G : GoodE X K F) (nc : ∀ a vs, ¬ K.t a vs) {ea eb : Ev} {a b : Expr} {pos : Pos} (ha : SE X K ea a) (hb : SE X K eb b) : SE X K (evCmp (fCmp .In) [ea, eb]) (.Compare a [.In] [b] pos) := by
  refine se_cmp2 G ((op_dIn (by have := G.hu; omega)).or (op_inA (by have := G.hu; omega))) (rule_or fun Fz H x y u v e Q hf fz hx hy q => ?_) ha hb
  have hf : (inSem x y).map bv = some e := hf
  cases g : inSem x y with
  | none => rw [g] at hf; cases hf
  | some c =>
    rw [g] at hf
    cases hf
    rcases in_fin G nc hx hy g with ⟨a, o, e1, dg, e2⟩ | ⟨d, ds, d1, d2, s1, s2, e2⟩
    · exact .inl ⟨a, o, e1, dg, by rw [← e2]; exact q _ _ Res.bl⟩
    · exact .inr ⟨d, ds, d1, d2, s1, s2, by rw [if_neg Bool.false_ne_true, ← e2]; exact q _ _ Res.bl⟩
theorem se_notin (G : GoodE X K F) (nc : ∀ a vs, ¬ K.t a vs) {ea eb : Ev} {a b : Expr} {pos : Pos} (ha : SE X K ea a) (hb : SE X K eb b) : SE X K (evCmp (fCmp .NotIn) [ea, eb]) (.Compare a [.NotIn] [b] pos) := by
  refine se_cmp2 G ((op_dNotIn (by have := G.hu; omega)).or (op_notInA (by have := G.hu; omega))) (rule_or fun Fz H x y u v e Q hf fz hx hy q => ?_) ha hb
  have hf : ((inSem x y).map not).map bv = some e := hf
  cases g : inSem x y with
  | none => rw [g] at hf; cases hf
  | some c =>
    rw [g] at hf
    cases hf
    rcases in_fin G nc hx hy g with ⟨a, o, e1, dg, e2⟩ | ⟨d, ds, d1, d2, s1, s2, e2⟩
    · exact .inl ⟨a, o, e1, dg, by rw [← e2]; exact q _ _ Res.bl⟩
    · exact .inr ⟨d, ds, d1, d2, s1, s2, by rw [if_pos rfl, ← e2]; exact q _ _ Res.bl⟩

/-! ### and, or, not, if -/
inductive TEs (X : Cx) (K : Cst) : List Ev → List Expr → Prop
  | one {a e} : SE X K a e → TEs X K [a] [e]
  | cons {a e as es} : SE X K a e → TEs X K as es → TEs X K (a :: as) (e :: es)
theorem tAnds_one {a : Ev} {ρ : Env} : tAnds [a] ρ = a.t ρ := by
  simp only [tAnds]
  cases a.t ρ with
  | none => rfl
  | some z => obtain ⟨b, ρ1⟩ := z; cases b <;> rfl
theorem tOrs_one {a : Ev} {ρ : Env} : tOrs [a] ρ = a.t ρ := by
  simp only [tOrs]
  cases a.t ρ with
  | none => rfl
  | some z => obtain ⟨b, ρ1⟩ := z; cases b <;> rfl
theorem TEs.and {pos : Pos} : ∀ {as : List Ev} {es : List Expr}, TEs X K as es → ∃ t, PW X (.BoolOp .And es pos) t ∧ TstOk K t (tAnds as)
  | _, _, .one h => by
    obtain ⟨t, p, ok⟩ := h.tst
    exact ⟨t, pw_and1 p, fun Fz ρ σ H b ρ' Q hf R q => ok Fz ρ σ H b ρ' Q (tAnds_one ▸ hf) R q⟩
  | _, _, @TEs.cons _ _ a e as es h t => by
    obtain ⟨t1, p1, ok1⟩ := h.tst
    obtain ⟨t2, p2, ok2⟩ := TEs.and (pos := pos) t
    cases es with
    | nil => cases t
    | cons e2 es =>
      refine ⟨_, pw_and p1 p2, fun Fz ρ σ H b ρ' Q hf R q => ?_⟩
      simp only [tAnds] at hf
      cases g : a.t ρ with
      | none => rw [g] at hf; cases hf
      | some z =>
        obtain ⟨c, ρ1⟩ := z
        rw [g] at hf
        cases c with
        | true =>
          refine ok1 Fz ρ σ H true ρ1 _ g R fun H1 Fz1 M1 => ?_
          rw [if_pos rfl]
          exact ok2 Fz1 ρ1 σ H1 b ρ' Q hf M1.rel fun H2 Fz2 M2 => q H2 Fz2 (M1.trans M2)
        | false =>
          cases hf
          refine ok1 Fz ρ σ H false _ _ g R fun H1 Fz1 M1 => ?_
          rw [if_neg Bool.false_ne_true]
          exact q H1 Fz1 M1
theorem TEs.or {pos : Pos} : ∀ {as : List Ev} {es : List Expr}, TEs X K as es → ∃ t, PW X (.BoolOp .Or es pos) t ∧ TstOk K t (tOrs as)
  | _, _, .one h => by
    obtain ⟨t, p, ok⟩ := h.tst
    exact ⟨t, pw_or1 p, fun Fz ρ σ H b ρ' Q hf R q => ok Fz ρ σ H b ρ' Q (tOrs_one ▸ hf) R q⟩
  | _, _, @TEs.cons _ _ a e as es h t => by
    obtain ⟨t1, p1, ok1⟩ := h.tst
    obtain ⟨t2, p2, ok2⟩ := TEs.or (pos := pos) t
    cases es with
    | nil => cases t
    | cons e2 es =>
      refine ⟨_, pw_or p1 p2, fun Fz ρ σ H b ρ' Q hf R q => ?_⟩
      simp only [tOrs] at hf
      cases g : a.t ρ with
      | none => rw [g] at hf; cases hf
      | some z =>
        obtain ⟨c, ρ1⟩ := z
        rw [g] at hf
        cases c with
        | false =>
          refine ok1 Fz ρ σ H false ρ1 _ g R fun H1 Fz1 M1 => ?_
          rw [if_neg Bool.false_ne_true]
          exact ok2 Fz1 ρ1 σ H1 b ρ' Q hf M1.rel fun H2 Fz2 M2 => q H2 Fz2 (M1.trans M2)
        | true =>
          cases hf
          refine ok1 Fz ρ σ H true _ _ g R fun H1 Fz1 M1 => ?_
          rw [if_pos rfl]
          exact q H1 Fz1 M1
theorem asBl_some {r : R Ent} {b : Bool} {ρ : Env} (h : asBl r = some (b, ρ)) : r = some (bv b, ρ) := by
  unfold asBl at h
  split at h
  · cases h; rfl
  · cases h
theorem TEs.andE {pos : Pos} : ∀ {as : List Ev} {es : List Expr}, TEs X K as es → ∃ t, PE X (.BoolOp .And es pos) t ∧ ValOk K t (eAnds as)
  | _, _, .one h => by
    obtain ⟨t, p, ok⟩ := h.val
    exact ⟨t, pe_one p, ok⟩
  | _, _, @TEs.cons _ _ a e as es h t => by
    obtain ⟨t1, p1, ok1⟩ := h.val
    obtain ⟨t2, p2, ok2⟩ := TEs.andE (pos := pos) t
    cases es with
    | nil => cases t
    | cons e2 es =>
      cases as with
      | nil => cases t
      | cons a2 as =>
        refine ⟨_, pe_and p1 p2, fun Fz ρ σ H r ρ' Q hf R q => ?_⟩
        simp only [eAnds] at hf
        cases g : asBl (a.e ρ) with
        | none => rw [g] at hf; cases hf
        | some z =>
          obtain ⟨c, ρ1⟩ := z
          rw [g] at hf
          have g2 := asBl_some g
          cases c with
          | true =>
            refine ok1 Fz ρ σ H (bv true) ρ1 _ g2 R fun v H1 Fz1 M1 O1 => ⟨true, O1.re.bool, ?_⟩
            rw [if_pos rfl]
            exact ok2 Fz1 ρ1 σ H1 r ρ' Q hf M1.rel fun v H2 Fz2 M2 O2 => q v H2 Fz2 (M1.trans M2) (O2.back M1)
          | false =>
            cases hf
            refine ok1 Fz ρ σ H (bv false) _ _ g2 R fun v H1 Fz1 M1 O1 => ⟨false, O1.re.bool, ?_⟩
            rw [if_neg Bool.false_ne_true]
            exact q _ H1 Fz1 M1 (Out.data (by simp only [RF]))
theorem TEs.orE {pos : Pos} : ∀ {as : List Ev} {es : List Expr}, TEs X K as es → ∃ t, PE X (.BoolOp .Or es pos) t ∧ ValOk K t (eOrs as)
  | _, _, .one h => by
    obtain ⟨t, p, ok⟩ := h.val
    exact ⟨t, pe_one p, ok⟩
  | _, _, @TEs.cons _ _ a e as es h t => by
    obtain ⟨t1, p1, ok1⟩ := h.val
    obtain ⟨t2, p2, ok2⟩ := TEs.orE (pos := pos) t
    cases es with
    | nil => cases t
    | cons e2 es =>
      cases as with
      | nil => cases t
      | cons a2 as =>
        refine ⟨_, pe_or p1 p2, fun Fz ρ σ H r ρ' Q hf R q => ?_⟩
        simp only [eOrs] at hf
        cases g : asBl (a.e ρ) with
        | none => rw [g] at hf; cases hf
        | some z =>
          obtain ⟨c, ρ1⟩ := z
          rw [g] at hf
          have g2 := asBl_some g
          cases c with
          | false =>
            refine ok1 Fz ρ σ H (bv false) ρ1 _ g2 R fun v H1 Fz1 M1 O1 => ⟨false, O1.re.bool, ?_⟩
            rw [if_neg Bool.false_ne_true]
            exact ok2 Fz1 ρ1 σ H1 r ρ' Q hf M1.rel fun v H2 Fz2 M2 O2 => q v H2 Fz2 (M1.trans M2) (O2.back M1)
          | true =>
            cases hf
            refine ok1 Fz ρ σ H (bv true) _ _ g2 R fun v H1 Fz1 M1 O1 => ⟨true, O1.re.bool, ?_⟩
            rw [if_pos rfl]
            exact q _ H1 Fz1 M1 (Out.data (by simp only [RF]))
theorem se_band {pos : Pos} {as : List Ev} {es : List Expr} (h : TEs X K as es) : SE X K (evAnd as) (.BoolOp .And es pos) := by
  obtain ⟨t, p, ok⟩ := h.and (pos := pos)
  exact ⟨⟨fun _ _ => rfl, fun _ => rfl, fun _ _ => rfl⟩, h.andE, ⟨t, p.pt, ok⟩, fun i e => by cases e⟩
theorem se_bor {pos : Pos} {as : List Ev} {es : List Expr} (h : TEs X K as es) : SE X K (evOr as) (.BoolOp .Or es pos) := by
  obtain ⟨t, p, ok⟩ := h.or (pos := pos)
  exact ⟨⟨fun _ _ => rfl, fun _ => rfl, fun _ _ => rfl⟩, h.orE, ⟨t, p.pt, ok⟩, fun i e => by cases e⟩
theorem se_bnot {pos : Pos} {ea : Ev} {a : Expr} (h : SE X K ea a) : SE X K (evNot ea) (.UnaryOp .Not a pos) := by
  refine ⟨⟨fun _ _ => rfl, fun _ => rfl, fun _ _ => rfl⟩, ?_, ?_, fun i e => by cases e⟩
  · obtain ⟨t, p, ok⟩ := h.val
    refine ⟨_, pe_not p, fun Fz ρ σ H r ρ' Q hf R q => ?_⟩
    have hf : asB (notR (asBl (ea.e ρ))) = some (r, ρ') := hf
    cases g : asBl (ea.e ρ) with
    | none => rw [g] at hf; cases hf
    | some z =>
      obtain ⟨c, ρ1⟩ := z
      rw [g] at hf
      cases hf
      exact ok Fz ρ σ H (bv c) _ _ (asBl_some g) R fun v H1 Fz1 M1 O1 => ⟨c, O1.re.bool, q _ H1 Fz1 M1 (Out.data (by simp only [RF]))⟩
  · obtain ⟨t, p, ok⟩ := h.tst
    refine ⟨_, pt_not p, fun Fz ρ σ H r ρ' Q hf R q => ?_⟩
    have hf : notR (ea.t ρ) = some (r, ρ') := hf
    cases g : ea.t ρ with
    | none => rw [g] at hf; cases hf
    | some z =>
      obtain ⟨c, ρ1⟩ := z
      rw [g] at hf
      cases hf
      exact ok Fz ρ σ H c _ _ g R fun H1 Fz1 M1 => q H1 Fz1 M1
theorem pt_ifExp {c a b : Expr} {tc ta tb : TT} {pos : Pos} (hc : PT X c tc) (ha : PT X a ta) (hb : PT X b tb) : PT X (.IfExp c a b pos) (fun σ H Q => tc σ H fun k H1 => if k = true then ta σ H1 Q else tb σ H1 Q) := by
  refine ⟨fun pins s σ H Q I h => ?_⟩
  rw [PySem.isTrue]
  refine wpAny_bind (thn (hc.run pins s σ H _ I h) fun d s1 ⟨H1, I1, q1⟩ => ?_)
  cases d with
  | true => exact ha.run pins s1 σ H1 Q I1 q1
  | false => exact hb.run pins s1 σ H1 Q I1 q1
theorem se_ife {pos : Pos} {ec ea eb : Ev} {c a b : Expr} (hc : SE X K ec c) (ha : SE X K ea a) (hb : SE X K eb b) : SE X K (evIf ec ea eb) (.IfExp c a b pos) := by
  obtain ⟨tc, pc, okc⟩ := hc.tst
  refine ⟨⟨fun _ _ => rfl, fun _ => rfl, fun _ _ => rfl⟩, ?_, ?_, fun i e => by cases e⟩
  · obtain ⟨t1, p1, ok1⟩ := ha.val
    obtain ⟨t2, p2, ok2⟩ := hb.val
    refine ⟨_, pe_ifExp pc p1 p2, fun Fz ρ σ H r ρ' Q hf R q => ?_⟩
    have hf : (match ec.t ρ with
      | some (true, ρ1) => ea.e ρ1
      | some (false, ρ1) => eb.e ρ1
      | none => none) = some (r, ρ') := hf
    cases g : ec.t ρ with
    | none => rw [g] at hf; cases hf
    | some z =>
      obtain ⟨k, ρ1⟩ := z
      rw [g] at hf
      refine okc Fz ρ σ H k ρ1 _ g R fun H1 Fz1 M1 => ?_
      cases k with
      | true => rw [if_pos rfl]; exact ok1 Fz1 ρ1 σ H1 r ρ' Q hf M1.rel fun v H2 Fz2 M2 O2 => q v H2 Fz2 (M1.trans M2) (O2.back M1)
      | false => rw [if_neg Bool.false_ne_true]; exact ok2 Fz1 ρ1 σ H1 r ρ' Q hf M1.rel fun v H2 Fz2 M2 O2 => q v H2 Fz2 (M1.trans M2) (O2.back M1)
  · obtain ⟨t1, p1, ok1⟩ := ha.tst
    obtain ⟨t2, p2, ok2⟩ := hb.tst
    refine ⟨_, pt_ifExp pc p1 p2, fun Fz ρ σ H r ρ' Q hf R q => ?_⟩
    have hf : (match ec.t ρ with
      | some (true, ρ1) => ea.t ρ1
      | some (false, ρ1) => eb.t ρ1
      | none => none) = some (r, ρ') := hf
    cases g : ec.t ρ with
    | none => rw [g] at hf; cases hf
    | some z =>
      obtain ⟨k, ρ1⟩ := z
      rw [g] at hf
      refine okc Fz ρ σ H k ρ1 _ g R fun H1 Fz1 M1 => ?_
      cases k with
      | true => rw [if_pos rfl]; exact ok1 Fz1 ρ1 σ H1 r ρ' Q hf M1.rel fun H2 Fz2 M2 => q H2 Fz2 (M1.trans M2)
      | false => rw [if_neg Bool.false_ne_true]; exact ok2 Fz1 ρ1 σ H1 r ρ' Q hf M1.rel fun H2 Fz2 M2 => q H2 Fz2 (M1.trans M2)
end
end MP
set_option Elab.async false
set_option linter.all false
set_option maxRecDepth 100000
/-! MP6: displays, subscripts, slices, built-ins -/
namespace MP
open PySem PySem.Spec PyProof.Rows L2
section
variable {X : Cx} {K : Cst} {F : FT} {Fz : Addr → Prop} {H : Hp}
theorem PEs.noStar : ∀ {es : List Expr} {ts : List TE}, PEs X es ts → ∀ pos, (backTo pos (starEach es X.env)).any (·.1) = false
  | _, _, .nil, pos => rfl
  | _, _, .cons n h t, pos => by
    rw [n]
    show (false || (backTo pos (starEach _ X.env)).any (·.1)) = false
    rw [t.noStar pos]
    rfl
theorem PEs.few : ∀ {es : List Expr} {ts : List TE}, PEs X es ts → ∀ pos, (backTo pos (starEach es X.env)).all (fun x => !x.1) = true
  | _, _, .nil, pos => rfl
  | _, _, .cons n h t, pos => by
    rw [n]
    show (true && (backTo pos (starEach _ X.env)).all (fun x => !x.1)) = true
    rw [t.few pos]
    rfl

/-! ### items -/
def ItemsOk (K : Cst) (ts : List TE) (f : Env → R (List D)) : Prop :=
  ∀ Fz ρ σ H ds ρ' (Q : List V → Hp → Prop), f ρ = some (ds, ρ') → Rel K Fz ρ σ H → (∀ vs H' Fz', Mv K Fz ρ σ H Fz' ρ' σ H' → RFs K Fz' H' ds vs → Q vs H') → tArgs ts σ H Q
theorem SEs.items : ∀ {as : List Ev} {es : List Expr}, SEs X K as es → ∃ ts, PEs X es ts ∧ ItemsOk K ts (items as)
  | _, _, .nil => ⟨[], .nil, fun Fz ρ σ H ps ρ' Q hf R q => by
      cases hf
      exact q [] H Fz (Mv.refl R) (by simp only [RFs])⟩
  | _, _, @SEs.cons _ _ a e as es h t => by
    obtain ⟨ts, ps, ok⟩ := SEs.items t
    obtain ⟨u, p, okh⟩ := h.val
    refine ⟨u :: ts, .cons h.pn.ns p ps, fun Fz ρ σ H qs ρ' Q hf R q => ?_⟩
    simp only [MP.items] at hf
    cases g : a.e ρ with
    | none => rw [g] at hf; cases hf
    | some z =>
      obtain ⟨x, ρ1⟩ := z
      rw [g] at hf
      dsimp only at hf
      cases g3 : toD x with
      | none => rw [g3] at hf; cases hf
      | some d =>
        rw [g3] at hf
        dsimp only at hf
        cases g2 : MP.items as ρ1 with
        | none => rw [g2] at hf; cases hf
        | some z =>
          obtain ⟨ds, ρ2⟩ := z
          rw [g2] at hf
          cases hf
          refine okh Fz ρ σ H x ρ1 _ g R fun v H1 Fz1 M1 o1 => ?_
          obtain ⟨Fz1', M1', rf⟩ := o1.toD M1 g3
          refine ok Fz1' ρ1 σ H1 ds _ _ g2 M1'.rel fun vs H2 Fz2 M2 o2 => ?_
          refine q (v :: vs) H2 Fz2 (M1'.trans M2) ?_
          simp only [RFs]
          exact ⟨v, vs, rfl, RF.stay (M2.stay M1'.rel) _ _ rf, o2⟩
theorem se_tup (G : GoodE X K F) {as : List Ev} {es : List Expr} {k : Nat} {pos : Pos} (h : SEs X K as es) : SE X K (evTup as) (.Tuple es k pos) := by
  obtain ⟨ts, ps, ok⟩ := h.items
  refine se_mk G ⟨fun _ _ => rfl, fun _ => rfl, fun _ _ => rfl⟩ (fun _ _ => rfl) ⟨_, pe_tup ps.pa, fun Fz ρ σ H r ρ' Q hf R q => ?_⟩
  dsimp only at hf
  cases g : MP.items as ρ with
  | none => rw [g] at hf; cases hf
  | some z =>
    obtain ⟨ds, ρ1⟩ := z
    rw [g] at hf
    dsimp only at hf
    split at hf
    · rename_i hl
      cases hf
      refine ok Fz ρ σ H ds _ _ g R fun vs H1 Fz1 M re => ⟨by rw [← re.length]; exact lim_line hl, fun p n => ?_⟩
      obtain ⟨M2, O2⟩ := (Res.tup n re).out M.rel
      exact q _ _ Fz1 (M.trans M2) (O2.back M)
    · cases hf
theorem se_lst (G : GoodE X K F) {as : List Ev} {es : List Expr} {pos : Pos} (h : SEs X K as es) : SE X K (evLst as) (.List es pos) := by
  obtain ⟨ts, ps, ok⟩ := h.items
  refine se_mk G ⟨fun _ _ => rfl, fun _ => rfl, fun _ _ => rfl⟩ (fun _ _ => rfl) ⟨_, pe_lst ps.pa, fun Fz ρ σ H r ρ' Q hf R q => ?_⟩
  dsimp only at hf
  cases g : MP.items as ρ with
  | none => rw [g] at hf; cases hf
  | some z =>
    obtain ⟨ds, ρ1⟩ := z
    rw [g] at hf
    dsimp only at hf
    split at hf
    · rename_i hl
      cases hf
      refine ok Fz ρ σ H ds _ _ g R fun vs H1 Fz1 M re => ⟨by rw [← re.length]; exact lim_line hl, fun p n => ?_⟩
      obtain ⟨M2, O2⟩ := (Res.lst M.rel.fzH n re).out M.rel
      exact q _ _ Fz1 (M.trans M2) (O2.back M)
    · cases hf
theorem Res.dct {p : Addr} (fz : ∀ a, Fz a → ∃ ws, H a = some (.lst ws)) (n : H p = none) : Res K Fz H (.dct []) (upd H p (.dK [])) (.ref p) :=
  .new n ⟨p, [], rfl, (fun f => by obtain ⟨ws, h⟩ := fz p f; rw [n] at h; cases h), upd_same, rfl, by simp only [List.map_nil, RFs]⟩
theorem Res.dctT {p : Addr} (fz : ∀ a, Fz a → ∃ ws, H a = some (.lst ws)) (n : H p = none) : Res K Fz H (.dctT []) (upd H p (.dT [])) (.ref p) :=
  .new n ⟨p, [], rfl, (fun f => by obtain ⟨ws, h⟩ := fz p f; rw [n] at h; cases h), upd_same, rfl, by simp only [List.map_nil, RFs]⟩
theorem se_dnewK (G : GoodE X K F) {pos : Pos} : SE X K (evE1 (.dct [])) (.Dict [] [] pos) :=
  se_mk G ⟨fun _ _ => rfl, fun _ => rfl, fun _ _ => rfl⟩ (fun _ _ => rfl) ⟨_, pe_dnewK, fun Fz ρ σ H r ρ' Q hf R q p n => by
    cases hf
    obtain ⟨M2, O2⟩ := (Res.dct R.fzH n).out R
    exact q _ _ Fz M2 O2⟩
theorem se_dnewT (G : GoodE X K F) {pos : Pos} : SE X K (evE1 (.dctT [])) (.Dict [] [] pos) :=
  se_mk G ⟨fun _ _ => rfl, fun _ => rfl, fun _ _ => rfl⟩ (fun _ _ => rfl) ⟨_, pe_dnewT, fun Fz ρ σ H r ρ' Q hf R q p n => by
    cases hf
    obtain ⟨M2, O2⟩ := (Res.dctT R.fzH n).out R
    exact q _ _ Fz M2 O2⟩

/-! ### x[i] -/
theorem ix_dict (hu : X.A.units + 1 < cLine) : IxR X (fun x y H Q => ∃ a v, x = .ref a ∧ DGet H a y (some v) ∧ Q v H) := by
  intro value slice pins s σ H x y v u Q I rx ry h hs
  obtain ⟨a, w, rfl, g, q⟩ := h
  cases rx
  exact PyProof.Rows.tail_any (dict_typeIs I g) PySem.F.slot_dict_getitem.lookup (d_getItem hu I g ry fun w' s3 I3 rw' => ⟨w, H, I3, rw', q⟩) hs
theorem atI_all {ds : List D} {vs : List V} {i : Int} {d : D} (r : RFs K Fz H ds vs) (e : atI ds i = some d) : ∃ v, atI vs i = some v ∧ RF K Fz H d v := by
  unfold atI at e ⊢
  rw [← r.length]
  cases g : ixN ds.length i with
  | none => rw [g] at e; cases e
  | some j =>
    rw [g] at e
    obtain ⟨v, e2, h⟩ := r.all.at (j := j) e
    exact ⟨v, e2, h⟩
theorem RE.ro (G : GoodE X K F) {ds : List D} {v : V} (h : RE K Fz H (.ro ds) v) : ∃ a vs, v = .ref a ∧ SqL X.K H a vs ∧ RFs K Fz H ds vs := by
  obtain ⟨a, vs, e, c, r⟩ := h
  refine ⟨a, vs, e, ?_, r⟩
  rcases c with ⟨_, hb⟩ | ⟨o, hb⟩ | c
  · exact .inl (.inl hb)
  · exact .inl (.inr ⟨o, hb⟩)
  · exact G.cl a vs c H
theorem se_idx (G : GoodE X K F) (nc : ∀ a vs, ¬ K.t a vs) {ea eb : Ev} {a b : Expr} {pos : Pos} (ha : SE X K ea a) (hb : SE X K eb b) : SE X K (evOp fIdx [ea, eb]) (.Subscript a b pos) := by
  obtain ⟨ts, ps, ok⟩ := (SEs.cons ha (SEs.cons hb SEs.nil)).args
  cases ps with
  | cons n1 p1 ps =>
    cases ps with
    | cons n2 p2 ps =>
      cases ps
      refine se_mk G ⟨fun _ _ => rfl, fun _ => rfl, fun _ _ => rfl⟩ (fun _ _ => rfl) ⟨_, pe_ix ((ix_dict (by have := G.hu; omega)).or (ix_list.or ix_tup)) p1 p2 hb.pn.ix,
        val_op ok (RuleOk2.list (rule_or fun Fz H x y u v e Q hf fz hx hy q => ?_) fun xs y h => ?_)⟩
      · simp only [fIdx] at hf
        have seq : ∀ {ds : List D} {i : Int} {p : Addr} {vs : List V}, (atI ds i).map Ent.val = some e → y = .val (.int i) → u = .ref p → (SqL X.K H p vs ∨ SqT X.K H p vs) → RFs K Fz H ds vs →
            (rIxL X.K u v H Q ∨ rIxT X.K u v H Q) := fun {ds i p vs} h1 h2 h3 h4 h5 => by
          cases g : atI ds i with
          | none => rw [g] at h1; cases h1
          | some d =>
            rw [g] at h1
            cases h1
            subst h2
            obtain ⟨w, e2, rf⟩ := atI_all h5 g
            rcases h4 with h4 | h4
            · exact .inl ⟨p, vs, i, w, h3, hy.int, h4, e2, q _ _ (.old rfl rf)⟩
            · exact .inr ⟨p, vs, i, w, h3, hy.int, h4, e2, q _ _ (.old rfl rf)⟩
        have seq2 : ∀ {i : Int}, (match seqOf x with | some ds => (atI ds i).map Ent.val | none => none) = some e → y = .val (.int i) → (rIxL X.K u v H Q ∨ rIxT X.K u v H Q) := fun {i} h1 h2 => by
          cases g : seqOf x with
          | none => rw [g] at h1; cases h1
          | some ds =>
            rw [g] at h1
            obtain ⟨p, vs, e1, c, r⟩ := hx.seqOf g
            exact seq h1 h2 e1 (c.imp (fun z => .inl (.inl z)) fun z => z.sq G) r
        cases y with
        | val d =>
          cases x with
          | dct kvs =>
            simp only [idxSem] at hf
            cases g : keyOf d with
            | none => simp [g] at hf
            | some k =>
              simp only [g] at hf
              obtain ⟨a, us, e1, nf, ha, kr⟩ := hx
              have := val_look k kr
              cases g2 : lookG kvs k with
              | none => rw [g2] at hf; cases hf
              | some d2 =>
                rw [g2] at hf this
                cases hf
                obtain ⟨w, e2, rf⟩ := this
                have e3 := RF.key hy g
                subst e3
                exact .inl ⟨a, w, e1, e2 ▸ DGet.k ha, q _ _ (.old rfl rf)⟩
          | dctT kvs =>
            simp only [idxSem] at hf
            cases g : keyT d with
            | none => simp [g] at hf
            | some k =>
              simp only [g] at hf
              obtain ⟨a, us, e1, nf, ha, kr⟩ := hx
              have := val_look k kr
              cases g2 : lookG kvs k with
              | none => rw [g2] at hf; cases hf
              | some d2 =>
                rw [g2] at hf this
                cases hf
                obtain ⟨w, e2, rf⟩ := this
                obtain ⟨b, e3, hb⟩ := hy.keyT nc g
                subst e3
                exact .inl ⟨a, w, e1, e2 ▸ DGet.t ha hb, q _ _ (.old rfl rf)⟩
          | ro ds =>
            cases d with
            | int i =>
              obtain ⟨p, vs, e1, c, r⟩ := hx.ro G
              exact .inr (seq hf rfl e1 (.inl c) r)
            | _ => simp [idxSem] at hf
          | val d2 =>
            cases d with
            | int i => exact .inr (seq2 hf rfl)
            | _ => simp [idxSem] at hf
          | lst d2 =>
            cases d with
            | int i => exact .inr (seq2 hf rfl)
            | _ => simp [idxSem] at hf
        | _ => cases x <;> simp [idxSem] at hf
      · match xs, h with
        | [a, b], _ => exact ⟨a, b, rfl⟩
        | [], h => simp [fIdx] at h
        | [_], h => simp [fIdx] at h
        | _ :: _ :: _ :: _, h => simp [fIdx] at h

/-! ### x[lo:hi], x[::-1] -/
inductive SOpt (X : Cx) (K : Cst) : Option Ev → Option Expr → Prop
  | no : SOpt X K none none
  | yes {a e} : SE X K a e → SOpt X K (some a) (some e)
def OptOk (K : Cst) (t : TO) (f : Env → R (Option Int)) : Prop :=
  ∀ Fz ρ σ H o ρ' (Q : Option Int → Hp → Prop), f ρ = some (o, ρ') → Rel K Fz ρ σ H → (∀ H' Fz', Mv K Fz ρ σ H Fz' ρ' σ H' → Q o H') → t σ H Q
theorem SOpt.po {a : Option Ev} {e : Option Expr} (h : SOpt X K a e) : ∃ t, PO X e t ∧ OptOk K t (optI a) := by
  cases h with
  | no => exact ⟨_, po_none, fun Fz ρ σ H o ρ' Q hf R q => by cases hf; exact q H Fz (Mv.refl R)⟩
  | @yes a e h =>
    obtain ⟨t, p, ok⟩ := h.val
    refine ⟨_, po_some p, fun Fz ρ σ H o ρ' Q hf R q => ?_⟩
    have hf : (match a.e ρ with
      | some (.val (.int i), ρ1) => some (some i, ρ1)
      | _ => none) = some (o, ρ') := hf
    split at hf
    · rename_i i ρ1 g
      cases hf
      exact ok Fz ρ σ H _ _ _ g R fun v H1 Fz1 M O => ⟨i, O.re.int, q H1 Fz1 M⟩
    · cases hf
theorem cut_rf {ds : List D} {vs : List V} {lo hi : Option Int} (r : RFs K Fz H ds vs) : RFs K Fz H (cutD ds lo hi) (cutV vs lo hi) := by
  unfold cutD cutV
  rw [r.length]
  exact RFs.of ((r.all.drop _).take _)
theorem se_slc (G : GoodE X K F) {ea : Ev} {a : Expr} {lo hi : Option Ev} {l h : Option Expr} {p2 pos : Pos} (ha : SE X K ea a) (hl : SOpt X K lo l) (hh : SOpt X K hi h) :
    SE X K (evSlc ea lo hi) (.Subscript a (.Slice l h none p2) pos) := by
  obtain ⟨ta, pa, oka⟩ := ha.pv
  obtain ⟨tl, pl, okl⟩ := hl.po
  obtain ⟨th, ph, okh⟩ := hh.po
  refine se_mk G ⟨fun _ _ => rfl, fun _ => rfl, fun _ _ => rfl⟩ (fun _ _ => rfl) ⟨_, pe_slice (sl_list.or sl_tupA) pa pl ph, fun Fz ρ σ H r ρ' Q hf R q => ?_⟩
  dsimp only at hf
  cases g1 : pvOf ea ρ with
  | none => rw [g1] at hf; cases hf
  | some z =>
    obtain ⟨p, ρ1⟩ := z
    rw [g1] at hf
    dsimp only at hf
    cases g2 : optI lo ρ1 with
    | none => rw [g2] at hf; cases hf
    | some z =>
      obtain ⟨o1, ρ2⟩ := z
      rw [g2] at hf
      dsimp only at hf
      cases g3 : optI hi ρ2 with
      | none => rw [g3] at hf; cases hf
      | some z =>
        obtain ⟨o2, ρ3⟩ := z
        rw [g3] at hf
        dsimp only at hf
        cases g4 : look p ρ3 with
        | none => rw [g4] at hf; cases hf
        | some x =>
          rw [g4] at hf
          dsimp only at hf
          cases g5 : slcSem x o1 o2 with
          | none => rw [g5] at hf; cases hf
          | some y =>
            rw [g5] at hf
            simp only [Option.some.injEq, Prod.mk.injEq] at hf
            obtain ⟨ey, eρ⟩ := hf
            subst eρ
            rw [← ey] at q
            clear ey
            refine oka Fz ρ σ H p ρ1 _ g1 R fun v H1 Fz1 M1 po => ?_
            refine okl Fz1 ρ1 σ H1 o1 ρ2 _ g2 M1.rel fun H2 Fz2 M2 => ?_
            refine okh Fz2 ρ2 σ H2 o2 _ _ g3 M2.rel fun H3 Fz3 M3 => ?_
            have M12 := M1.trans M2
            have M := M12.trans M3
            have po3 := (po.move (Fz0 := Fz) M1.rel M2).move (Fz0 := Fz) M2.rel M3
            have re := po3.look M3.rel g4
            have fin : ∀ w H', Res K Fz3 H3 y H' w → Q w H' := fun w H' res => by
              obtain ⟨M4, O4⟩ := res.out M3.rel
              exact q w H' Fz3 (M.trans M4) (O4.back M)
            have lst : ∀ ds, lstOf x = some ds → y = .lst (cutD ds o1 o2) → rSlL X.K v o1 o2 H3 Q ∨ rSlA X.K v o1 o2 H3 Q := fun ds e1 e2 => by
              obtain ⟨b, vs, e3, hb, rr⟩ := re.lstOf e1
              subst e2
              exact .inl ⟨b, vs, e3, .inl (.inl hb), fun p n => fin _ _ (Res.lst M3.rel.fzH n (cut_rf rr))⟩
            cases x with
            | val d =>
              cases d with
              | tuple ds =>
                cases g5
                obtain ⟨b, vs, e3, hb, rr⟩ := re.tup
                refine .inr ⟨b, vs, e3, hb.sq G, fun z => ?_, fun _ p n => fin _ _ (Res.tup n (cut_rf rr))⟩
                have e4 : cutD ds o1 o2 = ds := by
                  unfold cutD
                  rw [rr.length, z.1, z.2, List.drop_zero, Nat.sub_zero, ← rr.length, List.take_length]
                subst e3
                exact fin _ _ (.old rfl (by rw [e4]; exact re))
              | list ds => exact lst ds rfl (by simpa [slcSem, lstOf] using g5.symm)
              | _ => simp [slcSem, lstOf] at g5
            | lst ds => exact lst ds rfl (by simpa [slcSem, lstOf] using g5.symm)
            | _ => simp [slcSem, lstOf] at g5
theorem se_rev (G : GoodE X K F) {ea : Ev} {a : Expr} {k : Nat} {p1 p2 p3 pos : Pos} (ha : SE X K ea a) :
    SE X K (evOp fRev [ea]) (.Subscript a (.Slice none none (some (.UnaryOp .USub (.Constant (.int 1) k p1) p2)) p3) pos) := by
  obtain ⟨ts, ps, ok⟩ := (SEs.cons ha SEs.nil).args
  cases ps with
  | cons n1 pe ps =>
    cases ps
    refine se_mk G ⟨fun _ _ => rfl, fun _ => rfl, fun _ _ => rfl⟩ (fun _ _ => rfl) ⟨_, pe_revL pe, val_op (r := fun vs H Q => match vs with | [u] => ∃ a xs, u = V.ref a ∧ SqL X.K H a xs ∧ ∀ p, H p = none → Q (.ref p) (upd H p (.lst xs.reverse)) | _ => False) ok ?_⟩
    intro Fz H xs vs y Q hf fz re q
    match xs, hf with
    | [x], hf =>
      cases re with
      | cons h t =>
        cases t
        simp only [fRev, revSem] at hf
        cases g : lstOf x with
        | none => rw [g] at hf; cases hf
        | some ds =>
          rw [g] at hf
          cases hf
          obtain ⟨b, vs, e1, hb, rr⟩ := h.lstOf g
          exact ⟨b, vs, e1, .inl (.inl hb), fun p n => q _ _ (Res.lst fz n (RFs.of rr.all.reverse))⟩
end
end MP
set_option Elab.async false
set_option linter.all false
set_option maxRecDepth 100000
/-! MP7: built-ins, dict displays, chains -/
namespace MP
open PySem PySem.Spec PyProof.Rows L2
section
variable {X : Cx} {K : Cst} {F : FT} {Fz : Addr → Prop} {H : Hp}
theorem pl_call {x : Expr} {es : List Expr} {ks : List Keyword} {pos : Pos} : Plain (.Call x es ks pos) := ⟨fun _ _ => rfl, fun _ => rfl, fun _ _ => rfl⟩
/-- a built-in function called with its arguments -/
theorem se_blt {id : String} {x : Str} {r : List V → Hp → VK → Prop} {f : List Ent → Option Ent} (G : GoodE X K F) (hc : CallR X (.builtin id) r) (hr : RuleOk K r f) (hm : x ∈ bltL) (hv : bootBuiltins x = some (.builtin id)) (hn : x ≠ "__name__") (hd : (x == ("__debug__" : Str)) = false)
    (hg : Gl X x) {a : Ev} {as : List Ev} {e : Expr} {es : List Expr} {p pos : Pos} (h : SEs X K (a :: as) (e :: es)) : SE X K (evOp f (a :: as)) (.Call (.Name x p) (e :: es) [] pos) := by
  obtain ⟨ts, ps, ok⟩ := h.args
  cases ps with
  | cons n1 p1 ps => exact se_mk G pl_call (fun _ _ => rfl) ⟨_, pe_callB hc hg (G.bn x hm) hv (PEs.cons n1 p1 ps).pa hn hd (n1 _ _) (ps.noStar _), val_op ok hr⟩
theorem se_bltT {T : String} {x : Str} {r : List V → Hp → VK → Prop} {f : List Ent → Option Ent} (G : GoodE X K F) (hc : CallR X (.type T) r) (hr : RuleOk K r f) (hm : x ∈ bltL) (hv : bootBuiltins x = some (.type T)) (hn : x ≠ "__name__") (hd : (x == ("__debug__" : Str)) = false)
    (hg : Gl X x) {a : Ev} {as : List Ev} {e : Expr} {es : List Expr} {p pos : Pos} (h : SEs X K (a :: as) (e :: es)) : SE X K (evOp f (a :: as)) (.Call (.Name x p) (e :: es) [] pos) := by
  obtain ⟨ts, ps, ok⟩ := h.args
  cases ps with
  | cons n1 p1 ps => exact se_mk G pl_call (fun _ _ => rfl) ⟨_, pe_callTy hc hg (G.bn x hm) hv (PEs.cons n1 p1 ps).pa hn hd (n1 _ _) (ps.noStar _), val_op ok hr⟩

theorem REs.one {xs : List Ent} {vs : List V} {x : Ent} (e : xs = [x]) (h : REs K Fz H xs vs) : ∃ v, vs = [v] ∧ RE K Fz H x v := by
  subst e
  cases h with
  | cons h t => cases t; exact ⟨_, rfl, h⟩
theorem REs.two {xs : List Ent} {vs : List V} {x y : Ent} (e : xs = [x, y]) (h : REs K Fz H xs vs) : ∃ v w, vs = [v, w] ∧ RE K Fz H x v ∧ RE K Fz H y w := by
  subst e
  cases h with
  | cons h t =>
    cases t with
    | cons h2 t => cases t; exact ⟨_, _, rfl, h, h2⟩
theorem rule_len (G : GoodE X K F) : RuleOk K (fun xs H Q => ∃ x n, xs = [x] ∧ LenV X.K x H n ∧ Q (.int n) H) lenSem := by
  intro Fz H xs vs y Q hf fz re q
  match xs, hf with
  | [x], hf =>
    obtain ⟨v, rfl, hx⟩ := re.one rfl
    have seq : ∀ {x : Ent}, RE K Fz H x v → (seqOf x).map (fun ds => Ent.val (.int ds.length)) = some y → ∃ x n, [v] = [x] ∧ LenV X.K x H n ∧ Q (.int n) H := fun {x} hx h => by
      cases g : seqOf x with
      | none => rw [g] at h; cases h
      | some ds =>
        rw [g] at h
        cases h
        obtain ⟨b, vs, e1, c, rr⟩ := hx.seqOf g
        subst e1
        refine ⟨_, vs.length, rfl, ?_, by rw [← rr.length]; exact q _ _ Res.int⟩
        rcases c with c | c
        · exact .inl ⟨vs, .inl (.inl c), rfl⟩
        · exact .inr ⟨vs, c.sq G, rfl⟩
    cases x with
    | ro ds =>
      cases hf
      obtain ⟨a, vs, e1, c, r⟩ := hx.ro G
      subst e1
      exact ⟨_, vs.length, rfl, .inl ⟨vs, c, rfl⟩, by rw [← r.length]; exact q _ _ Res.int⟩
    | val d => exact seq hx hf
    | lst d => exact seq hx hf
    | dct d => exact seq hx hf
    | dctT d => exact seq hx hf
theorem rule_abs : RuleOk K (fun xs H Q => ∃ i, xs = [.int i] ∧ Q (.int (if i < 0 then -i else i)) H) absSem := by
  intro Fz H xs vs y Q hf fz re q
  match xs, hf with
  | [.val (.int i)], hf =>
    obtain ⟨v, rfl, hx⟩ := re.one rfl
    cases hf
    exact ⟨i, by rw [hx.int], q _ _ Res.int⟩
theorem rule_toInt : RuleOk K (fun xs H Q => (∃ i, xs = [.int i] ∧ Q (.int i) H) ∨ ∃ k, xs = [.bl k] ∧ Q (.int (if k then 1 else 0)) H) intSem := by
  intro Fz H xs vs y Q hf fz re q
  match xs, hf with
  | [.val (.int i)], hf =>
    obtain ⟨v, rfl, hx⟩ := re.one rfl
    cases hf
    exact .inl ⟨i, by rw [hx.int], q _ _ Res.int⟩
theorem rule_int2 {g : Int → Int → Int} : RuleOk K (fun xs H Q => ∃ i j, xs = [.int i, .int j] ∧ Q (.int (g i j)) H) (onInt2 g) := by
  intro Fz H xs vs y Q hf fz re q
  match xs, hf with
  | [.val (.int i), .val (.int j)], hf =>
    obtain ⟨v, w, rfl, hx, hy⟩ := re.two rfl
    cases hf
    exact ⟨i, j, by rw [hx.int, hy.int], q _ _ Res.int⟩
theorem onInts_some {g : List Int → Option Ent} {xs : List Ent} {y : Ent} (h : onInts g xs = some y) : ∃ x ds ns, xs = [x] ∧ lstOf x = some ds ∧ intsOf ds = some ns ∧ g ns = some y := by
  match xs, h with
  | [x], h =>
    simp only [onInts] at h
    cases g1 : lstOf x with
    | none => simp [g1] at h
    | some ds =>
      cases g2 : intsOf ds with
      | none => simp [g1, g2] at h
      | some ns => exact ⟨x, ds, ns, rfl, g1, g2, by simpa [g1, g2] using h⟩
theorem onBools_some {g : List Bool → Option Ent} {xs : List Ent} {y : Ent} (h : onBools g xs = some y) : ∃ x ds ns, xs = [x] ∧ lstOf x = some ds ∧ boolsOf ds = some ns ∧ g ns = some y := by
  match xs, h with
  | [x], h =>
    simp only [onBools] at h
    cases g1 : lstOf x with
    | none => simp [g1] at h
    | some ds =>
      cases g2 : boolsOf ds with
      | none => simp [g1, g2] at h
      | some ns => exact ⟨x, ds, ns, rfl, g1, g2, by simpa [g1, g2] using h⟩
theorem rule_sum : RuleOk K (rSum X.K) (onInts fun ns => some (.val (.int ns.sum))) := by
  intro Fz H xs vs y Q hf fz re q
  obtain ⟨x, ds, ns, e, g1, g2, g3⟩ := onInts_some hf
  obtain ⟨v, rfl, hx⟩ := re.one e
  obtain ⟨a, vs, rfl, ha, rr⟩ := hx.lstOf g1
  have := rr.ints g2
  subst this
  cases g3
  exact ⟨a, ns, rfl, .inl (.inl ha), q _ _ Res.int⟩
theorem foldl_max : ∀ (ns : List Int) (n : Int), (ns.foldl (fun a b => if b > a then b else a) n = n ∨ ns.foldl (fun a b => if b > a then b else a) n ∈ ns) ∧ n ≤ ns.foldl (fun a b => if b > a then b else a) n ∧ ∀ m ∈ ns, m ≤ ns.foldl (fun a b => if b > a then b else a) n
  | [], n => ⟨.inl rfl, Int.le_refl _, by simp⟩
  | m :: ns, n => by
    rw [List.foldl_cons]
    obtain ⟨h1, h2, h3⟩ := foldl_max ns (if m > n then m else n)
    refine ⟨?_, ?_, ?_⟩
    · rcases h1 with h1 | h1
      · rw [h1]
        split
        · exact .inr List.mem_cons_self
        · exact .inl rfl
      · exact .inr (List.mem_cons_of_mem _ h1)
    · refine Int.le_trans ?_ h2
      split <;> omega
    · intro k hk
      rcases List.mem_cons.mp hk with e | hk
      · subst e
        refine Int.le_trans ?_ h2
        split <;> omega
      · exact h3 k hk
theorem foldl_min : ∀ (ns : List Int) (n : Int), (ns.foldl (fun a b => if b < a then b else a) n = n ∨ ns.foldl (fun a b => if b < a then b else a) n ∈ ns) ∧ ns.foldl (fun a b => if b < a then b else a) n ≤ n ∧ ∀ m ∈ ns, ns.foldl (fun a b => if b < a then b else a) n ≤ m
  | [], n => ⟨.inl rfl, Int.le_refl _, by simp⟩
  | m :: ns, n => by
    rw [List.foldl_cons]
    obtain ⟨h1, h2, h3⟩ := foldl_min ns (if m < n then m else n)
    refine ⟨?_, ?_, ?_⟩
    · rcases h1 with h1 | h1
      · rw [h1]
        split
        · exact .inr List.mem_cons_self
        · exact .inl rfl
      · exact .inr (List.mem_cons_of_mem _ h1)
    · refine Int.le_trans h2 ?_
      split <;> omega
    · intro k hk
      rcases List.mem_cons.mp hk with e | hk
      · subst e
        refine Int.le_trans h2 ?_
        split <;> omega
      · exact h3 k hk
theorem rule_max : RuleOk K (rMax X.K) (onInts maxL) := by
  intro Fz H xs vs y Q hf fz re q
  obtain ⟨x, ds, ns, e, g1, g2, g3⟩ := onInts_some hf
  obtain ⟨v, rfl, hx⟩ := re.one e
  obtain ⟨a, vs, rfl, ha, rr⟩ := hx.lstOf g1
  have := rr.ints g2
  subst this
  cases ns with
  | nil => cases g3
  | cons n ns =>
    cases g3
    refine ⟨a, n :: ns, rfl, .inl (.inl ha), by simp, fun m hm hle => ?_⟩
    obtain ⟨h1, h2, h3⟩ := foldl_max ns n
    have e : m = ns.foldl (fun a b => if b > a then b else a) n := by
      have l1 : m ≤ ns.foldl (fun a b => if b > a then b else a) n := by
        rcases List.mem_cons.mp hm with e | hm
        · rw [e]; exact h2
        · exact h3 m hm
      have l2 : ns.foldl (fun a b => if b > a then b else a) n ≤ m := by
        rcases h1 with h1 | h1
        · rw [h1]; exact hle n List.mem_cons_self
        · exact hle _ (List.mem_cons_of_mem _ h1)
      omega
    rw [e]
    exact q _ _ Res.int
theorem rule_min : RuleOk K (rMin X.K) (onInts minL) := by
  intro Fz H xs vs y Q hf fz re q
  obtain ⟨x, ds, ns, e, g1, g2, g3⟩ := onInts_some hf
  obtain ⟨v, rfl, hx⟩ := re.one e
  obtain ⟨a, vs, rfl, ha, rr⟩ := hx.lstOf g1
  have := rr.ints g2
  subst this
  cases ns with
  | nil => cases g3
  | cons n ns =>
    cases g3
    refine ⟨a, n :: ns, rfl, .inl (.inl ha), by simp, fun m hm hle => ?_⟩
    obtain ⟨h1, h2, h3⟩ := foldl_min ns n
    have e : m = ns.foldl (fun a b => if b < a then b else a) n := by
      have l1 : ns.foldl (fun a b => if b < a then b else a) n ≤ m := by
        rcases List.mem_cons.mp hm with e | hm
        · rw [e]; exact h2
        · exact h3 m hm
      have l2 : m ≤ ns.foldl (fun a b => if b < a then b else a) n := by
        rcases h1 with h1 | h1
        · rw [h1]; exact hle n List.mem_cons_self
        · exact hle _ (List.mem_cons_of_mem _ h1)
      omega
    rw [e]
    exact q _ _ Res.int
theorem sortI_of {ns ms : List Int} (h : ms.Perm ns) (s : ms.Pairwise (· ≤ ·)) : ms = sortI ns := by
  refine List.Perm.eq_of_pairwise (le := fun a b : Int => a ≤ b) (fun a b _ _ h1 h2 => by omega) s ?_ (h.trans (List.mergeSort_perm ns _).symm)
  have := List.pairwise_mergeSort (le := fun a b : Int => decide (a ≤ b)) (fun a b c h1 h2 => by simp only [decide_eq_true_eq] at h1 h2 ⊢; omega) (fun a b => by simp only [Bool.or_eq_true, decide_eq_true_eq]; omega) ns
  exact this.imp fun h => of_decide_eq_true h
theorem rule_sorted : RuleOk K (rSortedI X.K) (onInts fun ns => some (.lst ((sortI ns).map .int))) := by
  intro Fz H xs vs y Q hf fz re q
  obtain ⟨x, ds, ns, e, g1, g2, g3⟩ := onInts_some hf
  obtain ⟨v, rfl, hx⟩ := re.one e
  obtain ⟨a, vs, rfl, ha, rr⟩ := hx.lstOf g1
  have := rr.ints g2
  subst this
  cases g3
  refine ⟨a, ns, rfl, .inl (.inl ha), fun ms p hp hs n => ?_⟩
  rw [sortI_of hp hs]
  exact q _ _ (Res.lst fz n (RFs.ofInts _))
theorem rule_all : RuleOk K (rAll X.K) (onBools fun bs => some (.val (.bool (bs.all id)))) := by
  intro Fz H xs vs y Q hf fz re q
  obtain ⟨x, ds, ns, e, g1, g2, g3⟩ := onBools_some hf
  obtain ⟨v, rfl, hx⟩ := re.one e
  obtain ⟨a, vs, rfl, ha, rr⟩ := hx.lstOf g1
  have := rr.bools g2
  subst this
  cases g3
  exact ⟨a, ns, rfl, .inl (.inl ha), q _ _ Res.bl⟩
theorem rule_any : RuleOk K (rAny X.K) (onBools fun bs => some (.val (.bool (bs.any id)))) := by
  intro Fz H xs vs y Q hf fz re q
  obtain ⟨x, ds, ns, e, g1, g2, g3⟩ := onBools_some hf
  obtain ⟨v, rfl, hx⟩ := re.one e
  obtain ⟨a, vs, rfl, ha, rr⟩ := hx.lstOf g1
  have := rr.bools g2
  subst this
  cases g3
  exact ⟨a, ns, rfl, .inl (.inl ha), q _ _ Res.bl⟩
theorem onSeq_some {g : List D → Ent} {xs : List Ent} {y : Ent} (h : onSeq g xs = some y) : ∃ x ds, xs = [x] ∧ seqOf x = some ds ∧ y = g ds := by
  match xs, h with
  | [x], h =>
    simp only [onSeq] at h
    cases g1 : seqOf x with
    | none => simp [g1] at h
    | some ds => exact ⟨x, ds, rfl, g1, by simpa [g1] using h.symm⟩
theorem rule_list (G : GoodE X K F) : RuleOk K (fun xs H Q => ∃ p ys, xs = [.ref p] ∧ (SqL X.K H p ys ∨ SqT X.K H p ys) ∧ ∀ l, H l = none → Q (.ref l) (upd H l (.lst ys))) (onSeq .lst) := by
  intro Fz H xs vs y Q hf fz re q
  obtain ⟨x, ds, e, g1, rfl⟩ := onSeq_some hf
  obtain ⟨v, rfl, hx⟩ := re.one e
  obtain ⟨a, vs, rfl, c, rr⟩ := hx.seqOf g1
  exact ⟨a, vs, rfl, c.imp (fun z => .inl (.inl z)) fun z => z.sq G, fun l n => q _ _ (Res.lst fz n rr)⟩
theorem rule_tuple (G : GoodE X K F) : RuleOk K (fun xs H Q => ∃ p ys, xs = [.ref p] ∧ ((SqL X.K H p ys ∧ ∀ l, H l = none → Q (.ref l) (upd H l (.tup ys))) ∨ (SqT X.K H p ys ∧ Q (.ref p) H))) (onSeq fun ds => .val (.tuple ds)) := by
  intro Fz H xs vs y Q hf fz re q
  obtain ⟨x, ds, e, g1, rfl⟩ := onSeq_some hf
  obtain ⟨v, rfl, hx⟩ := re.one e
  obtain ⟨a, vs, rfl, c, rr⟩ := hx.seqOf g1
  refine ⟨a, vs, rfl, ?_⟩
  rcases c with c | c
  · exact .inl ⟨.inl (.inl c), fun l n => q _ _ (Res.tup n rr)⟩
  · exact .inr ⟨c.sq G, q _ _ (.old rfl (by simp only [RE, RF]; exact ⟨a, vs, rfl, c, rr⟩))⟩

/-- which name each built-in has, and how many arguments -/
def bltName : Blt → String
  | .len => "len" | .abs => "abs" | .int => "int" | .sum => "sum" | .max1 => "max" | .max2 => "max" | .min1 => "min" | .min2 => "min"
  | .sorted => "sorted" | .list => "list" | .tuple => "tuple" | .all => "all" | .any => "any"
theorem se_bltA (G : GoodE X K F) (f : Blt) (hg : Gl X (bltName f)) {a : Ev} {as : List Ev} {e : Expr} {es : List Expr} {p pos : Pos} (h : SEs X K (a :: as) (e :: es)) : SE X K (evOp (bltSem f) (a :: as)) (.Call (.Name (bltName f) p) (e :: es) [] pos) := by
  cases f with
  | len => exact se_blt G call_len (rule_len G) (by decide +kernel) PySem.boot_len (by decide) (by decide) hg h
  | abs => exact se_blt G call_abs rule_abs (by decide +kernel) (by decide +kernel) (by decide) (by decide) hg h
  | int => exact se_bltT G call_int1 rule_toInt (by decide +kernel) (by decide +kernel) (by decide) (by decide) hg h
  | sum => exact se_blt G (cr_sum G.calm) rule_sum (by decide +kernel) (by decide +kernel) (by decide) (by decide) hg h
  | max1 => exact se_blt G (cr_max G.calm) rule_max (by decide +kernel) (by decide +kernel) (by decide) (by decide) hg h
  | min1 => exact se_blt G (cr_min G.calm) rule_min (by decide +kernel) (by decide +kernel) (by decide) (by decide) hg h
  | max2 => exact se_blt G (call_max2 G.calm) rule_int2 (by decide +kernel) (by decide +kernel) (by decide) (by decide) hg h
  | min2 => exact se_blt G (call_min2 G.calm) rule_int2 (by decide +kernel) (by decide +kernel) (by decide) (by decide) hg h
  | sorted => exact se_blt G cr_sortedI rule_sorted (by decide +kernel) (by decide +kernel) (by decide) (by decide) hg h
  | list => exact se_bltT G call_list_of (rule_list G) (by decide +kernel) (by decide +kernel) (by decide) (by decide) hg h
  | tuple => exact se_bltT G call_tuple_of (rule_tuple G) (by decide +kernel) (by decide +kernel) (by decide) (by decide) hg h
  | all => exact se_blt G (cr_all G.calm) rule_all (by decide +kernel) (by decide +kernel) (by decide) (by decide) hg h
  | any => exact se_blt G (cr_any G.calm) rule_any (by decide +kernel) (by decide +kernel) (by decide) (by decide) hg h
end
end MP
set_option Elab.async false
set_option linter.all false
set_option maxRecDepth 100000
/-! MP8: isinstance, chains, dict displays, calls of the text's defs -/
namespace MP
open PySem PySem.Spec PyProof.Rows L2
section
variable {X : Cx} {K : Cst} {F : FT} {Fz : Addr → Prop} {H : Hp}

/-! ### isinstance -/
def tyName : Ty → String
  | .int => "int" | .bool => "bool" | .str => "str" | .tuple => "tuple" | .list => "list"
theorem RE.ty (G : GoodE X K F) {x : Ent} {v : V} {u : Ty} (h : RE K Fz H x v) (e : tyOf x = some u) : TyX X.K H v (.type (tyName u)) := by
  cases x with
  | val d =>
    cases d with
    | int i => cases e; rw [h.int]; exact .base (.int i)
    | bool i => cases e; rw [h.bool]; exact .base (.bl i)
    | str s => cases e; have h : v = .str s := by simpa only [RE, RF] using h
               subst h; exact .base (.str s)
    | tuple ds =>
      cases e
      obtain ⟨a, vs, e1, t, r⟩ := h.tup
      subst e1
      rcases t with t | t
      · exact .base (.tup t)
      · obtain ⟨o, h1, h2⟩ := G.ck a vs t
        exact .kTuple h1 h2
    | list ds =>
      cases e
      simp only [RE, RF] at h
      obtain ⟨a, vs, e1, _, t, r⟩ := h
      subst e1
      exact .base (.lst t)
    | _ => cases e
  | lst ds =>
    cases e
    obtain ⟨a, vs, e1, _, t, r⟩ := h
    subst e1
    exact .base (.lst t)
  | _ => cases e
theorem kit_tys (a b : Ty) : kitB (tyName a) (tyName b) = some (decide (a = b) || (decide (a = .bool) && decide (b = .int))) := by cases a <;> cases b <;> decide +kernel
theorem kit_non (b : Ty) : kitB "NoneType" (tyName b) = some false := by cases b <;> decide +kernel
theorem boot_ty (t : Ty) : bootBuiltins (tyName t) = some (.type (tyName t)) := by cases t <;> decide +kernel
theorem ty_mem (t : Ty) : ((tyName t : String) : Str) ∈ bltL := by cases t <;> decide +kernel
theorem se_isi (G : GoodE X K F) (t : Ty) (hg : Gl X "isinstance") (ht : Gl X (tyName t)) {ea : Ev} {a : Expr} {p p2 pos : Pos} (ha : SE X K ea a) :
    SE X K (evCmp (fIsi t) [ea]) (.Call (.Name "isinstance" p) [a, .Name (tyName t) p2] [] pos) := by
  obtain ⟨ts, ps, ok⟩ := (SEs.cons ha SEs.nil).args
  cases ps with
  | cons n1 p1 ps =>
    cases ps
    have pt : PE X (.Name (tyName t) p2) (tC (.ty (tyName t))) := pe_bltn ht (G.bn _ (ty_mem t)) (boot_ty t) rfl (by cases t <;> decide) (by cases t <;> decide)
    have val : ∃ u, PE X (.Call (.Name "isinstance" p) [a, .Name (tyName t) p2] [] pos) u ∧ ValOk K u (evCmp (fIsi t) [ea]).e := by
      refine ⟨_, pe_callB call_isi hg (G.bn _ (by decide +kernel)) PyProof.Rows.boot_isinstance (pa_cons p1 (pa_cons pt pa_nil) (n1 _ _)) (by decide) (by decide) (n1 _ _) rfl,
        val_cmp (r := fun vs H Q => match vs with | [u] => rIsi X.K [u, .ty (tyName t)] H Q | _ => False) ok ?_⟩
      intro Fz H xs vs y Q hf fz re q
      match xs, hf with
      | [x], hf =>
        obtain ⟨v, rfl, hx⟩ := re.one rfl
        simp only [fIsi, isiSem] at hf
        split at hf
        · rename_i hn
          cases hf
          have : v = .non := by
            cases x with
            | val d => cases d <;> first | exact hx.non | cases hn
            | _ => cases hn
          subst this
          exact ⟨.non, _, _, _, false, rfl, .ty _, .base .non, kit_ty (kit_non t), q _ _ Res.bl⟩
        · cases g : tyOf x with
          | none => rw [g] at hf; cases hf
          | some u =>
            rw [g] at hf
            cases hf
            exact ⟨v, _, _, _, _, rfl, .ty _, hx.ty G g, kit_ty (kit_tys u t), q _ _ Res.bl⟩
    exact ⟨pl_call, val, tst_b (fun _ _ => rfl) val, fun i e => by cases e⟩

/-! ### a < b < c -/
theorem cmpI_rule (op : CmpOp) (h : op = .Lt ∨ op = .LtE ∨ op = .Gt ∨ op = .GtE) : ∃ p : Int → Int → Bool, OpR X (compareOp op) (rI0 fun i j => .bl (p i j)) ∧ ∀ x y c, cmpI op x y = some c → ∃ i j, x = .val (.int i) ∧ y = .val (.int j) ∧ c = p i j := by
  have go : ∀ {op : CmpOp} {p : Int → Int → Bool}, (∀ i j, cmpI op (.val (.int i)) (.val (.int j)) = some (p i j)) → ∀ x y c, cmpI op x y = some c → ∃ i j, x = .val (.int i) ∧ y = .val (.int j) ∧ c = p i j := fun {op p} e x y c h => by
    unfold cmpI at h
    split at h
    · rename_i i j
      refine ⟨i, j, rfl, rfl, ?_⟩
      have := e i j
      unfold cmpI at this
      dsimp only at this
      rw [this] at h
      exact (Option.some.inj h).symm
    · cases h
  rcases h with e | e | e | e
  · subst e; exact ⟨_, op_lt, go fun _ _ => rfl⟩
  · subst e; exact ⟨_, op_le, go fun _ _ => rfl⟩
  · subst e; exact ⟨_, op_gt, go fun _ _ => rfl⟩
  · subst e; exact ⟨_, op_ge, go fun _ _ => rfl⟩
theorem args_one {ea : Ev} {ρ ρ' : Env} {xs : List Ent} (h : args [ea] ρ = some (xs, ρ')) : ∃ x, xs = [x] := by
  simp only [args, pvs] at h
  cases g : pvOf ea ρ with
  | none => simp [g] at h
  | some z =>
    simp only [g, looks] at h
    split at h
    · rename_i g2
      split at g2
      · rename_i e es g3 g4
        cases h
        cases g2
        cases g4
        exact ⟨e, rfl⟩
      · cases g2
    · cases h
theorem se_chain (G : GoodE X K F) {o p : CmpOp} (ho : o = .Lt ∨ o = .LtE ∨ o = .Gt ∨ o = .GtE) (hp : p = .Lt ∨ p = .LtE ∨ p = .Gt ∨ p = .GtE) {ea eb ec : Ev} {a b c : Expr} {pos : Pos} (ha : SE X K ea a) (hb : SE X K eb b) (hc : SE X K ec c) :
    SE X K (evCmp2 o p ea eb ec) (.Compare a [o, p] [b, c] pos) := by
  obtain ⟨q1, r1, k1⟩ := cmpI_rule (X := X) o ho
  obtain ⟨q2, r2, k2⟩ := cmpI_rule (X := X) p hp
  obtain ⟨ts, ps, ok⟩ := (SEs.cons ha (SEs.cons hb SEs.nil)).args
  obtain ⟨us, qs, okc⟩ := (SEs.cons hc SEs.nil).args
  cases ps with
  | @cons _ _ ta _ n1 p1 ps =>
    cases ps with
    | @cons _ _ tb _ n2 p2 ps =>
      cases ps
      cases qs with
      | @cons _ _ tc _ n3 p3 qs =>
        cases qs
        have hm : lastMarks [o, p] [b, c] = false := hc.pn.mrk p
        -- what the reading asks, for any wish
        have key : ∀ (Fz : Addr → Prop) (ρ : Env) (σ : Sl) (H : Hp) (k : Bool) (ρ' : Env) (Q : VK), (evCmp2 o p ea eb ec).t ρ = some (k, ρ') → Rel K Fz ρ σ H → (∀ H' Fz', Mv K Fz ρ σ H Fz' ρ' σ H' → Q (.bl k) H') →
            tChain (rI0 fun i j => .bl (q1 i j)) (rI0 fun i j => .bl (q2 i j)) ta tb tc σ H Q := fun Fz ρ σ H k ρ' Q hf R q => by
          have hf : (match args [ea, eb] ρ with
            | some ([x, y], ρ1) => match cmpI o x y with
              | some true => match args [ec] ρ1 with
                | some ([z], ρ2) => match cmpI p y z with
                  | some r => some (r, ρ2)
                  | none => none
                | _ => none
              | some false => some (false, ρ1)
              | none => none
            | _ => none) = some (k, ρ') := hf
          split at hf
          · rename_i x y ρ1 g1
            refine ok Fz ρ σ H [x, y] ρ1 (fun vs H2 => match vs with
              | [u, v] => rI0 (fun i j => .bl (q1 i j)) u v H2 fun z H3 => ∃ k, z = .bl k ∧ (if k = true then tc σ H3 fun w' H4 => rI0 (fun i j => .bl (q2 i j)) v w' H4 Q else Q (.bl false) H3)
              | _ => False) g1 R fun vs H1 Fz1 M re => ?_
            obtain ⟨v, w, rfl, hx, hy⟩ := re.two rfl
            split at hf
            · rename_i g2
              obtain ⟨i, j, rfl, rfl, e3⟩ := k1 _ _ _ g2
              refine ⟨i, j, hx.int, hy.int, true, congrArg V.bl e3.symm, ?_⟩
              rw [if_pos rfl]
              split at hf
              · rename_i z ρ2 g3
                split at hf
                · rename_i r g4
                  cases hf
                  obtain ⟨j', l, e4, rfl, e5⟩ := k2 _ _ _ g4
                  cases e4
                  refine okc Fz1 ρ1 σ H1 [.val (.int l)] _ (fun vs H4 => match vs with
                    | [w'] => rI0 (fun i j => .bl (q2 i j)) w w' H4 Q
                    | _ => False) g3 M.rel fun vs H2 Fz2 M2 re2 => ?_
                  obtain ⟨u, rfl, hz⟩ := re2.one rfl
                  refine ⟨j, l, hy.int, hz.int, ?_⟩
                  have q0 := q H2 Fz2 (M.trans M2)
                  rw [e5] at q0
                  exact q0
                · cases hf
              · cases hf
            · rename_i g2
              cases hf
              obtain ⟨i, j, rfl, rfl, e3⟩ := k1 _ _ _ g2
              refine ⟨i, j, hx.int, hy.int, false, congrArg V.bl e3.symm, ?_⟩
              rw [if_neg Bool.false_ne_true]
              exact q H1 Fz1 M
            · cases hf
          · cases hf
        refine ⟨⟨fun _ _ => rfl, fun _ => rfl, fun _ _ => rfl⟩, ⟨_, pe_chain r1 r2 p1 p2 p3 hm, fun Fz ρ σ H r ρ' Q hf R q => ?_⟩, ⟨_, pt_chain r1 r2 p1 p2 p3 hm, fun Fz ρ σ H k ρ' Q hf R q => ?_⟩, fun i e => by cases e⟩
        · have hf : asB ((evCmp2 o p ea eb ec).t ρ) = some (r, ρ') := hf
          cases g : (evCmp2 o p ea eb ec).t ρ with
          | none => rw [g] at hf; cases hf
          | some z =>
            obtain ⟨k, ρ1⟩ := z
            rw [g] at hf
            cases hf
            exact key Fz ρ σ H k _ Q g R fun H' Fz' M => q _ H' Fz' M (Out.data (by simp only [RF]))
        · exact key Fz ρ σ H k ρ' _ hf R fun H' Fz' M => ⟨k, rfl, q H' Fz' M⟩
end
end MP
set_option Elab.async false
set_option linter.all false
set_option maxRecDepth 100000
/-! MP9: calls of the text's defs; dict displays; methods of lists -/
namespace MP
open PySem PySem.Spec PyProof.Rows L2
section
variable {X : Cx} {K : Cst} {F : FT} {Fz : Addr → Prop} {H : Hp}

/-! ### arguments -/
/-- what each argument is: a slot that may be changed, or data -/
def modeP : Bool → PV → Bool
  | true, .sl _ => true
  | false, .tm e => !isOwn e
  | _, _ => false
theorem argE_ok (h : SE X K a e) (io : Bool) : ∃ t, PE X e t ∧ PvOk K t (argE io a) := by
  cases io with
  | true =>
    cases g : a.nm with
    | none =>
      obtain ⟨t, p, ok⟩ := h.val
      exact ⟨t, p, fun Fz ρ σ H p ρ' Q hf R q => by simp [argE, g] at hf⟩
    | some i =>
      refine ⟨_, h.nm i g, fun Fz ρ σ H p ρ' Q hf R q => ?_⟩
      simp only [argE, g] at hf
      cases g2 : get ρ i with
      | none => rw [g2] at hf; cases hf
      | some x =>
        rw [g2] at hf
        cases hf
        obtain ⟨v, s, re⟩ := R.re i x g2
        exact ⟨v, s, q v H Fz (Mv.refl R) s⟩
  | false =>
    obtain ⟨t, p, ok⟩ := h.val
    refine ⟨t, p, fun Fz ρ σ H p ρ' Q hf R q => ?_⟩
    simp only [argE] at hf
    cases g : a.e ρ with
    | none => rw [g] at hf; cases hf
    | some z =>
      obtain ⟨x, ρ1⟩ := z
      rw [g] at hf
      have gen : ∀ d, toD x = some d → some (PV.tm (.val d), ρ1) = some (p, ρ') → t σ H Q := fun d e1 e2 => by
        cases e2
        refine ok Fz ρ σ H x _ _ g R fun v H1 Fz1 M O => ?_
        obtain ⟨Fz2, M2, rf⟩ := O.toD M e1
        exact q v H1 Fz2 M2 (Out.data rf)
      cases x with
      | ro ds =>
        cases hf
        exact ok Fz ρ σ H _ _ _ g R fun v H1 Fz1 M O => q v H1 Fz1 M O
      | val d => exact gen d rfl hf
      | lst ds => exact gen _ rfl hf
      | dct _ => cases hf
      | dctT _ => cases hf
theorem argE_mode {io : Bool} {a : Ev} {ρ ρ' : Env} {p : PV} (h : argE io a ρ = some (p, ρ')) : modeP io p = true := by
  cases io with
  | true =>
    simp only [argE] at h
    split at h
    · split at h
      · cases h; rfl
      · cases h
    · cases h
  | false =>
    simp only [argE] at h
    split at h
    · cases h; rfl
    · split at h
      · cases h; rfl
      · cases h
    · cases h
def modesP : List Bool → List PV → Bool
  | [], [] => true
  | b :: bs, p :: ps => modeP b p && modesP bs ps
  | _, _ => false
theorem argEs_ok : ∀ {as : List Ev} {es : List Expr}, SEs X K as es → ∀ bs : List Bool, ∃ ts, PEs X es ts ∧ PvsOk K ts (argEs bs as) ∧ ∀ ρ ps ρ', argEs bs as ρ = some (ps, ρ') → modesP bs ps = true
  | _, _, .nil, bs => by
    refine ⟨[], .nil, fun Fz ρ σ H ps ρ' Q hf R q => ?_, fun ρ ps ρ' h => ?_⟩
    · cases bs with
      | nil =>
        cases hf
        exact q [] H Fz (Mv.refl R) .nil
      | cons b bs => cases hf
    · cases bs with
      | nil => cases h; rfl
      | cons b bs => cases h
  | _, _, @SEs.cons _ _ a e as es h t, bs => by
    cases bs with
    | nil =>
      obtain ⟨ts, ps, ok, md⟩ := argEs_ok t []
      obtain ⟨u, p, okh⟩ := argE_ok h true
      exact ⟨u :: ts, .cons h.pn.ns p ps, (fun Fz ρ σ H qs ρ' Q hf R q => (by cases hf)), (fun ρ ps ρ' h => (by cases h))⟩
    | cons b bs =>
      obtain ⟨ts, ps, ok, md⟩ := argEs_ok t bs
      obtain ⟨u, p, okh⟩ := argE_ok h b
      refine ⟨u :: ts, .cons h.pn.ns p ps, fun Fz ρ σ H qs ρ' Q hf R q => ?_, fun ρ qs ρ' hf => ?_⟩
      · simp only [argEs] at hf
        cases g : argE b a ρ with
        | none => rw [g] at hf; cases hf
        | some z =>
          obtain ⟨p1, ρ1⟩ := z
          rw [g] at hf
          dsimp only at hf
          cases g2 : argEs bs as ρ1 with
          | none => rw [g2] at hf; cases hf
          | some z =>
            obtain ⟨ps2, ρ2⟩ := z
            rw [g2] at hf
            cases hf
            refine okh Fz ρ σ H p1 ρ1 _ g R fun v H1 Fz1 M1 o1 => ?_
            refine ok Fz1 ρ1 σ H1 ps2 _ _ g2 M1.rel fun vs H2 Fz2 M2 o2 => ?_
            exact q (v :: vs) H2 Fz2 (M1.trans M2) (.cons (o1.move (Fz0 := Fz) M1.rel M2) (o2.imp fun p w z => z.back M1))
      · simp only [argEs] at hf
        cases g : argE b a ρ with
        | none => rw [g] at hf; cases hf
        | some z =>
          obtain ⟨p1, ρ1⟩ := z
          rw [g] at hf
          dsimp only at hf
          cases g2 : argEs bs as ρ1 with
          | none => rw [g2] at hf; cases hf
          | some z =>
            obtain ⟨ps2, ρ2⟩ := z
            rw [g2] at hf
            cases hf
            simp only [modesP, argE_mode g, md _ _ _ g2, Bool.and_self]

/-! ### places -/
def SlotAt (ps : List PV) (io : List Bool) (s i : Nat) : Prop := ps[i]? = some (.sl s) ∧ io[i]? = some true
theorem putOuts_get : ∀ {ps : List PV} {io : List Bool} {os : List Ent} {ρ ρ2 : Env}, putOuts ρ ps io os = some ρ2 → modesP io ps = true → ∀ s e, get ρ2 s = some e →
    (∃ i, SlotAt ps io s i ∧ get (outEnv io os) i = some e) ∨ ((∀ i, ¬ SlotAt ps io s i) ∧ get ρ s = some e)
  | [], [], os, ρ, ρ2, h, hm, s, e, g => by
    cases os with
    | nil =>
      cases h
      exact .inr ⟨fun i z => by simp [SlotAt] at z, g⟩
    | cons o os => cases h
  | [], b :: bs, os, ρ, ρ2, h, hm, s, e, g => by simp [modesP] at hm
  | p :: ps, [], os, ρ, ρ2, h, hm, s, e, g => by simp [modesP] at hm
  | p :: ps, b :: bs, os, ρ, ρ2, h, hm, s, e, g => by
    simp only [modesP, Bool.and_eq_true] at hm
    cases b with
    | true =>
      cases p with
      | tm x => simp [modeP] at hm
      | sl t =>
        cases os with
        | nil => cases h
        | cons o os =>
          have h : putOuts (put ρ t (some o)) ps bs os = some ρ2 := h
          rcases putOuts_get h hm.2 s e g with ⟨i, ⟨h1, h2⟩, h3⟩ | ⟨h1, h2⟩
          · exact .inl ⟨i + 1, ⟨by simpa using h1, by simpa using h2⟩, h3⟩
          · rcases get_put h2 with ⟨e1, e2⟩ | ⟨e1, e2⟩
            · subst e1
              exact .inl ⟨0, ⟨rfl, rfl⟩, e2⟩
            · refine .inr ⟨fun i z => ?_, e2⟩
              cases i with
              | zero =>
                have := z.1
                simp at this
                exact e1 this.symm
              | succ i => exact h1 i ⟨by simpa using z.1, by simpa using z.2⟩
    | false =>
      have h : putOuts ρ ps bs os = some ρ2 := by cases p <;> exact h
      rcases putOuts_get h hm.2 s e g with ⟨i, ⟨h1, h2⟩, h3⟩ | ⟨h1, h2⟩
      · exact .inl ⟨i + 1, ⟨by simpa using h1, by simpa using h2⟩, h3⟩
      · refine .inr ⟨fun i z => ?_, h2⟩
        cases i with
        | zero => have := z.2; simp at this
        | succ i => exact h1 i ⟨by simpa using z.1, by simpa using z.2⟩
theorem putOuts_len : ∀ {ps : List PV} {io : List Bool} {os : List Ent} {ρ ρ2 : Env}, putOuts ρ ps io os = some ρ2 → ρ2.length = ρ.length
  | ps, [], os, ρ, ρ2, h => by
    cases os with
    | nil => cases ps <;> (cases h; rfl)
    | cons o os => cases ps <;> (try (rename_i p _; cases p)) <;> cases h
  | [], b :: bs, os, ρ, ρ2, h => by cases b <;> cases os <;> cases h
  | p :: ps, true :: bs, os, ρ, ρ2, h => by
    cases p with
    | tm x => cases h
    | sl t =>
      cases os with
      | nil => cases h
      | cons o os =>
        have h : putOuts (put ρ t (some o)) ps bs os = some ρ2 := h
        rw [putOuts_len h, put_length]
  | p :: ps, false :: bs, os, ρ, ρ2, h => by
    have h : putOuts ρ ps bs os = some ρ2 := by cases p <;> exact h
    exact putOuts_len h
theorem slot_inj : ∀ {ps : List PV} {io : List Bool}, (slotsOf ps io).Nodup → ∀ {s i j}, SlotAt ps io s i → SlotAt ps io s j → i = j := by
  have mem : ∀ {ps : List PV} {io : List Bool} {s i : Nat}, SlotAt ps io s i → s ∈ slotsOf ps io := by
    intro ps
    induction ps with
    | nil => intro io s i h; simp [SlotAt] at h
    | cons p ps ih =>
      intro io s i h
      cases io with
      | nil => simp [SlotAt] at h
      | cons b bs =>
        cases i with
        | zero =>
          have h1 := h.1
          have h2 := h.2
          simp at h1 h2
          subst h1; subst h2
          simp [slotsOf]
        | succ i =>
          have := ih (io := bs) (s := s) (i := i) ⟨by simpa using h.1, by simpa using h.2⟩
          cases p with
          | tm x => cases b <;> simpa [slotsOf] using this
          | sl t => cases b <;> simp [slotsOf, this]
  intro ps
  induction ps with
  | nil => intro io nd s i j h; simp [SlotAt] at h
  | cons p ps ih =>
    intro io nd s i j hi hj
    cases io with
    | nil => simp [SlotAt] at hi
    | cons b bs =>
      have tl : (slotsOf ps bs).Nodup := by
        cases p with
        | tm x => cases b <;> simpa [slotsOf] using nd
        | sl t =>
          cases b with
          | true => simp only [slotsOf, List.nodup_cons] at nd; exact nd.2
          | false => simpa [slotsOf] using nd
      have hd : ∀ k, SlotAt (p :: ps) (b :: bs) s 0 → SlotAt ps bs s k → False := fun k h0 hk => by
        have h1 := h0.1
        have h2 := h0.2
        simp at h1 h2
        subst h1; subst h2
        simp only [slotsOf, List.nodup_cons] at nd
        exact nd.1 (mem hk)
      cases i with
      | zero =>
        cases j with
        | zero => rfl
        | succ j => exact (hd j hi ⟨by simpa using hj.1, by simpa using hj.2⟩).elim
      | succ i =>
        cases j with
        | zero => exact (hd i hj ⟨by simpa using hi.1, by simpa using hi.2⟩).elim
        | succ j => exact congrArg Nat.succ (ih tl ⟨by simpa using hi.1, by simpa using hi.2⟩ ⟨by simpa using hj.1, by simpa using hj.2⟩)
theorem get_map {xs : List Ent} {i : Nat} {e : Ent} : get (xs.map some) i = some e ↔ xs[i]? = some e := by
  rw [get_eq, List.getElem?_map]
  cases xs[i]? with
  | none => simp
  | some x => simp
theorem looks_at : ∀ {ps : List PV} {ρ : Env} {xs : List Ent}, looks ps ρ = some xs → ∀ (i : Nat) (p : PV), ps[i]? = some p → ∃ x, xs[i]? = some x ∧ look p ρ = some x
  | [], ρ, xs, h, i, p, hp => by simp at hp
  | q :: ps, ρ, xs, h, i, p, hp => by
    simp only [looks] at h
    cases g : look q ρ with
    | none => simp [g] at h
    | some x =>
      cases g2 : looks ps ρ with
      | none => simp [g, g2] at h
      | some ys =>
        simp [g, g2] at h
        subst h
        cases i with
        | zero => simp at hp; subst hp; exact ⟨x, rfl, g⟩
        | succ i => exact looks_at g2 i p (by simpa using hp)
theorem looks_len : ∀ {ps : List PV} {ρ : Env} {xs : List Ent}, looks ps ρ = some xs → xs.length = ps.length
  | [], ρ, xs, h => by cases h; rfl
  | q :: ps, ρ, xs, h => by
    simp only [looks] at h
    cases g : look q ρ with
    | none => simp [g] at h
    | some x =>
      cases g2 : looks ps ρ with
      | none => simp [g, g2] at h
      | some ys =>
        simp [g, g2] at h
        subst h
        simp [looks_len g2]
theorem modesP_at : ∀ {io : List Bool} {ps : List PV}, modesP io ps = true → ∀ (i : Nat) (p : PV), ps[i]? = some p → ∃ b, io[i]? = some b ∧ modeP b p = true
  | [], [], h, i, p, hp => by simp at hp
  | [], _ :: _, h, i, p, hp => by simp [modesP] at h
  | _ :: _, [], h, i, p, hp => by simp [modesP] at h
  | b :: io, q :: ps, h, i, p, hp => by
    simp only [modesP, Bool.and_eq_true] at h
    cases i with
    | zero => simp at hp; subst hp; exact ⟨b, rfl, h.1⟩
    | succ i =>
      obtain ⟨b', h1, h2⟩ := modesP_at h.2 i p (by simpa using hp)
      exact ⟨b', by simpa using h1, h2⟩
theorem modes_ok : ∀ {io : List Bool} {ps : List PV} {ρ : Env} {xs : List Ent}, modesP io ps = true → looks ps ρ = some xs → modesOk io xs = true
  | [], [], ρ, xs, h, e => by cases e; rfl
  | [], _ :: _, ρ, xs, h, e => by simp [modesP] at h
  | _ :: _, [], ρ, xs, h, e => by simp [modesP] at h
  | b :: io, q :: ps, ρ, xs, h, e => by
    simp only [modesP, Bool.and_eq_true] at h
    simp only [looks] at e
    cases g : look q ρ with
    | none => simp [g] at e
    | some x =>
      cases g2 : looks ps ρ with
      | none => simp [g, g2] at e
      | some ys =>
        simp [g, g2] at e
        subst e
        simp only [modesOk, modes_ok h.2 g2, Bool.and_true]
        cases b with
        | true => rfl
        | false =>
          cases q with
          | sl s => cases h.1
          | tm e => cases g; simpa [modeP] using h.1

/-! ### the call -/
section
variable {ρ0 ρ1 : Env} {σ : Sl} {H0 H1 : Hp} {Fz1 : Addr → Prop} {ps : List PV} {vs : List V} {xs : List Ent} {io : List Bool}
theorem arg_rel (R : Rel K Fz1 ρ1 σ H1) (o : All2 (PvOut K ρ0 σ H0 Fz1 ρ1 σ H1) ps vs) (l : looks ps ρ1 = some xs) (md : modesP io ps = true) (nd : (slotsOf ps io).Nodup) :
    Rel K Fz1 (xs.map some) (vs.map some) H1 ∧
    (∀ i x v a, get (xs.map some) i = some x → (vs.map some)[i]? = some (some v) → OwnV x v a → ∃ s, SlotAt ps io s i ∧ get ρ1 s = some x ∧ σ[s]? = some (some v)) := by
  have re := looks_re R o l
  have slot : ∀ i x v a, get (xs.map some) i = some x → (vs.map some)[i]? = some (some v) → OwnV x v a → ∃ s, SlotAt ps io s i ∧ get ρ1 s = some x ∧ σ[s]? = some (some v) := fun i x v a g s w => by
    have g := get_map.mp g
    have s : vs[i]? = some v := by simpa using s
    have hi : i < ps.length := by rw [← looks_len l]; exact (List.getElem?_eq_some_iff.mp g).1
    have hp : ps[i]? = some ps[i] := List.getElem?_eq_getElem hi
    obtain ⟨x', e1, e2⟩ := looks_at l i _ hp
    rw [g] at e1; cases e1
    obtain ⟨b, hb, hm⟩ := modesP_at md i _ hp
    obtain ⟨v', e3, pv⟩ := o.at hp
    rw [s] at e3; cases e3
    cases hq : ps[i] with
    | tm e =>
      rw [hq] at hm e2
      cases e2
      cases b with
      | true => cases hm
      | false =>
        have := (own_is w).1
        simp [modeP, this] at hm
    | sl t =>
      rw [hq] at hm e2 pv hp
      cases b with
      | true => exact ⟨t, ⟨hp, hb⟩, e2, pv⟩
      | false => cases hm
  refine ⟨⟨by simp [re.len], fun i e g => ?_, fun i j e e' v v' a g1 g2 s1 s2 o1 o2 => ?_, R.fzH⟩, slot⟩
  · obtain ⟨v, e1, h⟩ := re.at (get_map.mp g)
    exact ⟨v, by simp [e1], h⟩
  · obtain ⟨s, sa, q1, q2⟩ := slot i e v a g1 s1 o1
    obtain ⟨t, ta, q3, q4⟩ := slot j e' v' a g2 s2 o2
    have := R.ap s t e e' v v' a q1 q3 q2 q4 o1 o2
    subst this
    exact slot_inj nd sa ta
theorem call_fin (R : Rel K Fz1 ρ1 σ H1) (o : All2 (PvOut K ρ0 σ H0 Fz1 ρ1 σ H1) ps vs) (l : looks ps ρ1 = some xs) (md : modesP io ps = true) (nd : (slotsOf ps io).Nodup)
    {os : List Ent} {y : Ent} {v : V} {H2 : Hp} {Fz2 : Addr → Prop} {ρ2 : Env} (po : putOuts ρ1 ps io os = some ρ2)
    (M : Mv K Fz1 (xs.map some) (vs.map some) H1 Fz2 (outEnv io os) (vs.map some) H2) (O : Out K (xs.map some) (vs.map some) H1 Fz2 (outEnv io os) (vs.map some) H2 y v) :
    Mv K Fz1 ρ1 σ H1 Fz2 ρ2 σ H2 ∧ Out K ρ1 σ H1 Fz2 ρ2 σ H2 y v := by
  obtain ⟨RA, slot⟩ := arg_rel R o l md nd
  -- an object of the arguments is a slot's
  have up : ∀ a, Own (xs.map some) (vs.map some) a → Own ρ1 σ a := fun a ⟨i, x, w, g, s, ow⟩ => by
    obtain ⟨t, _, q1, q2⟩ := slot i x w a g s ow
    exact ⟨t, x, w, q1, q2, ow⟩
  -- a slot that is not handed on has none of them
  have apart : ∀ s e w a, (∀ i, ¬ SlotAt ps io s i) → get ρ1 s = some e → σ[s]? = some (some w) → OwnV e w a → ¬ Own (xs.map some) (vs.map some) a := fun s e w a ns g hs ow ⟨i, x, u, g2, s2, ow2⟩ => by
    obtain ⟨t, ta, q1, q2⟩ := slot i x u a g2 s2 ow2
    have := R.ap s t e x w u a g q1 hs q2 ow ow2
    subst this
    exact ns i ta
  have look2 := putOuts_get po md
  -- the value of a slot handed on
  have pv : ∀ s i, SlotAt ps io s i → ∃ w, vs[i]? = some w ∧ σ[s]? = some (some w) := fun s i sa => by
    obtain ⟨w, e1, h⟩ := o.at sa.1
    exact ⟨w, e1, h⟩
  have old : ∀ s e, (∀ i, ¬ SlotAt ps io s i) → get ρ1 s = some e → ∃ w, σ[s]? = some (some w) ∧ RE K Fz2 H2 e w := fun s e ns g => by
    obtain ⟨w, hs, re⟩ := R.re s e g
    refine ⟨w, hs, RE.stay (M.stay RA) re fun a ow => ?_⟩
    have na := apart s e w a ns g hs ow
    obtain ⟨nf, u, hu, _⟩ := re.own ow
    refine ⟨fun f => ?_, fun ob h => M.frame a ob h na⟩
    rcases M.fzn a f with z | z | z
    · exact nf z
    · exact na z
    · rw [hu] at z; cases z
  have ownNew : ∀ i x w a, get (outEnv io os) i = some x → (vs.map some)[i]? = some (some w) → OwnV x w a → Own (outEnv io os) (vs.map some) a := fun i x w a g s ow => ⟨i, x, w, g, s, ow⟩
  -- an object that an old slot has is none of the new ones
  have apart2 : ∀ s e w a, (∀ i, ¬ SlotAt ps io s i) → get ρ1 s = some e → σ[s]? = some (some w) → OwnV e w a → ¬ Own (outEnv io os) (vs.map some) a := fun s e w a ns g hs ow z => by
    rcases M.own a z with z | z
    · exact apart s e w a ns g hs ow z
    · obtain ⟨w', hs', re⟩ := R.re s e g
      rw [hs] at hs'; cases hs'
      obtain ⟨_, u, hu, _⟩ := re.own ow
      rw [hu] at z; cases z
  have R2 : Rel K Fz2 ρ2 σ H2 := by
    refine ⟨by rw [putOuts_len po]; exact R.len, fun s e g => ?_, fun s t e e' w w' a g1 g2 s1 s2 o1 o2 => ?_, M.rel.fzH⟩
    · rcases look2 s e g with ⟨i, sa, h⟩ | ⟨ns, h⟩
      · obtain ⟨w, e1, hs⟩ := pv s i sa
        obtain ⟨w', e2, re⟩ := M.rel.re i e h
        rw [List.getElem?_map, e1] at e2
        cases e2
        exact ⟨w, hs, re⟩
      · exact old s e ns h
    · rcases look2 s e g1 with ⟨i, sa, h1⟩ | ⟨ns, h1⟩ <;> rcases look2 t e' g2 with ⟨j, ta, h2⟩ | ⟨nt, h2⟩
      · obtain ⟨u, e1, hs⟩ := pv s i sa
        obtain ⟨u', e2, ht⟩ := pv t j ta
        rw [s1] at hs; cases hs
        rw [s2] at ht; cases ht
        have := M.rel.ap i j e e' w w' a h1 h2 (by simp [e1]) (by simp [e2]) o1 o2
        subst this
        have h3 := sa.1
        have h4 := ta.1
        rw [h3] at h4
        cases h4
        rfl
      · obtain ⟨u, e1, hs⟩ := pv s i sa
        rw [s1] at hs; cases hs
        exact absurd (ownNew i e w a h1 (by simp [e1]) o1) (apart2 t e' w' a nt h2 s2 o2)
      · obtain ⟨u, e1, ht⟩ := pv t j ta
        rw [s2] at ht; cases ht
        exact absurd (ownNew j e' w' a h2 (by simp [e1]) o2) (apart2 s e w a ns h1 s1 o1)
      · exact R.ap s t e e' w w' a h1 h2 s1 s2 o1 o2
  have own2 : ∀ a, Own ρ2 σ a → Own (outEnv io os) (vs.map some) a ∨ (Own ρ1 σ a ∧ ¬ Own (xs.map some) (vs.map some) a) := fun a ⟨s, e, w, g, hs, ow⟩ => by
    rcases look2 s e g with ⟨i, sa, h⟩ | ⟨ns, h⟩
    · obtain ⟨u, e1, ht⟩ := pv s i sa
      rw [hs] at ht; cases ht
      exact .inl (ownNew i e w a h (by simp [e1]) ow)
    · exact .inr ⟨⟨s, e, w, h, hs, ow⟩, apart s e w a ns h hs ow⟩
  refine ⟨⟨R2, M.fz, fun a f => ?_, fun a z => ?_, fun b ob h n => M.frame b ob h fun z => n (up b z)⟩, ⟨⟨O.re, fun a ow z => ?_⟩, fun a ow => ?_⟩⟩
  · rcases M.fzn a f with z | z | z
    · exact .inl z
    · exact .inr (.inl (up a z))
    · exact .inr (.inr z)
  · rcases own2 a z with z | z
    · rcases M.own a z with z | z
      · exact .inl (up a z)
      · exact .inr z
    · exact .inl z.1
  · rcases own2 a z with z | ⟨z1, z2⟩
    · exact O.no a ow z
    · rcases O.new a ow with q | q
      · exact z2 q
      · obtain ⟨_, u, hu, _⟩ := R.own z1
        rw [hu] at q; cases q
  · rcases O.new a ow with q | q
    · exact .inl (up a q)
    · exact .inr q
end
theorem se_call (G : GoodE X K F) {f : Str} (hg : Gl X f) (hd : (f == ("__debug__" : Str)) = false) {as : List Ev} {es : List Expr} {p pos : Pos} (h : SEs X K as es) (hne : es ≠ []) : SE X K (evCall F f as) (.Call (.Name f p) es [] pos) := by
  cases gf : F f with
  | none =>
    -- it is not in the table: the interpreter gives nothing
    have bad : ∃ t, PE X (.Call (.Name f p) es [] pos) t ∧ ValOk K t (evCall F f as).e :=
      ⟨fun _ _ _ => False, ⟨fun _ _ _ _ _ _ z => z.elim⟩, fun Fz ρ σ H r ρ' Q hf R q => by simp [evCall, evMk, gf] at hf⟩
    exact se_mk G pl_call (fun _ _ => rfl) bad
  | some g =>
    obtain ⟨ts, pes, ok, md⟩ := argEs_ok h g.io
    obtain ⟨a, fd, prs, k, hm, kp, bd, fok, room⟩ := (G.fn f g gf).is
    cases pes with
    | nil => exact absurd rfl hne
    | cons n1 p1 ps =>
      refine se_mk G pl_call (fun _ _ => rfl) ⟨_, pe_call fok room hg hm kp bd .nil pass0 (PEs.cons n1 p1 ps).pa hd (n1 _ _) (ps.noStar _), fun Fz ρ σ H r ρ' Q hf R q => ?_⟩
      simp only [gf] at hf
      cases g1 : argEs g.io as ρ with
      | none => rw [g1] at hf; cases hf
      | some z =>
        obtain ⟨qs, ρ1⟩ := z
        rw [g1] at hf
        dsimp only at hf
        split at hf
        · rename_i nd
          cases g2 : looks qs ρ1 with
          | none => rw [g2] at hf; cases hf
          | some xs =>
            rw [g2] at hf
            dsimp only at hf
            cases g3 : g.sem xs with
            | none => rw [g3] at hf; cases hf
            | some z =>
              obtain ⟨y, os⟩ := z
              rw [g3] at hf
              dsimp only at hf
              cases g4 : putOuts ρ1 qs g.io os with
              | none => rw [g4] at hf; cases hf
              | some ρ2 =>
                rw [g4] at hf
                cases hf
                refine ok Fz ρ σ H qs ρ1 _ g1 R fun vs H1 Fz1 M1 o1 => ?_
                have m1 := md ρ qs ρ1 g1
                refine ⟨Fz1, xs, _, os, g3, modes_ok m1 g2, by rw [List.append_nil]; exact (arg_rel M1.rel o1 g2 m1 nd).1, fun v H2 Fz2 M2 O2 => ?_⟩
                rw [List.append_nil] at M2 O2
                obtain ⟨M3, O3⟩ := call_fin M1.rel o1 g2 m1 nd g4 M2 O2
                exact q v H2 Fz2 (M1.trans M3) (O3.back M1)
        · cases hf
end
end MP
set_option Elab.async false
set_option linter.all false
set_option maxRecDepth 100000
/-! MP10: dict displays; methods of lists; list(range) -/
namespace MP
open PySem PySem.Spec PyProof.Rows L2
section
variable {X : Cx} {K : Cst} {F : FT} {Fz Fz' : Addr → Prop} {ρ ρ' : Env} {σ σ' : Sl} {H H' : Hp}

/-- an object of no slot, new since the start, is written -/
theorem Mv.poke (M : Mv K Fz ρ σ H Fz' ρ' σ' H') {p : Addr} {u o : HO} (n : H p = none) (no : ¬ Own ρ' σ' p) (nf : ¬ Fz' p) (hp : H' p = some u) (wu : Wr u) : Mv K Fz ρ σ H Fz' ρ' σ' (upd H' p o) ∧ Stay K Fz' H' Fz' (upd H' p o) := by
  have S : Stay K Fz' H' Fz' (upd H' p o) := by
    refine ⟨fun _ h => h, fun a vs f h => ?_, fun a vs h => ?_, fun a ob w h => ?_⟩
    · rw [upd_ne (fun e : a = p => nf (e ▸ f))]; exact h
    · rw [upd_ne (fun e : a = p => by subst e; rw [hp] at h; cases h; exact wu)]; exact h
    · rw [upd_ne (fun e : a = p => by subst e; rw [hp] at h; cases h; exact wu)]; exact h
  refine ⟨⟨M.rel.stay S (fun a w => ⟨(M.rel.own w).1, fun ob h => ?_⟩) fun a f => ?_, M.fz, M.fzn, M.own, fun b ob h w => ?_⟩, S⟩
  · rw [upd_ne (fun e : a = p => no (e ▸ w))]; exact h
  · obtain ⟨vs, h⟩ := M.rel.fzH a f
    exact ⟨vs, by rw [upd_ne (fun e : a = p => nf (e ▸ f))]; exact h⟩
  · have hb : b ≠ p := fun e => by subst e; rw [n] at h; cases h
    rw [upd_ne hb]; exact M.frame b ob h w
/-- a slot's own object is written -/
theorem Mv.slot (R : Rel K Fz ρ σ H) {i : Nat} {e e' : Ent} {l : Addr} {o : HO} (g : get ρ i = some e) (s : σ[i]? = some (some (.ref l))) (ow : OwnV e (.ref l) l) (ow' : OwnV e' (.ref l) l) (re : RE K Fz (upd H l o) e' (.ref l)) :
    Mv K Fz ρ σ H Fz (put ρ i (some e')) σ (upd H l o) ∧ Stay K Fz H Fz (upd H l o) := by
  have oi : Own ρ σ l := ⟨i, e, _, g, s, ow⟩
  obtain ⟨nf, u, hu, wu⟩ := R.own oi
  have S : Stay K Fz H Fz (upd H l o) := by
    refine ⟨fun _ h => h, fun a vs f h => ?_, fun a vs h => ?_, fun a ob w h => ?_⟩
    · rw [upd_ne (fun e : a = l => nf (e ▸ f))]; exact h
    · rw [upd_ne (fun e : a = l => by subst e; rw [hu] at h; cases h; exact wu)]; exact h
    · rw [upd_ne (fun e : a = l => by subst e; rw [hu] at h; cases h; exact wu)]; exact h
  refine ⟨⟨⟨by rw [put_length]; exact R.len, fun j x gj => ?_, fun j k x y v w a g1 g2 s1 s2 o1 o2 => ?_, fun a f => ?_⟩, fun _ h => h, fun _ h => .inl h, fun a w => ?_, fun b ob h w => ?_⟩, S⟩
  · rcases get_put gj with ⟨rfl, q⟩ | ⟨hj, q⟩
    · cases q; exact ⟨_, s, re⟩
    · obtain ⟨v, sv, rv⟩ := R.re j x q
      refine ⟨v, sv, rv.stay S fun a ob => ⟨(rv.own ob).1, fun u2 h => ?_⟩⟩
      rw [upd_ne (fun ea : a = l => hj (R.ap j i x e v _ l q g sv s (ea ▸ ob) ow))]
      exact h
  · have lift : ∀ {j : Nat} {x : Ent} {v : V}, get (put ρ i (some e')) j = some x → σ[j]? = some (some v) → OwnV x v a → ∃ x', get ρ j = some x' ∧ OwnV x' v a := fun {j x v} gg ss oo => by
      rcases get_put gg with ⟨rfl, q⟩ | ⟨hj, q⟩
      · cases q
        rw [s] at ss; cases ss
        have e1 := (own_is oo).2
        cases e1
        exact ⟨e, g, ow⟩
      · exact ⟨x, q, oo⟩
    obtain ⟨x', q1, p1⟩ := lift g1 s1 o1
    obtain ⟨y', q2, p2⟩ := lift g2 s2 o2
    exact R.ap j k x' y' v w a q1 q2 s1 s2 p1 p2
  · obtain ⟨vs, h⟩ := R.fzH a f
    exact ⟨vs, S.lst a vs f h⟩
  · rcases Own.put w with ⟨x, v, q, sv, ov⟩ | z
    · cases q
      rw [s] at sv; cases sv
      have e1 := (own_is ov).2
      cases e1
      exact .inl oi
    · exact .inl z
  · rw [upd_ne (fun e : b = l => w (e ▸ oi))]; exact h

/-! ### {k: v, ..} -/
def keyExpr : Expr → Option Key
  | .Constant (.int i) _ _ => some (.inl i)
  | .Constant (.str s) _ _ => some (.inr s)
  | _ => none
theorem key_pe {e : Expr} {k : Key} (h : keyExpr e = some k) : PE X e (tC (kV k)) := by
  unfold keyExpr at h
  split at h
  · cases h; exact pe_int
  · cases h; exact pe_str
  · cases h
def keyExprs : List (Option Expr) → Option (List Key)
  | [] => some []
  | some e :: r => match keyExpr e, keyExprs r with
    | some k, some ks => some (k :: ks)
    | _, _ => none
  | none :: _ => none
def PairsOk (K : Cst) (ks : List Key) (trs : List (TE × TE)) (f : Env → R (List D)) : Prop :=
  ∀ Fz ρ σ H ds ρ' (Q : List (V × V) → Hp → Prop), f ρ = some (ds, ρ') → Rel K Fz ρ σ H → (∀ vs H' Fz', Mv K Fz ρ σ H Fz' ρ' σ H' → RFs K Fz' H' ds vs → vs.length = ks.length → Q ((ks.map kV).zip vs) H') → tPairs trs σ H Q
theorem SEs.pairs {pos : Pos} : ∀ {as : List Ev} {es : List Expr} {kes : List (Option Expr)} {ks : List Key}, SEs X K as es → keyExprs kes = some ks → kes.length = es.length → ∃ trs, PPs X pos kes es trs ∧ PairsOk K ks trs (MP.items as)
  | _, _, [], ks, .nil, hk, hl => by
    cases hk
    exact ⟨[], pps_nil, fun Fz ρ σ H ps ρ' Q hf R q => by
      cases hf
      exact q [] H Fz (Mv.refl R) (by simp only [RFs]) rfl⟩
  | _, _, [], ks, .cons _ _, hk, hl => by simp at hl
  | _, _, _ :: _, ks, .nil, hk, hl => by simp at hl
  | _, _, none :: kes, ks, .cons _ _, hk, hl => by cases hk
  | _, _, some ke :: kes, ks, @SEs.cons _ _ a e as es h t, hk, hl => by
    simp only [keyExprs] at hk
    cases g1 : keyExpr ke with
    | none => simp [g1] at hk
    | some k =>
      cases g2 : keyExprs kes with
      | none => simp [g1, g2] at hk
      | some r =>
        simp only [g1, g2, Option.some.injEq] at hk
        subst hk
        obtain ⟨ts, ps, ok⟩ := SEs.pairs (pos := pos) t g2 (by simpa using hl)
        obtain ⟨u, p, okh⟩ := h.val
        refine ⟨(_, u) :: ts, pps_cons (key_pe g1) p ps, fun Fz ρ σ H qs ρ' Q hf R q => ?_⟩
        simp only [MP.items] at hf
        cases g : a.e ρ with
        | none => rw [g] at hf; cases hf
        | some z =>
          obtain ⟨x, ρ1⟩ := z
          rw [g] at hf
          dsimp only at hf
          cases g3 : toD x with
          | none => rw [g3] at hf; cases hf
          | some d =>
            rw [g3] at hf
            dsimp only at hf
            cases g2 : MP.items as ρ1 with
            | none => rw [g2] at hf; cases hf
            | some z =>
              obtain ⟨ds, ρ2⟩ := z
              rw [g2] at hf
              cases hf
              refine okh Fz ρ σ H x ρ1 _ g R fun v H1 Fz1 M1 o1 => ?_
              obtain ⟨Fz1', M1', rf⟩ := o1.toD M1 g3
              refine ok Fz1' ρ1 σ H1 ds _ _ g2 M1'.rel fun vs H2 Fz2 M2 o2 hl => ?_
              refine q (v :: vs) H2 Fz2 (M1'.trans M2) ?_ (by simp [hl])
              simp only [RFs]
              exact ⟨v, vs, rfl, RF.stay (M2.stay M1'.rel) _ _ rf, o2⟩
theorem merge_new : ∀ {ks : List Key} {vs : List V} {acc : List (Key × V)}, ks.Nodup → (∀ k ∈ ks, valV acc k = none) → mergeK acc (ks.zip vs) = acc ++ ks.zip vs
  | [], vs, acc, nd, h => by simp [mergeK]
  | k :: ks, [], acc, nd, h => by simp [mergeK]
  | k :: ks, v :: vs, acc, nd, h => by
    have hk := h k List.mem_cons_self
    have nd2 := List.nodup_cons.mp nd
    show mergeK (putK acc k v) (ks.zip vs) = _
    rw [putK_new v hk, merge_new nd2.2 (fun j hj => ?_)]
    · simp
    · rw [valV_snoc k j v acc hk, if_neg (fun e : j = k => nd2.1 (e ▸ hj))]
      exact h j (List.mem_cons_of_mem _ hj)
theorem zip_fst {α β : Type} : ∀ {as : List α} {bs : List β}, as.length = bs.length → (as.zip bs).map (·.1) = as
  | [], [], _ => rfl
  | a :: as, b :: bs, h => by simp [zip_fst (as := as) (bs := bs) (by simpa using h)]
theorem zip_snd {α β : Type} : ∀ {as : List α} {bs : List β}, as.length = bs.length → (as.zip bs).map (·.2) = bs
  | [], [], _ => rfl
  | a :: as, b :: bs, h => by simp [zip_snd (as := as) (bs := bs) (by simpa using h)]
theorem zip_keys {ks : List Key} {vs : List V} : ((ks.map kV).zip vs) = (ks.zip vs).map fun kv => (kV kv.1, kv.2) := by
  induction ks generalizing vs with
  | nil => rfl
  | cons k ks ih => cases vs with
    | nil => rfl
    | cons v vs => simp [ih]
theorem keyExprs_some : ∀ {kes : List (Option Expr)} {ks : List Key}, keyExprs kes = some ks → kes.all (·.isSome) = true ∧ kes.length = ks.length
  | [], ks, h => by cases h; exact ⟨rfl, rfl⟩
  | none :: _, ks, h => by cases h
  | some e :: r, ks, h => by
    simp only [keyExprs] at h
    cases g1 : keyExpr e with
    | none => simp [g1] at h
    | some k =>
      cases g2 : keyExprs r with
      | none => simp [g1, g2] at h
      | some s =>
        simp only [g1, g2, Option.some.injEq] at h
        subst h
        obtain ⟨h1, h2⟩ := keyExprs_some g2
        exact ⟨by simp [h1], by simp [h2]⟩
theorem se_dct (G : GoodE X K F) {as : List Ev} {es : List Expr} {kes : List (Option Expr)} {ks : List Key} {pos : Pos} (h : SEs X K as es) (hk : keyExprs kes = some ks) (hl : kes.length = es.length) (hne : kes ≠ []) :
    SE X K (evDct ks as) (.Dict kes es pos) := by
  obtain ⟨trs, pp, ok⟩ := h.pairs (pos := pos) hk hl
  obtain ⟨k1, k2⟩ := keyExprs_some hk
  by_cases h15 : kes.length ≤ 15
  · refine se_mk G ⟨fun _ _ => rfl, fun _ => rfl, fun _ _ => rfl⟩ (fun _ _ => rfl) ⟨_, pe_disp pp k1 hl hne h15, fun Fz ρ σ H r ρ' Q hf R q => ?_⟩
    dsimp only at hf
    cases g : MP.items as ρ with
    | none => rw [g] at hf; cases hf
    | some z =>
      obtain ⟨ds, ρ1⟩ := z
      rw [g] at hf
      dsimp only at hf
      split at hf
      · rename_i c
        cases hf
        intro p n
        have M0 := Mv.new (o := .dK []) R n
        have np : ¬ Own ρ σ p := R.nown n
        have nfp : ¬ Fz p := R.nfz n
        refine ok Fz ρ σ _ ds _ _ g M0.rel fun vs H2 Fz2 M re lv => ?_
        have hp : H2 p = some (.dK []) := M.frame p _ upd_same np
        have M1 := M0.trans M
        have no2 : ¬ Own ρ' σ p := fun z => by
          rcases M.own p z with w | w
          · exact np w
          · rw [upd_same] at w; cases w
        have nf2 : ¬ Fz2 p := fun z => by
          rcases M.fzn p z with w | w | w
          · exact nfp w
          · exact np w
          · rw [upd_same] at w; cases w
        refine ⟨hp, ks.zip vs, zip_keys, by simp; omega, ?_⟩
        rw [merge_new c.2.1 (fun k _ => rfl), List.nil_append]
        obtain ⟨M2, S2⟩ := M1.poke (o := .dK (ks.zip vs)) n no2 nf2 hp trivial
        refine q _ _ Fz2 M2 ⟨⟨⟨p, ks.zip vs, rfl, nf2, upd_same, ?_, ?_⟩, fun a w => ?_⟩, fun a w => ?_⟩
        · rw [zip_fst lv.symm, zip_fst c.1.symm]
        · rw [zip_snd c.1.symm, zip_snd lv.symm]
          exact RFs.stay S2 _ _ re
        · have e : V.ref p = .ref a := w
          cases e
          exact no2
        · have e : V.ref p = .ref a := w
          cases e
          exact .inr n
      · cases hf
  · refine se_mk G ⟨fun _ _ => rfl, fun _ => rfl, fun _ _ => rfl⟩ (fun _ _ => rfl) ⟨fun _ _ _ => False, ⟨fun _ _ _ _ _ _ z => z.elim⟩, fun Fz ρ σ H r ρ' Q hf R q => ?_⟩
    dsimp only at hf
    split at hf
    · split at hf
      · rename_i c
        omega
      · cases hf
    · cases hf
end
end MP
set_option Elab.async false
set_option linter.all false
set_option maxRecDepth 100000
/-! MP11: methods of lists, list(range), what a loop walks -/
namespace MP
open PySem PySem.Spec PyProof.Rows L2
section
variable {X : Cx} {K : Cst} {F : FT} {Fz Fz' : Addr → Prop} {ρ ρ' : Env} {σ σ' : Sl} {H H' : Hp}
/-- what a name in slot i is, as an expression -/
structure NmAt (X : Cx) (i : Nat) (o : Expr) : Prop where
  pe : PE X o (tVar i)
  ab : ∀ nm : Str, attributeBase o nm X.env (eval o X.env) = eval o X.env
theorem Rel.lst (R : Rel K Fz ρ σ H) {i : Nat} {ds : List D} (g : get ρ i = some (.lst ds)) : ∃ l vs, σ[i]? = some (some (.ref l)) ∧ ¬ Fz l ∧ H l = some (.lst vs) ∧ RFs K Fz H ds vs := by
  obtain ⟨v, s, a, vs, e, nf, ha, r⟩ := R.re i _ g
  subst e
  exact ⟨a, vs, s, nf, ha, r⟩
theorem se_app (G : GoodE X K F) {i : Nat} {o : Expr} (ho : NmAt X i o) {ea : Ev} {a : Expr} {apos cpos : Pos} (hline : (apos.endLine == cpos.line) = true) (ha : SE X K ea a) : SE X K (evApp i ea) (.Call (.Attribute o "append" apos) [a] [] cpos) := by
  obtain ⟨t, p, ok⟩ := ha.val
  refine se_mk G pl_call (fun _ _ => rfl) ⟨_, pe_bm PySem.F.plainAttrs_list PySem.F.slot_list_append PySem.F.type_list_append mt_append ho.pe (pa_cons p pa_nil (ha.pn.ns _ _)) (ho.ab _) (by rw [ha.pn.ns]; rfl) hline (ha.pn.ns _ _) rfl, fun Fz ρ σ H r ρ' Q hf R q => ?_⟩
  dsimp only at hf
  cases g : get ρ i with
  | none => rw [g] at hf; cases hf
  | some e0 =>
    rw [g] at hf
    cases e0 with
    | lst ds0 =>
      dsimp only at hf
      cases g1 : ea.e ρ with
      | none => rw [g1] at hf; cases hf
      | some z =>
        obtain ⟨x, ρ1⟩ := z
        rw [g1] at hf
        dsimp only at hf
        obtain ⟨l, vs0, s, nf0, h0, r0⟩ := R.lst g
        refine ⟨.ref l, s, .inl ⟨rfl, vs0, .inl (.inl h0)⟩, ?_⟩
        cases g2 : toD x with
        | none => rw [g2] at hf; cases hf
        | some d =>
          cases g3 : get ρ1 i with
          | none => rw [g2, g3] at hf; cases hf
          | some e1 =>
            rw [g2, g3] at hf
            cases e1 with
            | lst ds =>
              dsimp only at hf
              split at hf
              · rename_i hl
                cases hf
                refine ok Fz ρ σ H x ρ1 _ g1 R fun v H1 Fz1 M O => ?_
                obtain ⟨Fz2, M2, rf⟩ := O.toD M g2
                obtain ⟨l', vs, s', nf, h1, r1⟩ := M2.rel.lst g3
                rw [s] at s'; cases s'
                have rn : RFs K Fz2 (upd H1 l (.lst (vs ++ [v]))) (ds ++ [d]) (vs ++ [v]) := by
                  have S : Stay K Fz2 H1 Fz2 (upd H1 l (.lst (vs ++ [v]))) := by
                    refine ⟨fun _ h => h, fun a ws f h => ?_, fun a ws h => ?_, fun a ob w h => ?_⟩
                    · rw [upd_ne (fun e : a = l => nf (e ▸ f))]; exact h
                    · rw [upd_ne (fun e : a = l => by subst e; rw [h1] at h; cases h)]; exact h
                    · rw [upd_ne (fun e : a = l => by subst e; rw [h1] at h; cases h)]; exact h
                  refine RFs.of ((RFs.stay S _ _ r1).all.append (.cons (RF.stay S _ _ rf) .nil))
                obtain ⟨M3, S3⟩ := Mv.slot M2.rel g3 s rfl (e' := .lst (ds ++ [d])) rfl ⟨l, _, rfl, nf, upd_same, rn⟩
                exact ⟨l, vs, v, rfl, rfl, h1, by rw [← r1.length]; exact lim_lt hl, q _ _ Fz2 (M2.trans M3) (Out.data (by simp only [RF]))⟩
              · cases hf
            | _ => cases hf
    | _ => cases hf
theorem se_ext (G : GoodE X K F) {i : Nat} {o : Expr} (ho : NmAt X i o) {ea : Ev} {a : Expr} {apos cpos : Pos} (hline : (apos.endLine == cpos.line) = true) (ha : SE X K ea a) : SE X K (evExt i ea) (.Call (.Attribute o "extend" apos) [a] [] cpos) := by
  obtain ⟨t, p, ok⟩ := ha.val
  refine se_mk G pl_call (fun _ _ => rfl) ⟨_, pe_bm PySem.F.plainAttrs_list PySem.F.slot_list_extend PySem.F.type_list_extend mt_extend ho.pe (pa_cons p pa_nil (ha.pn.ns _ _)) (ho.ab _) (by rw [ha.pn.ns]; rfl) hline (ha.pn.ns _ _) rfl, fun Fz ρ σ H r ρ' Q hf R q => ?_⟩
  dsimp only at hf
  cases g : get ρ i with
  | none => rw [g] at hf; cases hf
  | some e0 =>
    rw [g] at hf
    cases e0 with
    | lst ds0 =>
      dsimp only at hf
      cases g1 : ea.e ρ with
      | none => rw [g1] at hf; cases hf
      | some z =>
        obtain ⟨x, ρ1⟩ := z
        rw [g1] at hf
        dsimp only at hf
        obtain ⟨l, vs0, s, nf0, h0, r0⟩ := R.lst g
        refine ⟨.ref l, s, .inl ⟨rfl, vs0, .inl (.inl h0)⟩, ?_⟩
        cases g2 : lstOf x with
        | none => rw [g2] at hf; cases hf
        | some es =>
          cases g3 : get ρ1 i with
          | none => rw [g2, g3] at hf; cases hf
          | some e1 =>
            rw [g2, g3] at hf
            cases e1 with
            | lst ds =>
              dsimp only at hf
              split at hf
              · rename_i hl
                cases hf
                refine ok Fz ρ σ H x ρ1 _ g1 R fun v H1 Fz1 M O => ?_
                obtain ⟨b, ws, rfl, hb, rb⟩ := O.re.lstOf g2
                obtain ⟨l', vs, s', nf, h1, r1⟩ := M.rel.lst g3
                rw [s] at s'; cases s'
                have rn : RFs K Fz1 (upd H1 l (.lst (vs ++ ws))) (ds ++ es) (vs ++ ws) := by
                  have S : Stay K Fz1 H1 Fz1 (upd H1 l (.lst (vs ++ ws))) := by
                    refine ⟨fun _ h => h, fun a ws f h => ?_, fun a ws h => ?_, fun a ob w h => ?_⟩
                    · rw [upd_ne (fun e : a = l => nf (e ▸ f))]; exact h
                    · rw [upd_ne (fun e : a = l => by subst e; rw [h1] at h; cases h)]; exact h
                    · rw [upd_ne (fun e : a = l => by subst e; rw [h1] at h; cases h)]; exact h
                  exact RFs.of ((RFs.stay S _ _ r1).all.append (RFs.stay S _ _ rb).all)
                obtain ⟨M3, S3⟩ := Mv.slot M.rel g3 s rfl (e' := .lst (ds ++ es)) rfl ⟨l, _, rfl, nf, upd_same, rn⟩
                exact ⟨l, b, vs, ws, rfl, rfl, h1, hb, by rw [← r1.length, ← rb.length]; exact lim_line hl, q _ _ Fz1 (M.trans M3) (Out.data (by simp only [RF]))⟩
              · cases hf
            | _ => cases hf
    | _ => cases hf
theorem se_pop (G : GoodE X K F) {i : Nat} {o : Expr} (ho : NmAt X i o) {apos cpos : Pos} (hline : (apos.endLine == cpos.line) = true) : SE X K (evPop i) (.Call (.Attribute o "pop" apos) [] [] cpos) := by
  refine se_mk G pl_call (fun _ _ => rfl) ⟨_, pe_bm0 PySem.F.plainAttrs_list PySem.F.slot_list_pop PySem.F.type_list_pop mt_pop ho.pe (ho.ab _) hline, fun Fz ρ σ H r ρ' Q hf R q => ?_⟩
  dsimp only at hf
  cases g : get ρ i with
  | none => rw [g] at hf; cases hf
  | some e0 =>
    rw [g] at hf
    cases e0 with
    | lst ds =>
      dsimp only at hf
      cases g1 : ds[ds.length - 1]? with
      | none => rw [g1] at hf; cases hf
      | some d =>
        rw [g1] at hf
        cases hf
        obtain ⟨l, vs, s, nf, h1, r1⟩ := R.lst g
        obtain ⟨v, e2, rf⟩ := r1.all.at g1
        rw [r1.length] at e2
        have S : Stay K Fz H Fz (upd H l (.lst vs.dropLast)) := by
          refine ⟨fun _ h => h, fun a ws f h => ?_, fun a ws h => ?_, fun a ob w h => ?_⟩
          · rw [upd_ne (fun e : a = l => nf (e ▸ f))]; exact h
          · rw [upd_ne (fun e : a = l => by subst e; rw [h1] at h; cases h)]; exact h
          · rw [upd_ne (fun e : a = l => by subst e; rw [h1] at h; cases h)]; exact h
        have rn : RFs K Fz (upd H l (.lst vs.dropLast)) ds.dropLast vs.dropLast := by
          rw [List.dropLast_eq_take, List.dropLast_eq_take, r1.length]
          have := (RFs.stay S _ _ r1).all.take (vs.length - 1)
          rw [List.dropLast_eq_take] at this
          exact RFs.of this
        obtain ⟨M3, S3⟩ := Mv.slot R g s rfl (e' := .lst ds.dropLast) rfl ⟨l, _, rfl, nf, upd_same, rn⟩
        exact ⟨.ref l, s, .inl ⟨rfl, vs, .inl (.inl h1)⟩, l, vs, v, rfl, rfl, h1, e2, q _ _ Fz M3 (Out.data (RF.stay S _ _ rf))⟩
    | _ => cases hf
theorem se_popAt (G : GoodE X K F) {i : Nat} {o : Expr} (ho : NmAt X i o) {ea : Ev} {a : Expr} {apos cpos : Pos} (hline : (apos.endLine == cpos.line) = true) (ha : SE X K ea a) : SE X K (evPopAt i ea) (.Call (.Attribute o "pop" apos) [a] [] cpos) := by
  obtain ⟨t, p, ok⟩ := ha.val
  refine se_mk G pl_call (fun _ _ => rfl) ⟨_, pe_bm PySem.F.plainAttrs_list PySem.F.slot_list_pop PySem.F.type_list_pop mt_popAt ho.pe (pa_cons p pa_nil (ha.pn.ns _ _)) (ho.ab _) (by rw [ha.pn.ns]; rfl) hline (ha.pn.ns _ _) rfl, fun Fz ρ σ H r ρ' Q hf R q => ?_⟩
  dsimp only at hf
  cases g : get ρ i with
  | none => rw [g] at hf; cases hf
  | some e0 =>
    rw [g] at hf
    cases e0 with
    | lst ds0 =>
      dsimp only at hf
      obtain ⟨l, vs0, s, nf0, h0, r0⟩ := R.lst g
      refine ⟨.ref l, s, .inl ⟨rfl, vs0, .inl (.inl h0)⟩, ?_⟩
      split at hf
      · rename_i k ρ1 g1
        cases g3 : get ρ1 i with
        | none => rw [g3] at hf; cases hf
        | some e1 =>
          rw [g3] at hf
          cases e1 with
          | lst ds =>
            dsimp only at hf
            cases g4 : ixN ds.length k with
            | none => rw [g4] at hf; cases hf
            | some j =>
              rw [g4] at hf
              dsimp only at hf
              cases g5 : ds[j]? with
              | none => rw [g5] at hf; cases hf
              | some d =>
                rw [g5] at hf
                dsimp only at hf
                split at hf
                · rename_i hb
                  cases hf
                  have hb := inB_iff.mp hb
                  refine ok Fz ρ σ H _ ρ1 _ g1 R fun v H1 Fz1 M O => ?_
                  have ev := O.re.int
                  subst ev
                  obtain ⟨l', vs, s', nf, h1, r1⟩ := M.rel.lst g3
                  rw [s] at s'; cases s'
                  obtain ⟨v, e2, rf⟩ := r1.all.at g5
                  have S : Stay K Fz1 H1 Fz1 (upd H1 l (.lst (vs.eraseIdx j))) := by
                    refine ⟨fun _ h => h, fun a ws f h => ?_, fun a ws h => ?_, fun a ob w h => ?_⟩
                    · rw [upd_ne (fun e : a = l => nf (e ▸ f))]; exact h
                    · rw [upd_ne (fun e : a = l => by subst e; rw [h1] at h; cases h)]; exact h
                    · rw [upd_ne (fun e : a = l => by subst e; rw [h1] at h; cases h)]; exact h
                  have rn : RFs K Fz1 (upd H1 l (.lst (vs.eraseIdx j))) (ds.eraseIdx j) (vs.eraseIdx j) := RFs.of ((RFs.stay S _ _ r1).all.erase j)
                  obtain ⟨M3, S3⟩ := Mv.slot M.rel g3 s rfl (e' := .lst (ds.eraseIdx j)) rfl ⟨l, _, rfl, nf, upd_same, rn⟩
                  rw [r1.length] at g4
                  exact ⟨l, vs, k, j, v, rfl, rfl, h1, by omega, by omega, (ixN_seq g4).1, e2, q _ _ Fz1 (M.trans M3) (Out.data (RF.stay S _ _ rf))⟩
                · cases hf
          | _ => cases hf
      · cases hf
    | _ => cases hf

/-! ### what is walked -/
/-- the turns of J give the items ds, in any state to come -/
def WalkOk (K : Cst) (Fz : Addr → Prop) (H : Hp) (J : It) (ds : List D) : Prop :=
  ∀ Fz' H', Stay K Fz H Fz' H' → (∀ a, Fz' a → ∃ ws, H' a = some (.lst ws)) → (∀ (i : Nat) (d : D), ds[i]? = some d → J.go i H' ∧ ∀ x H2, J.yld i H' x H2 → Res K Fz' H' (.val d) H2 x) ∧ ∀ i, ds.length ≤ i → J.stop i H'
def IterOk (K : Cst) (wi : TI) (f : Env → R (List D)) : Prop :=
  ∀ Fz ρ σ H ds ρ' (R : It → Hp → Prop), f ρ = some (ds, ρ') → Rel K Fz ρ σ H → (∀ J H' Fz', Mv K Fz ρ σ H Fz' ρ' σ H' → WalkOk K Fz' H' J ds → R J H') → wi σ H R
structure SI (X : Cx) (K : Cst) (f : Env → R (List D)) (tg it : Expr) : Prop where
  val : ∃ w, PI X tg it w ∧ IterOk K w f
  fs : ∀ env x, foldedSetIterable it env x = pure x
theorem Stay.lst' {a : Addr} {vs : List V} (S : Stay K Fz H Fz' H') (f : Fz a) (h : H a = some (.lst vs)) : H' a = some (.lst vs) := S.lst a vs f h
/-- a list or a tuple -/
theorem seq_walkL {P : PySem.W.Frag} {a : Addr} {vs : List V} {ds : List D} (f : Fz a) (h : H a = some (.lst vs)) (r : RFs K Fz H ds vs) : WalkOk K Fz H (Itl P a) ds := by
  intro Fz' H' S fz
  have h' := S.lst a vs f h
  have r' := RFs.stay S _ _ r
  refine ⟨fun i d e => ?_, fun i hi => ⟨vs, .inl (.inl h'), by rw [← r.length]; exact hi⟩⟩
  obtain ⟨v, e2, rf⟩ := r'.all.at e
  refine ⟨⟨vs, v, .inl (.inl h'), e2⟩, fun x H2 y => ?_⟩
  obtain ⟨e3, y⟩ := y
  subst e3
  have e4 := y vs (.inl (.inl h'))
  rw [e2] at e4
  cases e4
  exact .old rfl rf
theorem seq_walkT (G : GoodE X K F) {a : Addr} {vs : List V} {ds : List D} (h : TpA K H a vs) (r : RFs K Fz H ds vs) : WalkOk K Fz H (Itt X.K a) ds := by
  intro Fz' H' S fz
  have h' := (S.sqT h).sq G
  have r' := RFs.stay S _ _ r
  refine ⟨fun i d e => ?_, fun i hi => ⟨vs, h', by rw [← r.length]; exact hi⟩⟩
  obtain ⟨v, e2, rf⟩ := r'.all.at e
  refine ⟨⟨vs, v, h', e2⟩, fun x H2 y => ?_⟩
  obtain ⟨e3, y⟩ := y
  subst e3
  have e4 := y vs h'
  rw [e2] at e4
  cases e4
  exact .old rfl rf
theorem walk_rng {lo : Int} {n : Nat} : WalkOk K Fz H (Itr lo n) (rngL lo n) := by
  intro Fz' H' S fz
  refine ⟨fun i d e => ?_, fun i hi => by simp only [rngL, List.length_map, List.length_range] at hi; exact hi⟩
  have hi : i < n := by
    have := (List.getElem?_eq_some_iff.mp e).1
    simpa [rngL] using this
  have ed : d = .int (lo + i) := by
    simp only [rngL, List.getElem?_map, List.getElem?_range hi, Option.map_some, Option.some.injEq] at e
    exact e.symm
  subst ed
  refine ⟨hi, fun x H2 y => ?_⟩
  obtain ⟨e1, e2⟩ := y
  subst e1; subst e2
  exact Res.int
theorem walk_rngs {lo c : Int} {n : Nat} : WalkOk K Fz H (Itc lo c n) (rngLs lo c n) := by
  intro Fz' H' S fz
  refine ⟨fun i d e => ?_, fun i hi => by simp only [rngLs, List.length_map, List.length_range] at hi; exact hi⟩
  have hi : i < n := by
    have := (List.getElem?_eq_some_iff.mp e).1
    simpa [rngLs] using this
  have ed : d = .int (lo + i * c) := by
    simp only [rngLs, List.getElem?_map, List.getElem?_range hi, Option.map_some, Option.some.injEq] at e
    exact e.symm
  subst ed
  refine ⟨hi, fun x H2 y => ?_⟩
  obtain ⟨e1, e2⟩ := y
  subst e1; subst e2
  exact Res.int
/-- or: whichever of the two the value is -/
theorem pi_or {tg it : Expr} {w w' : TI} (h : PI X tg it w) (h' : PI X tg it w') : PI X tg it (fun σ H R => w σ H R ∨ w' σ H R) := by
  refine ⟨fun pins s σ H R I q => ?_⟩
  rcases q with q | q
  · exact h.run pins s σ H R I q
  · exact h'.run pins s σ H R I q
theorem si_rng (G : GoodE X K F) (hg : Gl X "range") {as : List Ev} {es : List Expr} {tg : Expr} {p pos : Pos} (h : SEs X K as es) (hl : es.length = 1 ∨ es.length = 2 ∨ es.length = 3) : SI X K (evRng as) tg (.Call (.Name "range" p) es [] pos) := by
  obtain ⟨ts, ps, ok⟩ := h.args
  have hm := G.bn "range" (by decide +kernel)
  refine ⟨?_, fun _ _ => rfl⟩
  have key : ∀ {w : TI}, PI X tg (.Call (.Name "range" p) es [] pos) w → (∀ Fz ρ σ H xs ρ' ds (R : It → Hp → Prop), args as ρ = some (xs, ρ') → rngSem xs = some ds → Rel K Fz ρ σ H → (∀ J H' Fz', Mv K Fz ρ σ H Fz' ρ' σ H' → WalkOk K Fz' H' J ds → R J H') → w σ H R) →
      ∃ w, PI X tg (.Call (.Name "range" p) es [] pos) w ∧ IterOk K w (evRng as) := fun {w} hw hk => by
    refine ⟨w, hw, fun Fz ρ σ H ds ρ' R' hf R q => ?_⟩
    unfold evRng at hf
    cases g : args as ρ with
    | none => rw [g] at hf; cases hf
    | some z =>
      obtain ⟨xs, ρ1⟩ := z
      rw [g] at hf
      dsimp only at hf
      cases g2 : rngSem xs with
      | none => rw [g2] at hf; cases hf
      | some es =>
        rw [g2] at hf
        cases hf
        exact hk Fz ρ σ H xs _ _ R' g g2 R q
  cases ps with
  | nil => simp at hl
  | cons n1 p1 ps =>
    cases ps with
    | nil =>
      refine key (pi_range1 hg hm (pa_cons p1 pa_nil (n1 _ _)) (n1 _ _)) fun Fz ρ σ H xs ρ' ds R' g g2 R q => ?_
      refine ok Fz ρ σ H xs ρ' (fun vs H1 => match vs with
        | [x] => ∃ j : Int, [x] = [.int j] ∧ -(2 ^ 62) ≤ j ∧ j < 2 ^ 62 ∧ R' (Itr 0 j.toNat) H1
        | _ => True) g R fun vs H1 Fz1 M re => ?_
      match vs, re with
      | [], _ => trivial
      | _ :: _ :: _, _ => trivial
      | [v], re =>
        cases re with
        | @cons x _ xs _ hx t =>
          cases t
          unfold rngSem at g2
          split at g2
          · rename_i j e
            cases e
            split at g2
            · rename_i c
              cases g2
              have c := inB_iff.mp c
              exact ⟨j, by rw [hx.int], c.1, c.2, q _ _ Fz1 M walk_rng⟩
            · cases g2
          · rename_i e; cases e
          · rename_i e; cases e
          · cases g2
    | cons n2 p2 ps =>
      cases ps with
      | nil =>
        refine key (pi_range2 hg hm (pa_cons p1 (pa_cons p2 pa_nil (n2 _ _)) (n1 _ _)) (by rw [n1, n2]; rfl) (n2 _ _)) fun Fz ρ σ H xs ρ' ds R' g g2 R q => ?_
        refine ok Fz ρ σ H xs ρ' (fun vs H1 => match vs with
          | [x, y] => ∃ i j : Int, [x, y] = [.int i, .int j] ∧ (-(2 ^ 62) ≤ i ∧ i < 2 ^ 62 ∧ -(2 ^ 62) ≤ j ∧ j < 2 ^ 62) ∧ R' (Itr i (j - i).toNat) H1
          | _ => True) g R fun vs H1 Fz1 M re => ?_
        match vs, re with
        | [], _ => trivial
        | [_], _ => trivial
        | _ :: _ :: _ :: _, _ => trivial
        | [v, w], re =>
          cases re with
          | @cons x _ xs _ hx t =>
            cases t with
            | @cons y _ ys _ hy t =>
              cases t
              unfold rngSem at g2
              split at g2
              · rename_i e; cases e
              · rename_i i j e
                cases e
                split at g2
                · rename_i c
                  cases g2
                  rw [Bool.and_eq_true] at c
                  have c1 := inB_iff.mp c.1
                  have c2 := inB_iff.mp c.2
                  exact ⟨i, j, by rw [hx.int, hy.int], ⟨c1.1, c1.2, c2.1, c2.2⟩, q _ _ Fz1 M walk_rng⟩
                · cases g2
              · rename_i e; cases e
              · cases g2
      | cons n3 p3 ps =>
        cases ps with
        | nil =>
          refine key (pi_range3 hg hm (pa_cons p1 (pa_cons p2 (pa_cons p3 pa_nil (n3 _ _)) (n2 _ _)) (n1 _ _)) (n1 _ _) (by rw [n2, n3]; rfl)) fun Fz ρ σ H xs ρ' ds R' g g2 R q => ?_
          refine ok Fz ρ σ H xs ρ' (fun vs H1 => match vs with
            | [x, y, z] => ∃ (i j c : Int) (n : Nat), [x, y, z] = [.int i, .int j, .int c] ∧ RgC i j c n ∧ R' (Itc i c n) H1
            | _ => True) g R fun vs H1 Fz1 M re => ?_
          match vs, re with
          | [], _ => trivial
          | [_], _ => trivial
          | [_, _], _ => trivial
          | _ :: _ :: _ :: _ :: _, _ => trivial
          | [v, w, u], re =>
            cases re with
            | @cons x _ xs _ hx t =>
              cases t with
              | @cons y _ ys _ hy t =>
                cases t with
                | @cons z _ zs _ hz t =>
                  cases t
                  unfold rngSem at g2
                  split at g2
                  · rename_i e; cases e
                  · rename_i e; cases e
                  · rename_i i j c e
                    cases e
                    split at g2
                    · rename_i k
                      cases g2
                      simp only [Bool.and_eq_true] at k
                      have c1 := inB_iff.mp k.1.1
                      have c2 := inB_iff.mp k.1.2
                      have c3 := of_decide_eq_true k.2
                      subst c3
                      exact ⟨i, j, -1, (i - j).toNat, by rw [hx.int, hy.int, hz.int], RgC.neg c1.1 c1.2 c2.1 c2.2, q _ _ Fz1 M walk_rngs⟩
                    · split at g2
                      · rename_i k
                        cases g2
                        exact ⟨i, j, c, _, by rw [hx.int, hy.int, hz.int], ⟨k.1, k.2.1, k.2.2.1, (Int.toNat_of_nonneg k.2.2.2).symm⟩, q _ _ Fz1 M walk_rngs⟩
                      · cases g2
                  · cases g2
        | cons _ _ _ => simp at hl
/-- a walk of a value -/
theorem si_seq (G : GoodE X K F) {ea : Ev} {a tg : Expr} (ha : SE X K ea a) (hs : ∀ env x, foldedSetIterable a env x = pure x) : SI X K (evSeq ea) tg a := by
  obtain ⟨t, p, ok⟩ := ha.val
  refine ⟨⟨_, pi_or (pi_list p) (pi_tup p), fun Fz ρ σ H ds ρ' R' hf R q => ?_⟩, hs⟩
  unfold evSeq at hf
  cases g : ea.e ρ with
  | none => rw [g] at hf; cases hf
  | some z =>
    obtain ⟨x, ρ1⟩ := z
    rw [g] at hf
    dsimp only at hf
    cases g2 : seqOf x with
    | none => rw [g2] at hf; cases hf
    | some es =>
      rw [g2] at hf
      cases hf
      cases x with
      | val d =>
        cases d with
        | list es =>
          cases g2
          refine .inl (ok Fz ρ σ H _ _ _ g R fun v H1 Fz1 M O => ?_)
          have := O.re
          simp only [RE, RF] at this
          obtain ⟨a, vs, e1, f, h, r⟩ := this
          refine ⟨a, e1, ⟨vs, .inl (.inl h)⟩, q _ _ Fz1 M (seq_walkL f h r)⟩
        | tuple es =>
          cases g2
          refine .inr (ok Fz ρ σ H _ _ _ g R fun v H1 Fz1 M O => ?_)
          obtain ⟨a, vs, e1, h, r⟩ := O.re.tup
          exact ⟨a, e1, ⟨vs, h.sq G⟩, q _ _ Fz1 M (seq_walkT G h r)⟩
        | _ => cases g2
      | lst es =>
        cases g2
        refine .inl (ok Fz ρ σ H _ _ _ g R fun v H1 Fz1 M O => ?_)
        obtain ⟨Fz2, M2, rf⟩ := O.frz M
        simp only [RF] at rf
        obtain ⟨a, vs, e1, f, h, r⟩ := rf
        exact ⟨a, e1, ⟨vs, .inl (.inl h)⟩, q _ _ Fz2 M2 (seq_walkL f h r)⟩
      | _ => cases g2
/-- list(range(..)) -/
theorem se_lrng (G : GoodE X K F) (hg : Gl X "range") (hl : Gl X "list") {as : List Ev} {es : List Expr} {p p2 pos pos2 : Pos} (h : SEs X K as es) (hlen : es.length = 1 ∨ es.length = 2) :
    SE X K (evLrng as) (.Call (.Name "list" p2) [.Call (.Name "range" p) es [] pos] [] pos2) := by
  obtain ⟨ts, ps, ok⟩ := h.args
  have hm := G.bn "range" (by decide +kernel)
  have hm2 := G.bn "list" (by decide +kernel)
  have rgv : ∀ i j : Int, rgV i j = (rngL i (j - i).toNat).map fun d => match d with | .int k => V.int k | _ => V.non := fun i j => by
    unfold rgV rngL
    rw [List.map_map]
    rfl
  have rgr : ∀ (Fz : Addr → Prop) (H : Hp) (i : Int) (n : Nat), RFs K Fz H (rngL i n) ((rngL i n).map fun d => match d with | .int k => V.int k | _ => V.non) := fun Fz H i n => by
    unfold rngL
    generalize List.range n = l
    induction l with
    | nil => simp only [List.map_nil, RFs]
    | cons a l ih => simp only [List.map_cons, RFs, RF]; exact ⟨_, _, rfl, rfl, ih⟩
  cases ps with
  | nil => simp at hlen
  | cons n1 p1 ps =>
    cases ps with
    | nil =>
      refine se_mk G pl_call (fun _ _ => rfl) ⟨_, pe_listRg G.calm hl hm2 (prg_1 hg hm p1 (n1 _ _)) rfl, fun Fz ρ σ H r ρ' Q hf R q => ?_⟩
      dsimp only [evRng] at hf
      cases g : MP.args as ρ with
      | none => rw [g] at hf; cases hf
      | some z =>
        obtain ⟨xs, ρ1⟩ := z
        rw [g] at hf
        dsimp only at hf
        cases g2 : rngSem xs with
        | none => rw [g2] at hf; cases hf
        | some ds =>
          rw [g2] at hf
          dsimp only at hf
          split at hf
          · rename_i hl
            cases hf
            refine ok Fz ρ σ H xs _ (fun vs H1 => match vs with
              | [x] => ∃ n, x = .int n ∧ RgOk 0 n ∧ ∀ q, H1 q = none → Q (.ref q) (upd H1 q (.lst (rgV 0 n)))
              | _ => True) g R fun vs H1 Fz1 M re => ?_
            match vs, re with
            | [], _ => trivial
            | _ :: _ :: _, _ => trivial
            | [v], re =>
              cases re with
              | @cons x _ xs _ hx t =>
                cases t
                unfold rngSem at g2
                split at g2
                · rename_i j e
                  cases e
                  split at g2
                  · rename_i c
                    cases g2
                    have c := inB_iff.mp c
                    simp only [rngL, List.length_map, List.length_range] at hl
                    refine ⟨j, hx.int, ⟨by decide, by decide, c.1, c.2, by rw [Int.sub_zero]; unfold LIM at hl; omega⟩, fun p n => ?_⟩
                    rw [rgv, Int.sub_zero]
                    obtain ⟨M2, O2⟩ := (Res.lst M.rel.fzH n (rgr Fz1 H1 0 j.toNat)).out M.rel
                    exact q _ _ Fz1 (M.trans M2) (O2.back M)
                  · cases g2
                · rename_i e; cases e
                · rename_i e; cases e
                · cases g2
          · cases hf
    | cons n2 p2 ps =>
      cases ps with
      | cons _ _ _ => simp at hlen
      | nil =>
        refine se_mk G pl_call (fun _ _ => rfl) ⟨_, pe_listRg G.calm hl hm2 (prg_2 hg hm p1 p2 (n1 _ _) (n2 _ _) (by rw [n2]; rfl)) rfl, fun Fz ρ σ H r ρ' Q hf R q => ?_⟩
        dsimp only [evRng] at hf
        cases g : MP.args as ρ with
        | none => rw [g] at hf; cases hf
        | some z =>
          obtain ⟨xs, ρ1⟩ := z
          rw [g] at hf
          dsimp only at hf
          cases g2 : rngSem xs with
          | none => rw [g2] at hf; cases hf
          | some ds =>
            rw [g2] at hf
            dsimp only at hf
            split at hf
            · rename_i hl
              cases hf
              refine ok Fz ρ σ H xs _ (fun vs H1 => match vs with
                | [x, y] => ∃ i j, x = .int i ∧ y = .int j ∧ RgOk i j ∧ ∀ q, H1 q = none → Q (.ref q) (upd H1 q (.lst (rgV i j)))
                | _ => True) g R fun vs H1 Fz1 M re => ?_
              match vs, re with
              | [], _ => trivial
              | [_], _ => trivial
              | _ :: _ :: _ :: _, _ => trivial
              | [v, w], re =>
                cases re with
                | @cons x _ xs _ hx t =>
                  cases t with
                  | @cons y _ ys _ hy t =>
                    cases t
                    unfold rngSem at g2
                    split at g2
                    · rename_i e; cases e
                    · rename_i i j e
                      cases e
                      split at g2
                      · rename_i c
                        cases g2
                        rw [Bool.and_eq_true] at c
                        have c1 := inB_iff.mp c.1
                        have c2 := inB_iff.mp c.2
                        simp only [rngL, List.length_map, List.length_range] at hl
                        refine ⟨i, j, hx.int, hy.int, ⟨c1.1, c1.2, c2.1, c2.2, by unfold LIM at hl; omega⟩, fun p n => ?_⟩
                        rw [rgv]
                        obtain ⟨M2, O2⟩ := (Res.lst M.rel.fzH n (rgr Fz1 H1 i (j - i).toNat)).out M.rel
                        exact q _ _ Fz1 (M.trans M2) (O2.back M)
                      · cases g2
                    · rename_i e; cases e
                    · cases g2
            · cases hf
end
end MP
set_option Elab.async false
set_option linter.all false
namespace MP
open PySem PySem.Spec PyProof.Rows L2
def isStar : Expr → Bool
  | .Starred .. => true
  | _ => false
def swF (sc : Scope) (line : Nat) : Expr → Option Str
  | .Name id pos => if sc.names.lookup id == some .local && pos.line == line then some id else none
  | _ => none
def swpN (sc : Scope) (line : Nat) (ts : List Expr) : List Str := ts.filterMap (swF sc line)
def swpC (sc : Scope) (ts vs : List Expr) : Option (Option (List Str)) :=
  if !(ts.length == 2 || ts.length == 3) || vs.length != ts.length then some none
  else if vs.any isStar then some none
  else
    if (swpN sc ((ts.head?.map (·.pos.line)).getD 0) ts).length != ts.length || (swpN sc ((ts.head?.map (·.pos.line)).getD 0) ts).eraseDups.length != (swpN sc ((ts.head?.map (·.pos.line)).getD 0) ts).length then some none
    else if vs.all (foldedForSure 8) then some none
    else if vs.all (constantsAlone 8) then none
    else some (some (swpN sc ((ts.head?.map (·.pos.line)).getD 0) ts))
theorem swp_ok {env : PySem.Env} {ts vs : List Expr} {k k2 : Nat} {p p2 : Pos} {r : Option (List Str)} (hk : env.scope.kind = .function) (h : swpC env.scope ts vs = some r) : swappedStores [.Tuple ts k p] (.Tuple vs k2 p2) env = pure r := by
  have bk : env.blockKind = .function := by
    unfold Env.blockKind
    rw [hk]
    rfl
  unfold swpC at h
  unfold swappedStores
  have e2 : ∀ q : Expr → Bool, (∀ x, q x = isStar x) → vs.any q = vs.any isStar := fun q h => by
    congr
    funext x
    exact h x
  have e3 : ∀ q : Expr → Option Str, (∀ x, q x = swF env.scope ((ts.head?.map (·.pos.line)).getD 0) x) → ts.filterMap q = swpN env.scope ((ts.head?.map (·.pos.line)).getD 0) ts := fun q h => by
    unfold swpN
    congr
    funext x
    exact h x
  simp only [bk, Env.kindOf, bne_self_eq_false, Bool.or_false]
  split at h
  · rename_i c
    cases h
    rw [if_pos c]
  · rename_i c
    rw [if_neg c]
    split at h
    · rename_i c2
      cases h
      split
      · rfl
      · rename_i z
        rw [e2 _ (fun x => by cases x <;> rfl)] at z
        exact absurd c2 z
    · rename_i c2
      split
      · rename_i z
        rw [e2 _ (fun x => by cases x <;> rfl)] at z
        exact absurd z c2
      · split at h
        · rename_i c3
          cases h
          refine if_pos ?_
          rw [e3 _ (fun x => by cases x <;> rfl)]
          exact c3
        · rename_i c3
          refine (if_neg ?_).trans ?_
          · rw [e3 _ (fun x => by cases x <;> rfl)]
            exact c3
          · split at h
            · rename_i c4
              cases h
              exact if_pos c4
            · rename_i c4
              refine (if_neg c4).trans ?_
              split at h
              · cases h
              · rename_i c5
                cases h
                refine (if_neg c5).trans ?_
                rw [e3 _ (fun x => by cases x <;> rfl)]
/-! MP12: targets, statements -/
section
variable {X : Cx} {K : Cst} {F : FT} {Fz Fz' : Addr → Prop} {ρ ρ' : Env} {σ σ' : Sl} {H H' : Hp}
/-- the slots that are never stored -/
def Keeps (ro : Nat → Bool) (σ σ' : Sl) : Prop := ∀ i, ro i = true → σ'[i]? = σ[i]?
theorem Keeps.refl {ro : Nat → Bool} : Keeps ro σ σ := fun _ _ => rfl
theorem Keeps.trans {ro : Nat → Bool} {σ2 : Sl} (a : Keeps ro σ σ') (b : Keeps ro σ' σ2) : Keeps ro σ σ2 := fun i h => (b i h).trans (a i h)
theorem Keeps.set {ro : Nat → Bool} {i : Nat} {v : Option V} (h : ro i = false) : Keeps ro σ (σ.set i v) := fun j hj => by
  rw [List.getElem?_set_ne (fun e : i = j => by subst e; rw [h] at hj; cases hj)]

/-- a slot gets a value that was held apart -/
theorem Mv.store {Fz0 : Addr → Prop} {ρ0 : Env} {σ0 : Sl} {H0 : Hp} (M : Mv K Fz0 ρ0 σ0 H0 Fz ρ σ H) {e : Ent} {v : V} (O : Out K ρ0 σ0 H0 Fz ρ σ H e v) (i : Nat) : Mv K Fz0 ρ0 σ0 H0 Fz (put ρ i (some e)) (σ.set i (some v)) H ∧
    ∀ a, Own (put ρ i (some e)) (σ.set i (some v)) a → OwnV e v a ∨ Own ρ σ a := by
  have R := M.rel
  have ow : ∀ a, Own (put ρ i (some e)) (σ.set i (some v)) a → OwnV e v a ∨ Own ρ σ a := fun a ⟨j, x, w, g, s, o⟩ => by
    rcases get_put g with ⟨rfl, q⟩ | ⟨hj, q⟩
    · cases q
      have hl : j < σ.length := by
        have := get_lt g
        rw [put_length, R.len] at this
        exact this
      rw [List.getElem?_set_self hl] at s
      cases s
      exact .inl o
    · rw [List.getElem?_set_ne (Ne.symm hj)] at s
      exact .inr ⟨j, x, w, q, s, o⟩
  refine ⟨⟨⟨by rw [put_length, List.length_set]; exact R.len, fun j x g => ?_, fun j k x y u w a g1 g2 s1 s2 o1 o2 => ?_, R.fzH⟩, M.fz, M.fzn, fun a z => ?_, M.frame⟩, ow⟩
  · rcases get_put g with ⟨rfl, q⟩ | ⟨hj, q⟩
    · cases q
      have hl : j < σ.length := by
        have := get_lt g
        rw [put_length, R.len] at this
        exact this
      exact ⟨v, List.getElem?_set_self hl, O.re⟩
    · obtain ⟨w, s, r⟩ := R.re j x q
      exact ⟨w, by rw [List.getElem?_set_ne (Ne.symm hj)]; exact s, r⟩
  · have hl : ∀ {j : Nat} {x : Ent}, get (put ρ i (some e)) j = some x → j < σ.length := fun {j x} g => by
      have := get_lt g
      rw [put_length, R.len] at this
      exact this
    rcases get_put g1 with ⟨rfl, q1⟩ | ⟨h1, q1⟩ <;> rcases get_put g2 with ⟨rfl, q2⟩ | ⟨h2, q2⟩
    · rfl
    · cases q1
      rw [List.getElem?_set_self (hl g1)] at s1
      cases s1
      rw [List.getElem?_set_ne (Ne.symm h2)] at s2
      exact absurd ⟨k, y, w, q2, s2, o2⟩ (O.no a o1)
    · cases q2
      rw [List.getElem?_set_self (hl g2)] at s2
      cases s2
      rw [List.getElem?_set_ne (Ne.symm h1)] at s1
      exact absurd ⟨j, x, u, q1, s1, o1⟩ (O.no a o2)
    · rw [List.getElem?_set_ne (Ne.symm h1)] at s1
      rw [List.getElem?_set_ne (Ne.symm h2)] at s2
      exact R.ap j k x y u w a q1 q2 s1 s2 o1 o2
  · rcases ow a z with z | z
    · exact O.new a z
    · exact M.own a z

/-! ### targets -/
def TgOk (K : Cst) (ro : Nat → Bool) (t : MT) (g : TG) : Prop :=
  ∀ (Fz0 : Addr → Prop) (ρ0 : Env) (σ0 : Sl) (H0 : Hp) (Fz : Addr → Prop) (ρ : Env) (σ : Sl) (H : Hp) (e : Ent) (v : V) (ρ' : Env) (Q : L2.St → Hp → Prop), asgT t e ρ = some ρ' → Mv K Fz0 ρ0 σ0 H0 Fz ρ σ H → Out K ρ0 σ0 H0 Fz ρ σ H e v →
    (∀ σ', Mv K Fz0 ρ0 σ0 H0 Fz ρ' σ' H → Keeps ro σ σ' → (∀ a, Own ρ' σ' a → OwnV e v a ∨ Own ρ σ a) → Q σ' H) → g v σ H Q
def TgsOk (K : Cst) (ro : Nat → Bool) (ts : List MT) (g : TGs) : Prop :=
  ∀ (Fz0 : Addr → Prop) (ρ0 : Env) (σ0 : Sl) (H0 : Hp) (Fz : Addr → Prop) (ρ : Env) (σ : Sl) (H : Hp) (ds : List D) (vs : List V) (ρ' : Env) (Q : L2.St → Hp → Prop), asgTs ts ds ρ = some ρ' → Mv K Fz0 ρ0 σ0 H0 Fz ρ σ H → RFs K Fz H ds vs →
    (∀ σ', Mv K Fz0 ρ0 σ0 H0 Fz ρ' σ' H → Keeps ro σ σ' → (∀ a, Own ρ' σ' a → Own ρ σ a) → Q σ' H) → g vs σ H Q
/-- the target is a name or a row of such -/
def NSt (e : Expr) : Prop := ∀ es env, assignEach (e :: es) env = (false, assign e env) :: assignEach es env
structure STg (X : Cx) (K : Cst) (ro : Nat → Bool) (t : MT) (e : Expr) : Prop where
  val : ∃ g, PG X e g ∧ TgOk K ro t g
  ns : NSt e
inductive STgs (X : Cx) (K : Cst) (ro : Nat → Bool) : List MT → List Expr → Prop
  | nil : STgs X K ro [] []
  | cons {t e ts es} : STg X K ro t e → STgs X K ro ts es → STgs X K ro (t :: ts) (e :: es)
theorem tg_nm (G : GoodE X K F) {i : Nat} {x : Str} {p : Pos} {ro : Nat → Bool} (hi : X.N[i]? = some x) (hx : Loc X.env.scope x) (hf : X.fn x = true ∨ X.env.scope.names.lookup x = some .local) (hr : ro i = false) : STg X K ro (.nm i) (.Name x p) := by
  refine ⟨⟨_, pg_name G.nd hi hx hf, fun Fz0 ρ0 σ0 H0 Fz ρ σ H e v ρ' Q h M O q => ?_⟩, fun _ _ => rfl⟩
  cases h
  exact q _ (M.store O i).1 (Keeps.set hr) (M.store O i).2
theorem STgs.ns : ∀ {ts : List MT} {es : List Expr} {ro : Nat → Bool}, STgs X K ro ts es → (assignEach es X.env).length = ts.length ∧ (assignEach es X.env).findIdx? (·.1) = none
  | _, _, _, .nil => ⟨rfl, rfl⟩
  | _, _, _, @STgs.cons _ _ _ t e ts es h r => by
    obtain ⟨h1, h2⟩ := STgs.ns r
    rw [h.ns]
    exact ⟨by simp [h1], by simp [List.findIdx?_cons, h2]⟩
theorem STgs.pgs : ∀ {ts : List MT} {es : List Expr} {ro : Nat → Bool}, STgs X K ro ts es → ∃ g, PGs X es g ∧ TgsOk K ro ts g
  | _, _, _, .nil => ⟨_, pgs_nil, fun Fz0 ρ0 σ0 H0 Fz ρ σ H ds vs ρ' Q h M r q => by
      cases ds with
      | nil =>
        cases h
        simp only [RFs] at r
        exact ⟨r, q σ M Keeps.refl fun _ h => h⟩
      | cons d ds => cases h⟩
  | _, _, _, @STgs.cons _ _ _ t e ts es h r => by
    obtain ⟨g, pg, ok⟩ := STgs.pgs r
    obtain ⟨g1, p1, ok1⟩ := h.val
    refine ⟨_, pgs_cons p1 pg (by rw [h.ns]; rfl), fun Fz0 ρ0 σ0 H0 Fz ρ σ H ds vs ρ' Q hh M r q => ?_⟩
    cases ds with
    | nil => cases hh
    | cons d ds =>
      simp only [asgTs] at hh
      simp only [RFs] at r
      obtain ⟨v, w, e1, rv, rw'⟩ := r
      cases g2 : asgT t (.val d) ρ with
      | none => rw [g2] at hh; cases hh
      | some ρ1 =>
        rw [g2] at hh
        refine ⟨v, w, e1, ok1 Fz0 ρ0 σ0 H0 Fz ρ σ H _ v ρ1 _ g2 M (Out.data rv) fun σ1 M1 k1 w1 => ?_⟩
        exact ok Fz0 ρ0 σ0 H0 Fz ρ1 σ1 H ds w ρ' Q hh M1 rw' fun σ2 M2 k2 w2 => q σ2 M2 (k1.trans k2) fun a z => (w1 a (w2 a z)).elim (fun z => False.elim z) id
theorem asgTs_len : ∀ {ts : List MT} {ds : List D} {ρ ρ' : Env}, asgTs ts ds ρ = some ρ' → ds.length = ts.length
  | [], [], ρ, ρ', h => rfl
  | [], _ :: _, ρ, ρ', h => by cases h
  | _ :: _, [], ρ, ρ', h => by cases h
  | t :: ts, d :: ds, ρ, ρ', h => by
    simp only [asgTs] at h
    cases g2 : asgT t (.val d) ρ with
    | none => rw [g2] at h; cases h
    | some ρ1 =>
      rw [g2] at h
      simp [asgTs_len (ts := ts) (ds := ds) h]
theorem tg_tup (G : GoodE X K F) {ts : List MT} {es : List Expr} {k : Nat} {p : Pos} {ro : Nat → Bool} (h : STgs X K ro ts es) : STg X K ro (.tup ts) (.Tuple es k p) := by
  obtain ⟨g, pg, ok⟩ := h.pgs
  obtain ⟨h1, h2⟩ := h.ns
  refine ⟨⟨_, pg_tup G.calm pg h1 h2, fun Fz0 ρ0 σ0 H0 Fz ρ σ H e v ρ' Q hh M O q => ?_⟩, fun _ _ => rfl⟩
  cases e with
  | val d =>
    cases d with
    | tuple ds =>
      obtain ⟨a, vs, e1, t, r⟩ := O.re.tup
      exact ⟨a, vs, e1, t.sq G, by rw [← r.length]; exact asgTs_len hh, ok Fz0 ρ0 σ0 H0 Fz ρ σ H ds vs ρ' Q hh M r fun σ' M' k' w' => q σ' M' k' fun a z => .inr (w' a z)⟩
    | _ => cases hh
  | _ => cases hh

/-! ### statements -/
def FlOk (K : Cst) (Fz : Addr → Prop) (ρ : Env) (σ : Sl) (H : Hp) (ro : Nat → Bool) (D : Ends) (ρ' : Env) : Fl → Prop
  | .nx => ∀ σ' H' Fz', Mv K Fz ρ σ H Fz' ρ' σ' H' → Keeps ro σ σ' → D.nx σ' H'
  | .brk => ∀ σ' H' Fz', Mv K Fz ρ σ H Fz' ρ' σ' H' → Keeps ro σ σ' → D.bk σ' H'
  | .ct => ∀ σ' H' Fz', Mv K Fz ρ σ H Fz' ρ' σ' H' → Keeps ro σ σ' → D.ct σ' H'
  | .ret e => ∀ v σ' H' Fz', Mv K Fz ρ σ H Fz' ρ' σ' H' → Keeps ro σ σ' → Out K ρ σ H Fz' ρ' σ' H' e v → D.rt v H'
def StOk (K : Cst) (ro : Nat → Bool) (t : TS) (f : Env → R Fl) : Prop :=
  ∀ Fz ρ σ H fl ρ' (D : Ends), f ρ = some (fl, ρ') → Rel K Fz ρ σ H → FlOk K Fz ρ σ H ro D ρ' fl → t D σ H
/-- from further on -/
theorem FlOk.on {ro : Nat → Bool} {D : Ends} {fl : Fl} {ρ1 ρ2 : Env} {σ1 : Sl} {H1 : Hp} {Fz1 : Addr → Prop} (M : Mv K Fz ρ σ H Fz1 ρ1 σ1 H1) (k : Keeps ro σ σ1) (h : FlOk K Fz ρ σ H ro D ρ2 fl) : FlOk K Fz1 ρ1 σ1 H1 ro D ρ2 fl := by
  cases fl with
  | nx => exact fun σ' H' Fz' M' k' => h σ' H' Fz' (M.trans M') (k.trans k')
  | brk => exact fun σ' H' Fz' M' k' => h σ' H' Fz' (M.trans M') (k.trans k')
  | ct => exact fun σ' H' Fz' M' k' => h σ' H' Fz' (M.trans M') (k.trans k')
  | ret e => exact fun v σ' H' Fz' M' k' O => h v σ' H' Fz' (M.trans M') (k.trans k') (O.back M)
def SS (X : Cx) (K : Cst) (ro : Nat → Bool) (f : Env → R Fl) (st : Stmt) : Prop := ∃ t, PS X st t ∧ StOk K ro t f
def SSs (X : Cx) (K : Cst) (ro : Nat → Bool) (f : Env → R Fl) (st : List Stmt) : Prop := ∃ t, PSs X st t ∧ StOk K ro t f
theorem ss_nil {ro : Nat → Bool} : SSs X K ro (fun ρ => some (.nx, ρ)) [] := ⟨_, pss_nil, fun Fz ρ σ H fl ρ' D hf R w => by
  cases hf
  exact w σ H Fz (Mv.refl R) Keeps.refl⟩
theorem ss_cons {ro : Nat → Bool} {f g : Env → R Fl} {st : Stmt} {r : List Stmt} (h1 : SS X K ro f st) (h2 : SSs X K ro g r) : SSs X K ro (sSeq f g) (st :: r) := by
  obtain ⟨t, p, ok⟩ := h1
  obtain ⟨u, p2, ok2⟩ := h2
  refine ⟨_, pss_cons p p2, fun Fz ρ σ H fl ρ' D hf R w => ?_⟩
  simp only [sSeq] at hf
  split at hf
  · rename_i ρ1 g1
    exact ok Fz ρ σ H .nx ρ1 _ g1 R fun σ1 H1 Fz1 M1 k1 => ok2 Fz1 ρ1 σ1 H1 fl ρ' D hf M1.rel (w.on M1 k1)
  · rename_i r nx
    refine ok Fz ρ σ H fl ρ' _ hf R ?_
    cases fl with
    | nx => exact absurd hf (nx ρ')
    | brk => exact w
    | ct => exact w
    | ret e => exact w
theorem ss_pass {ro : Nat → Bool} {pos : Pos} : SS X K ro (fun ρ => some (.nx, ρ)) (.Pass pos) := ⟨_, ps_pass, fun Fz ρ σ H fl ρ' D hf R w => by
  cases hf
  exact w σ H Fz (Mv.refl R) Keeps.refl⟩
theorem ss_brk {ro : Nat → Bool} {pos : Pos} : SS X K ro (fun ρ => some (.brk, ρ)) (.Break pos) := ⟨_, ps_break, fun Fz ρ σ H fl ρ' D hf R w => by
  cases hf
  exact w σ H Fz (Mv.refl R) Keeps.refl⟩
theorem ss_ct {ro : Nat → Bool} {pos : Pos} : SS X K ro (fun ρ => some (.ct, ρ)) (.Continue pos) := ⟨_, ps_continue, fun Fz ρ σ H fl ρ' D hf R w => by
  cases hf
  exact w σ H Fz (Mv.refl R) Keeps.refl⟩
theorem ss_retN {ro : Nat → Bool} {pos : Pos} : SS X K ro (fun ρ => some (.ret (.val .none), ρ)) (.Return none pos) := ⟨_, ps_retN, fun Fz ρ σ H fl ρ' D hf R w => by
  cases hf
  exact w _ σ H Fz (Mv.refl R) Keeps.refl (Out.data (by simp only [RF]))⟩
theorem ret_ok {ea : Ev} {a : Expr} (h : SE X K ea a) : ∃ t, PE X a t ∧ ValOk K t (evRet ea) := by
  cases e : ea.nm with
  | none =>
    obtain ⟨t, p, ok⟩ := h.val
    refine ⟨t, p, fun Fz ρ σ H r ρ' Q hf R q => ?_⟩
    simp only [evRet, e] at hf
    exact ok Fz ρ σ H r ρ' Q hf R q
  | some i =>
    refine ⟨_, h.nm i e, fun Fz ρ σ H r ρ' Q hf R q => ?_⟩
    simp only [evRet, e] at hf
    cases g : get ρ i with
    | none => rw [g] at hf; cases hf
    | some x =>
      rw [g] at hf
      obtain ⟨v, s, re⟩ := R.re i x g
      refine ⟨v, s, ?_⟩
      have dropM : Mv K Fz ρ σ H Fz (put ρ i none) σ H := ⟨R.drop i, fun _ h => h, fun _ h => .inl h, fun a z => by
        rcases Own.put z with ⟨e, w, q, _, _⟩ | z
        · cases q
        · exact .inl z, fun _ _ h _ => h⟩
      have own : isOwn x = true → some (x, put ρ i none) = some (r, ρ') → Q v H := fun ho hh => by
        cases hh
        refine q v H Fz dropM ⟨⟨re, fun a ow z => ?_⟩, fun a ow => .inl ⟨i, _, v, g, s, ow⟩⟩
        obtain ⟨j, y, w, g2, s2, o2⟩ := z
        rcases get_put g2 with ⟨_, q⟩ | ⟨hj, q⟩
        · cases q
        · exact hj (R.ap j i y _ w v a q g s2 s o2 ow)
      cases x with
      | val d => cases hf; exact q v H Fz (Mv.refl R) (Out.data re)
      | ro d => cases hf; exact q v H Fz (Mv.refl R) ⟨⟨re, fun _ o => False.elim o⟩, fun _ o => False.elim o⟩
      | lst d => exact own rfl hf
      | dct d => exact own rfl hf
      | dctT d => exact own rfl hf
theorem ss_ret {ro : Nat → Bool} {ea : Ev} {a : Expr} {pos : Pos} (h : SE X K ea a) : SS X K ro (sRet ea) (.Return (some a) pos) := by
  obtain ⟨t, p, ok⟩ := ret_ok h
  refine ⟨_, ps_ret p, fun Fz ρ σ H fl ρ' D hf R w => ?_⟩
  simp only [sRet] at hf
  cases g : evRet ea ρ with
  | none => rw [g] at hf; cases hf
  | some z =>
    obtain ⟨x, ρ1⟩ := z
    rw [g] at hf
    cases hf
    exact ok Fz ρ σ H x _ _ g R fun v H1 Fz1 M O => w v σ H1 Fz1 M Keeps.refl O
/-- no comprehension: nothing is swapped -/
def notComp : Expr → Bool
  | .ListComp .. => false
  | .SetComp .. => false
  | .DictComp .. => false
  | _ => true
theorem sw_no {e : Expr} (h : notComp e = true) (t : Option Expr) (l : Nat) (env : PySem.Env) : swapsWith e t l env = pure false := by
  cases e <;> first | rfl | cases h
theorem ss_ex {ro : Nat → Bool} {ea : Ev} {a : Expr} {pos : Pos} (h : SE X K ea a) (hn : notComp a = true) : SS X K ro (sEx ea) (.Expr a pos) := by
  obtain ⟨t, p, ok⟩ := h.val
  refine ⟨_, ps_expr p (sw_no hn _ _ _), fun Fz ρ σ H fl ρ' D hf R w => ?_⟩
  simp only [sEx] at hf
  cases g : ea.e ρ with
  | none => rw [g] at hf; cases hf
  | some z =>
    obtain ⟨x, ρ1⟩ := z
    rw [g] at hf
    cases hf
    exact ok Fz ρ σ H x _ _ g R fun v H1 Fz1 M O => w σ H1 Fz1 M Keeps.refl
theorem ss_if {ro : Nat → Bool} {ec : Ev} {c : Expr} {f g : Env → R Fl} {a b : List Stmt} {pos : Pos} (hc : SE X K ec c) (ha : SSs X K ro f a) (hb : SSs X K ro g b) : SS X K ro (sIf ec f g) (.If c a b pos) := by
  obtain ⟨tc, pc, okc⟩ := hc.tst
  obtain ⟨ta, pa, oka⟩ := ha
  obtain ⟨tb, pb, okb⟩ := hb
  refine ⟨_, ps_if pc pa pb, fun Fz ρ σ H fl ρ' D hf R w => ?_⟩
  simp only [sIf] at hf
  cases gc : ec.t ρ with
  | none => rw [gc] at hf; cases hf
  | some z =>
    obtain ⟨k, ρ1⟩ := z
    rw [gc] at hf
    refine okc Fz ρ σ H k ρ1 _ gc R fun H1 Fz1 M1 => ?_
    cases k with
    | true => rw [if_pos rfl]; exact oka Fz1 ρ1 σ H1 fl ρ' D hf M1.rel (w.on M1 Keeps.refl)
    | false => rw [if_neg Bool.false_ne_true]; exact okb Fz1 ρ1 σ H1 fl ρ' D hf M1.rel (w.on M1 Keeps.refl)

/-! ### while, for -/
theorem iterW_some {f : Env → Option (Env ⊕ (Fl × Env))} {ρ : Env} {r : Fl × Env} (h : iterW f ρ = some r) : ∃ n, iterN f n ρ = some r := by
  unfold iterW at h
  split at h
  · rename_i c
    exact ⟨_, h⟩
  · cases h
theorem ss_wh {ro : Nat → Bool} {ec : Ev} {c : Expr} {f : Env → R Fl} {b : List Stmt} {pos : Pos} (hp : PassesOwn (model X.prog X.w) X.A X.env X.xe) (hc : SE X K ec c) (hb : SSs X K ro f b) : SS X K ro (sWh ec f) (.While c b [] pos) := by
  obtain ⟨tc, pc, okc⟩ := hc.tst
  obtain ⟨tb, pb, okb⟩ := hb
  refine ⟨_, ps_while hp pc pb, fun Fz ρ σ H fl ρ' D hf R w => ?_⟩
  obtain ⟨n, hn⟩ := iterW_some hf
  refine ⟨fun m σ1 H1 => ∃ Fz1 ρ1, Mv K Fz ρ σ H Fz1 ρ1 σ1 H1 ∧ Keeps ro σ σ1 ∧ iterN (turnW ec.t f) m ρ1 = some (fl, ρ'), ⟨n, Fz, ρ, Mv.refl R, Keeps.refl, hn⟩, ?_⟩
  rintro m σ1 H1 ⟨Fz1, ρ1, M1, k1, hm⟩
  cases m with
  | zero => cases hm
  | succ m =>
    simp only [iterN] at hm
    cases g : turnW ec.t f ρ1 with
    | none => rw [g] at hm; cases hm
    | some z =>
      rw [g] at hm
      simp only [turnW] at g
      cases gc : ec.t ρ1 with
      | none => rw [gc] at g; cases g
      | some y =>
        obtain ⟨k, ρ2⟩ := y
        rw [gc] at g
        refine okc Fz1 ρ1 σ1 H1 k ρ2 _ gc M1.rel fun H2 Fz2 M2 => ?_
        have M12 := M1.trans M2
        cases k with
        | false =>
          dsimp only at g
          cases g
          cases hm
          rw [if_neg Bool.false_ne_true]
          exact w σ1 H2 Fz2 M12 k1
        | true =>
          rw [if_pos rfl]
          dsimp only at g
          refine ⟨fun σ3 H3 => ∃ Fz3 ρ3, Mv K Fz ρ σ H Fz3 ρ3 σ3 H3 ∧ Keeps ro σ σ3 ∧ iterN (turnW ec.t f) m ρ3 = some (fl, ρ'), fun σ3 H3 q => ⟨m, Nat.lt_succ_self _, q⟩, ?_⟩
          cases gb : f ρ2 with
          | none => rw [gb] at g; cases g
          | some y =>
            obtain ⟨fl2, ρ3⟩ := y
            rw [gb] at g
            refine okb Fz2 ρ2 σ1 H2 fl2 ρ3 _ gb M12.rel ?_
            cases fl2 with
            | nx =>
              cases g
              exact fun σ3 H3 Fz3 M3 k3 => ⟨Fz3, ρ3, M12.trans M3, k1.trans k3, hm⟩
            | ct =>
              cases g
              exact fun σ3 H3 Fz3 M3 k3 => ⟨Fz3, ρ3, M12.trans M3, k1.trans k3, hm⟩
            | brk =>
              cases g
              cases hm
              exact fun σ3 H3 Fz3 M3 k3 => w σ3 H3 Fz3 (M12.trans M3) (k1.trans k3)
            | ret e =>
              cases g
              cases hm
              exact fun v σ3 H3 Fz3 M3 k3 O => w v σ3 H3 Fz3 (M12.trans M3) (k1.trans k3) (O.back M12)
theorem ss_for (G : GoodE X K F) {ro : Nat → Bool} {t : MT} {tg it : Expr} {fi : Env → R (List D)} {f : Env → R Fl} {b : List Stmt} {pos : Pos} (hp : PassesOwn (model X.prog X.w) X.A X.env X.xe) (hi : SI X K fi tg it) (ht : STg X K ro t tg) (hb : SSs X K ro f b) :
    SS X K ro (sFor t fi f) (.For tg it b [] pos) := by
  obtain ⟨wi, pi, oki⟩ := hi.val
  obtain ⟨g, pg, okg⟩ := ht.val
  obtain ⟨tb, pb, okb⟩ := hb
  refine ⟨_, ps_for hp G.calm pi pg pb (hi.fs X.env), fun Fz ρ σ H fl ρ' D hf R w => ?_⟩
  simp only [sFor] at hf
  cases gi : fi ρ with
  | none => rw [gi] at hf; cases hf
  | some z =>
    obtain ⟨ds, ρ1⟩ := z
    rw [gi] at hf
    refine oki Fz ρ σ H ds ρ1 _ gi R fun J H1 Fz1 M1 wk => ?_
    have hf : runFor f t ds ρ1 = some (fl, ρ') := hf
    refine ⟨fun i m σ2 H2 => ∃ Fz2 ρ2, Mv K Fz1 ρ1 σ H1 Fz2 ρ2 σ2 H2 ∧ Keeps ro σ σ2 ∧ i ≤ ds.length ∧ m = ds.length - i ∧ runFor f t (ds.drop i) ρ2 = some (fl, ρ'), ⟨ds.length, Fz1, ρ1, Mv.refl M1.rel, Keeps.refl, Nat.zero_le _, by simp, by simpa using hf⟩, ?_⟩
    rintro i m σ2 H2 ⟨Fz2, ρ2, M2, k2, hi, hm, hr⟩
    have M12 := M1.trans M2
    obtain ⟨wg, ws⟩ := wk Fz2 H2 (M2.stay M1.rel) M2.rel.fzH
    by_cases hlt : i < ds.length
    · right
      have e : ds[i]? = some ds[i] := List.getElem?_eq_getElem hlt
      obtain ⟨go, yl⟩ := wg i _ e
      refine ⟨go, fun σ3 H3 => ∃ Fz3 ρ3, Mv K Fz1 ρ1 σ H1 Fz3 ρ3 σ3 H3 ∧ Keeps ro σ σ3 ∧ runFor f t (ds.drop (i + 1)) ρ3 = some (fl, ρ'), ?_, ?_⟩
      · rintro σ3 H3 ⟨Fz3, ρ3, M3, k3, h3⟩
        exact ⟨ds.length - (i + 1), by omega, Fz3, ρ3, M3, k3, hlt, rfl, h3⟩
      · intro x H3 y
        rw [List.drop_eq_getElem_cons hlt] at hr
        simp only [runFor] at hr
        obtain ⟨M3, O3⟩ := (yl x H3 y).out M2.rel
        have M23 := M2.trans M3
        have M123 := M1.trans M23
        cases gt : asgT t (.val ds[i]) ρ2 with
        | none => rw [gt] at hr; cases hr
        | some ρ3 =>
          rw [gt] at hr
          dsimp only at hr
          refine okg Fz1 ρ1 σ H1 Fz2 ρ2 σ2 H3 _ x ρ3 _ gt M23 (O3.back M2) fun σ4 M4 k4 _ => ?_
          cases gb : f ρ3 with
          | none => rw [gb] at hr; cases hr
          | some z =>
            obtain ⟨fl2, ρ4⟩ := z
            rw [gb] at hr
            refine okb Fz2 ρ3 σ4 H3 fl2 ρ4 _ gb M4.rel ?_
            have k24 := k2.trans k4
            cases fl2 with
            | nx => exact fun σ5 H5 Fz5 M5 k5 => ⟨Fz5, ρ4, M4.trans M5, k24.trans k5, hr⟩
            | ct => exact fun σ5 H5 Fz5 M5 k5 => ⟨Fz5, ρ4, M4.trans M5, k24.trans k5, hr⟩
            | brk =>
              cases hr
              exact fun σ5 H5 Fz5 M5 k5 => w σ5 H5 Fz5 ((M1.trans M4).trans M5) (k24.trans k5)
            | ret e =>
              cases hr
              exact fun v σ5 H5 Fz5 M5 k5 O => w v σ5 H5 Fz5 ((M1.trans M4).trans M5) (k24.trans k5) (O.back (M1.trans M4))
    · left
      have e : i = ds.length := by omega
      subst e
      rw [List.drop_length] at hr
      cases hr
      exact ⟨ws _ (Nat.le_refl _), w σ2 H2 Fz2 M12 k2⟩
end
end MP
set_option Elab.async false
set_option linter.all false
set_option maxRecDepth 100000
/-! MP13: comprehensions -/
namespace MP
open PySem PySem.Spec PyProof.Rows L2
section
variable {X : Cx} {K : Cst} {F : FT} {Fz Fz' : Addr → Prop} {ρ ρ' : Env} {σ σ' : Sl} {H H' : Hp}

/-! ### one reading for every block -/
theorem uni_val {ι : Type} (Y : ι → Cx) {e : Expr} {f : Env → R Ent} (h : ∀ i, ∃ t, PE (Y i) e t ∧ ValOk K t f) : ∃ t, (∀ i, PE (Y i) e t) ∧ ValOk K t f := by
  refine ⟨fun σ H Q => ∀ i, (h i).choose σ H Q, fun i => ⟨fun pins s σ H Q I q => (h i).choose_spec.1.run pins s σ H Q I (q i)⟩, fun Fz ρ σ H r ρ' Q hf R q i => ?_⟩
  exact (h i).choose_spec.2 Fz ρ σ H r ρ' Q hf R q
theorem uni_tst {ι : Type} (Y : ι → Cx) {es : List Expr} {f : Env → R Bool} (h : ∀ i, ∃ t, PTs (Y i) es t ∧ TstOk K t f) : ∃ t, (∀ i, PTs (Y i) es t) ∧ TstOk K t f := by
  refine ⟨fun σ H Q => ∀ i, (h i).choose σ H Q, fun i => ⟨fun pins s σ H Q I q => (h i).choose_spec.1.run pins s σ H Q I (q i)⟩, fun Fz ρ σ H r ρ' Q hf R q i => ?_⟩
  exact (h i).choose_spec.2 Fz ρ σ H r ρ' Q hf R q
theorem uni_tg {ι : Type} (Y : ι → Cx) {e : Expr} {t : MT} {ro : Nat → Bool} (h : ∀ i, ∃ g, PG (Y i) e g ∧ TgOk K ro t g) : ∃ g, (∀ i, PG (Y i) e g) ∧ TgOk K ro t g := by
  refine ⟨fun v σ H Q => ∀ i, (h i).choose v σ H Q, fun i => ⟨fun pins s σ H v u Q I r q => (h i).choose_spec.1.run pins s σ H v u Q I r (q i)⟩, fun Fz0 ρ0 σ0 H0 Fz ρ σ H e v ρ' Q hh M O q i => ?_⟩
  exact (h i).choose_spec.2 Fz0 ρ0 σ0 H0 Fz ρ σ H e v ρ' Q hh M O q

/-! ### slots of a block's own -/
theorem get_wipe {own : List Nat} : ∀ {ρ : Env} {i : Nat} {e : Ent}, get (wipeE ρ own) i = some e → get ρ i = some e ∧ i ∉ own := by
  induction own with
  | nil => intro ρ i e h; exact ⟨h, by simp⟩
  | cons j js ih =>
    intro ρ i e h
    rcases get_put h with ⟨_, q⟩ | ⟨hj, q⟩
    · cases q
    · obtain ⟨h1, h2⟩ := ih q
      exact ⟨h1, by simp [hj, h2]⟩
theorem get_wipe_of {own : List Nat} : ∀ {ρ : Env} {i : Nat}, i ∉ own → get (wipeE ρ own) i = get ρ i := by
  induction own with
  | nil => intro ρ i h; rfl
  | cons j js ih =>
    intro ρ i h
    simp only [List.mem_cons, not_or] at h
    show get (put (wipeE ρ js) j none) i = _
    rw [get_put_ne _ _ _ _ h.1]
    exact ih h.2
theorem wipeE_len {own : List Nat} : ∀ {ρ : Env}, (wipeE ρ own).length = ρ.length := by
  induction own with
  | nil => intro ρ; rfl
  | cons j js ih => intro ρ; show (put (wipeE ρ js) j none).length = _; rw [put_length, ih]
theorem backE_len {own : List Nat} {ρ0 : Env} : ∀ {ρ : Env}, (backE ρ0 ρ own).length = ρ.length := by
  induction own with
  | nil => intro ρ; rfl
  | cons j js ih => intro ρ; show (put (backE ρ0 ρ js) j (get ρ0 j)).length = _; rw [put_length, ih]
theorem get_back {own : List Nat} {ρ0 : Env} : ∀ {ρ : Env} {i : Nat} {e : Ent}, get (backE ρ0 ρ own) i = some e → (i ∈ own ∧ get ρ0 i = some e) ∨ (i ∉ own ∧ get ρ i = some e) := by
  induction own with
  | nil => intro ρ i e h; exact .inr ⟨by simp, h⟩
  | cons j js ih =>
    intro ρ i e h
    rcases get_put h with ⟨e1, q⟩ | ⟨hj, q⟩
    · subst e1; exact .inl ⟨List.mem_cons_self, q⟩
    · rcases ih q with ⟨h1, h2⟩ | ⟨h1, h2⟩
      · exact .inl ⟨List.mem_cons_of_mem _ h1, h2⟩
      · exact .inr ⟨by simp [hj, h1], h2⟩
theorem Own.wipe {own : List Nat} {a : Addr} (h : Own (wipeE ρ own) (L2.wipe σ own) a) : Own ρ σ a := by
  obtain ⟨i, e, v, g, s, o⟩ := h
  exact ⟨i, e, v, (get_wipe g).1, (wipe_some s).1, o⟩
theorem Rel.wipe (R : Rel K Fz ρ σ H) (own : List Nat) : Rel K Fz (wipeE ρ own) (L2.wipe σ own) H where
  len := by rw [wipeE_len, wipe_length]; exact R.len
  re := fun i e g => by
    obtain ⟨g1, g2⟩ := get_wipe g
    obtain ⟨v, s, r⟩ := R.re i e g1
    exact ⟨v, by rw [wipe_out g2]; exact s, r⟩
  ap := fun i j e e' v v' a g1 g2 s1 s2 o1 o2 => R.ap i j e e' v v' a (get_wipe g1).1 (get_wipe g2).1 (wipe_some s1).1 (wipe_some s2).1 o1 o2
  fzH := R.fzH
theorem Mv.wipe {Fz0 : Addr → Prop} {ρ0 : Env} {σ0 : Sl} {H0 : Hp} (M : Mv K Fz0 ρ0 σ0 H0 Fz ρ σ H) (own : List Nat) : Mv K Fz0 ρ0 σ0 H0 Fz (wipeE ρ own) (L2.wipe σ own) H :=
  ⟨M.rel.wipe own, M.fz, M.fzn, fun a h => M.own a h.wipe, M.frame⟩
/-- behind a block: its own slots as they were -/
theorem Mv.back {own : List Nat} {ρ1 ρ2 : Env} {H1 H2 : Hp} {Fz1 Fz2 : Addr → Prop} (R : Rel K Fz1 ρ1 σ H1) (M : Mv K Fz1 (wipeE ρ1 own) (L2.wipe σ own) H1 Fz2 (wipeE ρ2 own) (L2.wipe σ own) H2) (hl : ρ2.length = ρ1.length) :
    Mv K Fz1 ρ1 σ H1 Fz2 (backE ρ1 ρ2 own) σ H2 ∧ ∀ a, Own (backE ρ1 ρ2 own) σ a → Own (wipeE ρ2 own) (L2.wipe σ own) a ∨ Own ρ1 σ a := by
  have R1 := R.wipe own
  -- what the block's own slots hold is held apart from it
  have tmp : ∀ i e, i ∈ own → get ρ1 i = some e → ∃ v, σ[i]? = some (some v) ∧ Tmp K Fz2 (wipeE ρ2 own) (L2.wipe σ own) H2 e v := fun i e hi g => by
    obtain ⟨v, s, r⟩ := R.re i e g
    refine ⟨v, s, Tmp.move R1 M ⟨r, fun a o z => ?_⟩⟩
    obtain ⟨j, x, w, g2, s2, o2⟩ := z
    obtain ⟨g3, nj⟩ := get_wipe g2
    have := R.ap j i x e w v a g3 g (wipe_some s2).1 s o2 o
    subst this
    exact nj hi
  have out : ∀ i e, i ∉ own → get ρ2 i = some e → ∃ v, σ[i]? = some (some v) ∧ (L2.wipe σ own)[i]? = some (some v) ∧ RE K Fz2 H2 e v := fun i e hi g => by
    obtain ⟨v, s, r⟩ := M.rel.re i e (by rw [get_wipe_of hi]; exact g)
    exact ⟨v, (wipe_some s).1, s, r⟩
  have ow : ∀ a, Own (backE ρ1 ρ2 own) σ a → Own (wipeE ρ2 own) (L2.wipe σ own) a ∨ Own ρ1 σ a := fun a ⟨i, e, v, g, s, o⟩ => by
    rcases get_back g with ⟨hi, g1⟩ | ⟨hi, g1⟩
    · exact .inr ⟨i, e, v, g1, s, o⟩
    · exact .inl ⟨i, e, v, by rw [get_wipe_of hi]; exact g1, by rw [wipe_out hi]; exact s, o⟩
  refine ⟨⟨⟨by rw [backE_len, hl]; exact R.len, fun i e g => ?_, fun i j e e' v v' a g1 g2 s1 s2 o1 o2 => ?_, M.rel.fzH⟩, M.fz, fun a f => ?_, fun a z => ?_, fun b o h n => M.frame b o h fun z => n z.wipe⟩, ow⟩
  · rcases get_back g with ⟨hi, g1⟩ | ⟨hi, g1⟩
    · obtain ⟨v, s, t⟩ := tmp i e hi g1
      exact ⟨v, s, t.re⟩
    · obtain ⟨v, s, _, r⟩ := out i e hi g1
      exact ⟨v, s, r⟩
  · rcases get_back g1 with ⟨hi, q1⟩ | ⟨hi, q1⟩ <;> rcases get_back g2 with ⟨hj, q2⟩ | ⟨hj, q2⟩
    · exact R.ap i j e e' v v' a q1 q2 s1 s2 o1 o2
    · obtain ⟨w, s, t⟩ := tmp i e hi q1
      rw [s1] at s; cases s
      exact absurd ⟨j, e', v', by rw [get_wipe_of hj]; exact q2, by rw [wipe_out hj]; exact s2, o2⟩ (t.no a o1)
    · obtain ⟨w, s, t⟩ := tmp j e' hj q2
      rw [s2] at s; cases s
      exact absurd ⟨i, e, v, by rw [get_wipe_of hi]; exact q1, by rw [wipe_out hi]; exact s1, o1⟩ (t.no a o2)
    · exact M.rel.ap i j e e' v v' a (by rw [get_wipe_of hi]; exact q1) (by rw [get_wipe_of hj]; exact q2) (by rw [wipe_out hi]; exact s1) (by rw [wipe_out hj]; exact s2) o1 o2
  · rcases M.fzn a f with z | z | z
    · exact .inl z
    · exact .inr (.inl z.wipe)
    · exact .inr (.inr z)
  · rcases ow a z with z | z
    · rcases M.own a z with q | q
      · exact .inl q.wipe
      · exact .inr q
    · exact .inl z
/-- the slots that a block may not store -/
def roOf (own : List Nat) : Nat → Bool := fun i => !own.contains i
theorem wipe_keeps {own : List Nat} (hl : σ'.length = σ.length) (k : Keeps (roOf own) σ σ') : L2.wipe σ' own = L2.wipe σ own := by
  apply List.ext_getElem?
  intro i
  by_cases hi : i ∈ own
  · have no : ∀ τ : Sl, (L2.wipe τ own)[i]? = if i < τ.length then some none else none := fun τ => by
      cases e : (L2.wipe τ own)[i]? with
      | none =>
        have := List.getElem?_eq_none_iff.mp e
        rw [wipe_length] at this
        rw [if_neg (by omega)]
      | some o =>
        have hlt := (List.getElem?_eq_some_iff.mp e).1
        rw [wipe_length] at hlt
        rw [if_pos hlt]
        cases o with
        | none => rfl
        | some v => exact absurd hi (wipe_some e).2
    rw [no σ', no σ, hl]
  · rw [wipe_out hi, wipe_out hi]
    exact k i (by simp [roOf, hi])
theorem wipe_twice {own : List Nat} : L2.wipe (L2.wipe σ own) own = L2.wipe σ own := wipe_keeps (wipe_length σ own) fun j hj => by
  have : j ∉ own := by simpa [roOf] using hj
  exact wipe_out this
mutual
theorem asg_len : ∀ (t : MT) {e : Ent} {ρ ρ' : Env}, asgT t e ρ = some ρ' → ρ'.length = ρ.length
  | .nm i, e, ρ, ρ', h => by cases h; exact put_length ρ i _
  | .tup ts, e, ρ, ρ', h => by
    cases e with
    | val d =>
      cases d with
      | tuple ds => exact asgs_len ts h
      | _ => cases h
    | _ => cases h
theorem asgs_len : ∀ (ts : List MT) {ds : List D} {ρ ρ' : Env}, asgTs ts ds ρ = some ρ' → ρ'.length = ρ.length
  | [], ds, ρ, ρ', h => by
    cases ds with
    | nil => cases h; rfl
    | cons d ds => cases h
  | t :: ts, ds, ρ, ρ', h => by
    cases ds with
    | nil => cases h
    | cons d ds =>
      simp only [asgTs] at h
      cases g : asgT t (.val d) ρ with
      | none => rw [g] at h; cases h
      | some ρ1 =>
        rw [g] at h
        rw [asgs_len ts h, asg_len t g]
end

/-! ### [e for t in it if ..] -/
theorem runComp_len {ts : Env → R Bool} {el : Env → R Ent} {t : MT} {own : List Nat} (ht : ∀ ρ b ρ', ts ρ = some (b, ρ') → ρ'.length = ρ.length) (he : ∀ ρ b ρ', el ρ = some (b, ρ') → ρ'.length = ρ.length) :
    ∀ {ds : List D} {ρ ρ' : Env} {acc ys : List D}, runComp ts el t own ds ρ acc = some (ys, ρ') → ρ'.length = ρ.length := by
  intro ds
  induction ds with
  | nil => intro ρ ρ' acc ys h; cases h; rfl
  | cons d r ih =>
    intro ρ ρ' acc ys h
    simp only [runComp] at h
    cases g1 : asgT t (.val d) (wipeE ρ own) with
    | none => rw [g1] at h; cases h
    | some ρ1 =>
      rw [g1] at h
      dsimp only at h
      have l1 : ρ1.length = ρ.length := by rw [asg_len _ g1, wipeE_len]
      cases g2 : ts ρ1 with
      | none => rw [g2] at h; cases h
      | some z =>
        obtain ⟨b, ρ2⟩ := z
        rw [g2] at h
        have l2 := ht _ _ _ g2
        cases b with
        | false => rw [ih h, l2, l1]
        | true =>
          dsimp only at h
          cases g3 : el ρ2 with
          | none => rw [g3] at h; cases h
          | some z =>
            obtain ⟨x, ρ3⟩ := z
            rw [g3] at h
            dsimp only at h
            cases g4 : toD x with
            | none => rw [g4] at h; cases h
            | some y =>
              rw [g4] at h
              dsimp only at h
              split at h
              · rw [ih h, he _ _ _ g3, l2, l1]
              · cases h
theorem comp_ok {t : MT} {own : List Nat} {fi : Env → R (List D)} {ifs : List Ev} {ev : Ev} {wi : TI} {g : TG} {tt : TT} {te : TE} (oki : IterOk K wi fi) (okg : TgOk K (roOf own) t g) (okt : TstOk K tt (tAnds ifs)) (oke : ValOk K te ev.e) :
    ValOk K (tLc wi g tt te own) (evComp t fi ifs ev own).e := by
  intro Fz ρ σ H r ρ' Q hf R q
  simp only [evComp, evMk] at hf
  cases gi : fi ρ with
  | none => rw [gi] at hf; cases hf
  | some z =>
    obtain ⟨ds, ρ1⟩ := z
    rw [gi] at hf
    dsimp only at hf
    cases gr : runComp (tAnds ifs) ev.e t own ds ρ1 [] with
    | none => rw [gr] at hf; cases hf
    | some z =>
      obtain ⟨ys, ρ2⟩ := z
      rw [gr] at hf
      cases hf
      refine oki Fz ρ σ H ds ρ1 _ gi R fun J H1 Fz1 M1 wk => ?_
      intro D nD
      have R1 := M1.rel
      have Rw := R1.wipe own
      have nfD : ¬ Fz1 D := R1.nfz nD
      have noD : ¬ Own (wipeE ρ1 own) (L2.wipe σ own) D := Rw.nown nD
      -- the state ahead of turn i
      refine ⟨fun i m H2 => ∃ Fz2 ρi acc, Mv K Fz1 (wipeE ρ1 own) (L2.wipe σ own) H1 Fz2 (wipeE ρi own) (L2.wipe σ own) H2 ∧ Tmp K Fz2 (wipeE ρi own) (L2.wipe σ own) H2 (.lst acc) (.ref D) ∧ ρi.length = ρ1.length ∧
        i ≤ ds.length ∧ m = ds.length - i ∧ runComp (tAnds ifs) ev.e t own (ds.drop i) ρi acc = some (ys, ρ2), ?_, ?_⟩
      · obtain ⟨M0, O0⟩ := (Res.lst (ds := []) (vs := []) Rw.fzH nD (by simp only [RFs])).out Rw
        exact ⟨ds.length, Fz1, ρ1, [], M0, O0.toTmp, rfl, Nat.zero_le _, by simp, by simpa using gr⟩
      · rintro i m H2 ⟨Fz2, ρi, acc, M2, T2, hl, hi, hm, hr⟩
        obtain ⟨wg, ws⟩ := wk Fz2 H2 (M2.stay Rw) M2.rel.fzH
        by_cases hlt : i < ds.length
        · right
          have e : ds[i]? = some ds[i] := List.getElem?_eq_getElem hlt
          obtain ⟨go, yl⟩ := wg i _ e
          rw [List.drop_eq_getElem_cons hlt] at hr
          simp only [runComp] at hr
          refine ⟨go, fun H3 => ∃ Fz3 ρi acc, Mv K Fz1 (wipeE ρ1 own) (L2.wipe σ own) H1 Fz3 (wipeE ρi own) (L2.wipe σ own) H3 ∧ Tmp K Fz3 (wipeE ρi own) (L2.wipe σ own) H3 (.lst acc) (.ref D) ∧ ρi.length = ρ1.length ∧
            runComp (tAnds ifs) ev.e t own (ds.drop (i + 1)) ρi acc = some (ys, ρ2), ?_, fun x H3 y => ?_⟩
          · rintro H3 ⟨Fz3, ρi3, acc3, M3, T3, hl3, h3⟩
            exact ⟨ds.length - (i + 1), by omega, Fz3, ρi3, acc3, M3, T3, hl3, hlt, rfl, h3⟩
          · obtain ⟨M3, O3⟩ := (yl x H3 y).out M2.rel
            have T3 := Tmp.move M2.rel M3 T2
            have M23 := M2.trans M3
            cases gt : asgT t (.val ds[i]) (wipeE ρi own) with
            | none => rw [gt] at hr; cases hr
            | some ρt =>
              rw [gt] at hr
              dsimp only at hr
              -- the move from the turn's start, so that the list made so far is seen to be apart
              refine okg Fz2 (wipeE ρi own) (L2.wipe σ own) H2 Fz2 (wipeE ρi own) (L2.wipe σ own) H3 _ x ρt _ gt M3 O3 fun σ4 M4 k4 _ => ?_
              have T4 := Tmp.move M2.rel M4 T2
              have l4 : σ4.length = σ.length := by
                rw [← M4.rel.len, asg_len _ gt, wipeE_len, hl, R1.len]
              have ew : L2.wipe σ4 own = L2.wipe σ own := (wipe_keeps (l4.trans (wipe_length σ own).symm) k4).trans wipe_twice
              refine ⟨ew, ?_⟩
              have M24 := M2.trans M4
              cases g5 : tAnds ifs ρt with
              | none => rw [g5] at hr; cases hr
              | some z =>
                obtain ⟨b, ρ5⟩ := z
                rw [g5] at hr
                refine okt Fz2 ρt σ4 H3 b ρ5 _ g5 M4.rel fun H5 Fz5 M5 => ?_
                have T5 := Tmp.move M4.rel M5 T4
                have M25 := M24.trans M5
                have l5 : ρ5.length = ρ1.length := by rw [M5.rel.len, l4, R1.len]
                cases b with
                | false =>
                  rw [if_neg Bool.false_ne_true]
                  have M6 := M25.wipe own
                  rw [ew] at M6
                  refine ⟨Fz5, ρ5, acc, M6, ⟨T5.re, fun a o z => T5.no a o ?_⟩, l5, hr⟩
                  rw [← ew] at z
                  exact z.wipe
                | true =>
                  rw [if_pos rfl]
                  dsimp only at hr
                  cases g6 : ev.e ρ5 with
                  | none => rw [g6] at hr; cases hr
                  | some z =>
                    obtain ⟨x6, ρ6⟩ := z
                    rw [g6] at hr
                    dsimp only at hr
                    cases g7 : toD x6 with
                    | none => rw [g7] at hr; cases hr
                    | some d7 =>
                      rw [g7] at hr
                      dsimp only at hr
                      split at hr
                      · rename_i hlim
                        refine oke Fz5 ρ5 σ4 H5 x6 ρ6 _ g6 M5.rel fun v6 H6 Fz6 M6 O6 => ?_
                        obtain ⟨Fz7, M7, rf⟩ := O6.toD M6 g7
                        have T7 := Tmp.move M5.rel M7 T5
                        have M27 := M25.trans M7
                        obtain ⟨D', accV, eD, nfD', hD, rD⟩ := T7.re
                        cases eD
                        have l6 : ρ6.length = ρ1.length := by rw [M7.rel.len, l4, R1.len]
                        obtain ⟨M8, S8⟩ := M27.poke (o := .lst (accV ++ [v6])) nD (T7.no D rfl) nfD' hD trivial
                        refine ⟨accV, hD, by rw [← rD.length]; exact lim_lt hlim, ?_⟩
                        have M9 := M8.wipe own
                        rw [ew] at M9
                        refine ⟨Fz7, ρ6, acc ++ [d7], M9, ⟨⟨D, _, rfl, nfD', upd_same, RFs.of ((RFs.stay S8 _ _ rD).all.append (.cons (RF.stay S8 _ _ rf) .nil))⟩, fun a o z => T7.no a o ?_⟩, l6, hr⟩
                        rw [← ew] at z
                        exact z.wipe
                      · cases hr
        · left
          have e : i = ds.length := by omega
          subst e
          rw [List.drop_length] at hr
          cases hr
          obtain ⟨M5, ow⟩ := Mv.back R1 M2 hl
          refine ⟨ws _ (Nat.le_refl _), q _ H2 Fz2 (M1.trans M5) (Out.back M1 ⟨⟨T2.re, fun a o z => ?_⟩, fun a o => ?_⟩)⟩
          · have e : V.ref D = .ref a := o
            cases e
            rcases ow D z with z | z
            · exact T2.no D rfl z
            · exact R1.nown nD z
          · have e : V.ref D = .ref a := o
            cases e
            exact .inr nD
end
end MP
set_option Elab.async false
set_option linter.all false
set_option maxRecDepth 100000
/-! MP14: assignments -/
namespace MP
open PySem PySem.Spec PyProof.Rows L2
section
variable {X : Cx} {K : Cst} {F : FT} {Fz Fz' : Addr → Prop} {ρ ρ' : Env} {σ σ' : Sl} {H H' : Hp}

/-! ### comprehensions as values, stored -/
/-- the parts of a comprehension in its block -/
structure BlkIn (X : Cx) (K : Cst) (scope : Scope) (own : List Nat) (t : MT) (ifs : List Ev) (ev : Ev) (tg elt : Expr) (cs : List Expr) : Prop where
  tg : ∀ (s : Shared) (H : Hp) (C : Addr) (cl : List (Str × Addr)) (fp : List Addr), STg (X.blk s H scope (compEnvC scope cl C X.env) fp) K (roOf own) t tg
  elt : ∀ (s : Shared) (H : Hp) (C : Addr) (cl : List (Str × Addr)) (fp : List Addr), SE (X.blk s H scope (compEnvC scope cl C X.env) fp) K ev elt
  ifs : ∀ (s : Shared) (H : Hp) (C : Addr) (cl : List (Str × Addr)) (fp : List Addr), SEs (X.blk s H scope (compEnvC scope cl C X.env) fp) K ifs cs
  few : cs.length ≤ 1
theorem BlkIn.parts {scope : Scope} {own : List Nat} {t : MT} {ifs : List Ev} {ev : Ev} {tg elt : Expr} {cs : List Expr} (B : BlkIn X K scope own t ifs ev tg elt cs) :
    ∃ g tt te, (∀ (s : Shared) (H : Hp) (C : Addr) (cl : List (Str × Addr)) (fp : List Addr), PG (X.blk s H scope (compEnvC scope cl C X.env) fp) tg g) ∧ (∀ (s : Shared) (H : Hp) (C : Addr) (cl : List (Str × Addr)) (fp : List Addr), PTs (X.blk s H scope (compEnvC scope cl C X.env) fp) cs tt) ∧
      (∀ (s : Shared) (H : Hp) (C : Addr) (cl : List (Str × Addr)) (fp : List Addr), PE (X.blk s H scope (compEnvC scope cl C X.env) fp) elt te) ∧ TgOk K (roOf own) t g ∧ TstOk K tt (tAnds ifs) ∧ ValOk K te ev.e := by
  obtain ⟨g, pg, okg⟩ := uni_tg (ι := Shared × Hp × Addr × List (Str × Addr) × List Addr) (fun z => X.blk z.1 z.2.1 scope (compEnvC scope z.2.2.2.1 z.2.2.1 X.env) z.2.2.2.2) (fun z => (B.tg z.1 z.2.1 z.2.2.1 z.2.2.2.1 z.2.2.2.2).val)
  obtain ⟨te, pe, oke⟩ := uni_val (ι := Shared × Hp × Addr × List (Str × Addr) × List Addr) (fun z => X.blk z.1 z.2.1 scope (compEnvC scope z.2.2.2.1 z.2.2.1 X.env) z.2.2.2.2) (fun z => (B.elt z.1 z.2.1 z.2.2.1 z.2.2.2.1 z.2.2.2.2).val)
  have tst : ∀ Y : Cx, SEs Y K ifs cs → ∃ t, PTs Y cs t ∧ TstOk K t (tAnds ifs) := fun Y h => by
    have hl := B.few
    cases h with
    | nil => exact ⟨_, pts_nil, fun Fz ρ σ H b ρ' Q hf R q => by cases hf; exact q H Fz (Mv.refl R)⟩
    | cons h t =>
      cases t with
      | nil =>
        obtain ⟨t, p, ok⟩ := h.tst
        exact ⟨_, pts_one p, fun Fz ρ σ H b ρ' Q hf R q => ok Fz ρ σ H b ρ' Q (tAnds_one ▸ hf) R q⟩
      | cons _ _ => simp at hl
  obtain ⟨tt, pt, okt⟩ := uni_tst (ι := Shared × Hp × Addr × List (Str × Addr) × List Addr) (fun z => X.blk z.1 z.2.1 scope (compEnvC scope z.2.2.2.1 z.2.2.1 X.env) z.2.2.2.2) (fun z => tst _ (B.ifs z.1 z.2.1 z.2.2.1 z.2.2.2.1 z.2.2.2.2))
  exact ⟨g, tt, te, fun s H C cl fp => pg (s, H, C, cl, fp), fun s H C cl fp => pt (s, H, C, cl, fp), fun s H C cl fp => pe (s, H, C, cl, fp), okg, okt, oke⟩
theorem se_comp (G : GoodE X K F) {scope : Scope} {own : List (Str × Nat)} {t : MT} {fi : Env → R (List D)} {ifs : List Ev} {ev : Ev} {tg it elt : Expr} {cs : List Expr} {pos : Pos} (hi : SI X K fi tg it) (bk : BlkOk X.N X.env.scope scope own) (B : BlkIn X K scope (own.map (·.2)) t ifs ev tg elt cs) :
    SE X K (evComp t fi ifs ev (own.map (·.2))) (.ListComp elt [⟨tg, it, cs, 0⟩] scope pos) := by
  obtain ⟨g, tt, te, pg, pt, pe, okg, okt, oke⟩ := B.parts
  obtain ⟨wi, pi, oki⟩ := hi.val
  exact se_mk G ⟨fun _ _ => rfl, fun _ => rfl, fun _ _ => rfl⟩ (fun _ _ => rfl) ⟨_, pe_lc G.calm G.nd pi bk pg pt pe (hi.fs X.env), comp_ok oki okg okt oke⟩
theorem asg_nm {ro : Nat → Bool} {i : Nat} (hr : ro i = false) {te : TE} {ea : Ev} (ok : ValOk K te ea.e) : StOk K ro (tAsg te (gName i)) (sAsg (.nm i) ea) := by
  intro Fz ρ σ H fl ρ' D hf R w
  simp only [sAsg] at hf
  cases g : ea.e ρ with
  | none => rw [g] at hf; cases hf
  | some z =>
    obtain ⟨x, ρ1⟩ := z
    rw [g] at hf
    cases hf
    exact ok Fz ρ σ H x ρ1 _ g R fun v H1 Fz1 M O => w _ H1 Fz1 (M.store O i).1 (Keeps.set hr)
theorem ss_set (G : GoodE X K F) {ro : Nat → Bool} {i : Nat} {x : Str} {p pos : Pos} (hi : X.N[i]? = some x) (hx : Loc X.env.scope x) (hf : X.fn x = true ∨ X.env.scope.names.lookup x = some .local) (hr : ro i = false) {ea : Ev} {a : Expr} (ha : SE X K ea a) (hn : notComp a = true) :
    SS X K ro (sAsg (.nm i) ea) (.Assign [.Name x p] a pos) := by
  obtain ⟨t, pe, ok⟩ := ha.val
  exact ⟨_, ps_set G.nd hi hx pe (sw_no hn _ _ _) hf, asg_nm hr ok⟩
theorem ss_setComp (G : GoodE X K F) {ro : Nat → Bool} {i : Nat} {x : Str} {p spos : Pos} (hi : X.N[i]? = some x) (hx : Loc X.env.scope x) (hf : X.fn x = true ∨ X.env.scope.names.lookup x = some .local) (hr : ro i = false)
    {scope : Scope} {own : List (Str × Nat)} {t : MT} {fi : Env → R (List D)} {ifs : List Ev} {ev : Ev} {tg it elt : Expr} {cs : List Expr} {pos : Pos} (hit : SI X K fi tg it) (bk : BlkOk X.N X.env.scope scope own) (B : BlkIn X K scope (own.map (·.2)) t ifs ev tg elt cs) :
    SS X K ro (sAsg (.nm i) (evComp t fi ifs ev (own.map (·.2)))) (.Assign [.Name x p] (.ListComp elt [⟨tg, it, cs, 0⟩] scope pos) spos) := by
  have sw : ∃ b, swapsWith (.ListComp elt [⟨tg, it, cs, 0⟩] scope pos) (some (.Name x p)) spos.line X.env = pure b ∧ (b = true → X.env.scope.names.lookup x = some .local) := by
    refine ⟨_, rfl, fun h => ?_⟩
    simp only [Bool.and_eq_true] at h
    exact (by simpa [Env.kindOf] using h.1.1.2)
  obtain ⟨b, e, hb⟩ := sw
  obtain ⟨g, tt, te, pg, pt, pe, okg, okt, oke⟩ := B.parts
  obtain ⟨wi, pi, oki⟩ := hit.val
  cases b with
  | true => exact ⟨_, ps_setLc G.calm G.nd hi (hb rfl) e pi bk pg pt pe (hit.fs X.env), asg_nm hr (comp_ok oki okg okt oke)⟩
  | false =>
    obtain ⟨t, pe, ok⟩ := (se_comp (pos := pos) G hit bk B).val
    exact ⟨_, ps_set G.nd hi hx pe e hf, asg_nm hr ok⟩

/-! ### (a, b) = e -/
def notTup : Expr → Bool
  | .Tuple .. => false
  | _ => true
theorem sws_no {t e : Expr} (h : notTup e = true) (env : PySem.Env) : swappedStores [t] e env = pure none := by
  cases e <;> first | (cases t <;> rfl) | cases h
theorem ss_asgT (G : GoodE X K F) {ro : Nat → Bool} {t : MT} {tg a : Expr} {ea : Ev} {pos : Pos} (ht : STg X K ro t tg) (ha : SE X K ea a) (hn : notComp a = true) (hn2 : notTup a = true) : SS X K ro (sAsg t ea) (.Assign [tg] a pos) := by
  obtain ⟨te, pe, ok⟩ := ha.val
  obtain ⟨g, pg, okg⟩ := ht.val
  refine ⟨_, ps_asg pe pg (sw_no hn _ _ _) (sws_no hn2 _) (by rw [ht.ns]; rfl), fun Fz ρ σ H fl ρ' D hf R w => ?_⟩
  simp only [sAsg] at hf
  cases g1 : ea.e ρ with
  | none => rw [g1] at hf; cases hf
  | some z =>
    obtain ⟨x, ρ1⟩ := z
    rw [g1] at hf
    dsimp only at hf
    cases g2 : asgT t x ρ1 with
    | none => rw [g2] at hf; cases hf
    | some ρ2 =>
      rw [g2] at hf
      cases hf
      exact ok Fz ρ σ H x ρ1 _ g1 R fun v H1 Fz1 M O => okg Fz ρ σ H Fz1 ρ1 σ H1 x v _ _ g2 M O fun σ' M' k' _ => w σ' H1 Fz1 M' k'

/-! ### a, b = e1, e2 -/
def OwnL : List Ent → List V → Addr → Prop
  | x :: xs, v :: vs, a => OwnV x v a ∨ OwnL xs vs a
  | _, _, _ => False
inductive Outs (K : Cst) (ρ0 : Env) (σ0 : Sl) (H0 : Hp) (Fz : Addr → Prop) (ρ : Env) (σ : Sl) (H : Hp) : List Ent → List V → Prop
  | nil : Outs K ρ0 σ0 H0 Fz ρ σ H [] []
  | cons {e v es vs} : Out K ρ0 σ0 H0 Fz ρ σ H e v → (∀ a, OwnV e v a → ¬ OwnL es vs a) → Outs K ρ0 σ0 H0 Fz ρ σ H es vs → Outs K ρ0 σ0 H0 Fz ρ σ H (e :: es) (v :: vs)
section
variable {ρ0 : Env} {σ0 : Sl} {H0 : Hp} {Fz0 : Addr → Prop}
theorem Out.move (R : Rel K Fz ρ σ H) (M : Mv K Fz ρ σ H Fz' ρ' σ' H') {e : Ent} {v : V} (O : Out K ρ0 σ0 H0 Fz ρ σ H e v) : Out K ρ0 σ0 H0 Fz' ρ' σ' H' e v := ⟨Tmp.move R M O.toTmp, O.new⟩
theorem Outs.move (R : Rel K Fz ρ σ H) (M : Mv K Fz ρ σ H Fz' ρ' σ' H') : ∀ {es : List Ent} {vs : List V}, Outs K ρ0 σ0 H0 Fz ρ σ H es vs → Outs K ρ0 σ0 H0 Fz' ρ' σ' H' es vs
  | _, _, .nil => .nil
  | _, _, .cons o a t => .cons (o.move R M) a (Outs.move R M t)
theorem Outs.back {Fz1 : Addr → Prop} {ρ1 : Env} {σ1 : Sl} {H1 : Hp} (M : Mv K Fz0 ρ0 σ0 H0 Fz1 ρ1 σ1 H1) : ∀ {es : List Ent} {vs : List V}, Outs K ρ1 σ1 H1 Fz ρ σ H es vs → Outs K ρ0 σ0 H0 Fz ρ σ H es vs
  | _, _, .nil => .nil
  | _, _, .cons o a t => .cons (o.back M) a (Outs.back M t)
theorem Outs.new : ∀ {es : List Ent} {vs : List V} {a : Addr}, Outs K ρ0 σ0 H0 Fz ρ σ H es vs → OwnL es vs a → Own ρ0 σ0 a ∨ H0 a = none
  | _, _, a, .nil, h => False.elim h
  | _, _, a, .cons o _ t, h => h.elim (o.new a) (Outs.new t)
theorem Outs.len : ∀ {es : List Ent} {vs : List V}, Outs K ρ0 σ0 H0 Fz ρ σ H es vs → es.length = vs.length
  | _, _, .nil => rfl
  | _, _, .cons _ _ t => by simp [Outs.len t]
/-- the others, behind a store of one of them -/
theorem Outs.stored {e : Ent} {v : V} (ow : ∀ a, Own ρ' σ' a → OwnV e v a ∨ Own ρ σ a) : ∀ {es : List Ent} {vs : List V}, (∀ a, OwnV e v a → ¬ OwnL es vs a) → Outs K ρ0 σ0 H0 Fz ρ σ H es vs → Outs K ρ0 σ0 H0 Fz ρ' σ' H es vs
  | _, _, _, .nil => .nil
  | _, _, ap, .cons o a t => .cons ⟨⟨o.re, fun b ob z => (ow b z).elim (fun q => ap b q (.inl ob)) (o.no b ob)⟩, o.new⟩ a (Outs.stored ow (fun b q z => ap b q (.inr z)) t)
end
def EntsOk (K : Cst) (ts : List TE) (f : Env → R (List Ent)) : Prop :=
  ∀ Fz ρ σ H xs ρ' (Q : List V → Hp → Prop), f ρ = some (xs, ρ') → Rel K Fz ρ σ H → (∀ vs H' Fz', Mv K Fz ρ σ H Fz' ρ' σ H' → Outs K ρ σ H Fz' ρ' σ H' xs vs → Q vs H') → tArgs ts σ H Q
theorem SEs.ents : ∀ {as : List Ev} {es : List Expr}, SEs X K as es → ∃ ts, PEs X es ts ∧ EntsOk K ts (MP.ents as)
  | _, _, .nil => ⟨[], .nil, fun Fz ρ σ H ps ρ' Q hf R q => by
      cases hf
      exact q [] H Fz (Mv.refl R) .nil⟩
  | _, _, @SEs.cons _ _ a e as es h t => by
    obtain ⟨ts, ps, ok⟩ := SEs.ents t
    obtain ⟨u, p, okh⟩ := h.val
    refine ⟨u :: ts, .cons h.pn.ns p ps, fun Fz ρ σ H qs ρ' Q hf R q => ?_⟩
    simp only [MP.ents] at hf
    cases g : a.e ρ with
    | none => rw [g] at hf; cases hf
    | some z =>
      obtain ⟨x, ρ1⟩ := z
      rw [g] at hf
      dsimp only at hf
      cases g2 : MP.ents as ρ1 with
      | none => rw [g2] at hf; cases hf
      | some z =>
        obtain ⟨ds, ρ2⟩ := z
        rw [g2] at hf
        cases hf
        refine okh Fz ρ σ H x ρ1 _ g R fun v H1 Fz1 M1 o1 => ?_
        refine ok Fz1 ρ1 σ H1 ds _ _ g2 M1.rel fun vs H2 Fz2 M2 o2 => ?_
        refine q (v :: vs) H2 Fz2 (M1.trans M2) (.cons (o1.move M1.rel M2) (fun a ow z => ?_) (o2.back M1))
        obtain ⟨nf, w, hw, _⟩ := o1.re.own ow
        rcases o2.new z with y | y
        · exact o1.no a ow y
        · rw [hw] at y; cases y
/-- several targets, each its value -/
def TgEsOk (K : Cst) (ro : Nat → Bool) (ts : List MT) (g : TGs) : Prop :=
  ∀ (Fz0 : Addr → Prop) (ρ0 : Env) (σ0 : Sl) (H0 : Hp) (Fz : Addr → Prop) (ρ : Env) (σ : Sl) (H : Hp) (es : List Ent) (vs : List V) (ρ' : Env) (Q : L2.St → Hp → Prop), asgEs ts es ρ = some ρ' → Mv K Fz0 ρ0 σ0 H0 Fz ρ σ H → Outs K ρ0 σ0 H0 Fz ρ σ H es vs →
    (∀ σ', Mv K Fz0 ρ0 σ0 H0 Fz ρ' σ' H → Keeps ro σ σ' → Q σ' H) → g vs σ H Q
theorem STgs.pgE : ∀ {ts : List MT} {es : List Expr} {ro : Nat → Bool}, STgs X K ro ts es → ∃ g, PGs X es g ∧ TgEsOk K ro ts g
  | _, _, _, .nil => ⟨_, pgs_nil, fun Fz0 ρ0 σ0 H0 Fz ρ σ H ds vs ρ' Q h M r q => by
      cases r with
      | nil =>
        cases h
        exact ⟨rfl, q σ M Keeps.refl⟩
      | cons _ _ _ => cases h⟩
  | _, _, _, @STgs.cons _ _ _ t e ts es h r => by
    obtain ⟨g, pg, ok⟩ := STgs.pgE r
    obtain ⟨g1, p1, ok1⟩ := h.val
    refine ⟨_, pgs_cons p1 pg (by rw [h.ns]; rfl), fun Fz0 ρ0 σ0 H0 Fz ρ σ H ds vs ρ' Q hh M r q => ?_⟩
    cases r with
    | nil => cases hh
    | @cons d v ds vs o ap rest =>
      simp only [asgEs] at hh
      cases g2 : asgT t d ρ with
      | none => rw [g2] at hh; cases hh
      | some ρ1 =>
        rw [g2] at hh
        refine ⟨v, vs, rfl, ok1 Fz0 ρ0 σ0 H0 Fz ρ σ H _ v ρ1 _ g2 M o fun σ1 M1 k1 w1 => ?_⟩
        exact ok Fz0 ρ0 σ0 H0 Fz ρ1 σ1 H ds vs ρ' Q hh M1 (rest.stored w1 ap) fun σ2 M2 k2 => q σ2 M2 (k1.trans k2)
theorem asgEs_len : ∀ {ts : List MT} {ds : List Ent} {ρ ρ' : Env}, asgEs ts ds ρ = some ρ' → ds.length = ts.length
  | [], [], ρ, ρ', h => rfl
  | [], _ :: _, ρ, ρ', h => by cases h
  | _ :: _, [], ρ, ρ', h => by cases h
  | t :: ts, d :: ds, ρ, ρ', h => by
    simp only [asgEs] at h
    cases g2 : asgT t d ρ with
    | none => rw [g2] at h; cases h
    | some ρ1 =>
      rw [g2] at h
      simp [asgEs_len (ts := ts) (ds := ds) h]
theorem sAsgs_some {ts : List MT} {as : List Ev} {fl : Fl} (hf : sAsgs ts as ρ = some (fl, ρ')) : ∃ xs ρ1, MP.ents as ρ = some (xs, ρ1) ∧ asgEs ts xs ρ1 = some ρ' ∧ fl = .nx := by
  simp only [sAsgs] at hf
  cases g : MP.ents as ρ with
  | none => rw [g] at hf; cases hf
  | some z =>
    obtain ⟨xs, ρ1⟩ := z
    rw [g] at hf
    dsimp only at hf
    cases g2 : asgEs ts xs ρ1 with
    | none => rw [g2] at hf; cases hf
    | some ρ2 =>
      rw [g2] at hf
      cases hf
      exact ⟨xs, ρ1, rfl, g2, rfl⟩
/-- by a tuple that is made and taken apart -/
theorem ss_asgsT (G : GoodE X K F) {ro : Nat → Bool} {ts : List MT} {tgs es : List Expr} {as : List Ev} {k k2 : Nat} {p p2 pos : Pos} (ht : STgs X K ro ts tgs) (ha : SEs X K as es) (hw : swappedStores [.Tuple tgs k p] (.Tuple es k2 p2) X.env = pure none) (hl : ts.length ≤ LIM) :
    SS X K ro (sAsgs ts as) (.Assign [.Tuple tgs k p] (.Tuple es k2 p2) pos) := by
  obtain ⟨te, ps, ok⟩ := ha.ents
  obtain ⟨g, pg, okg⟩ := ht.pgE
  obtain ⟨h1, h2⟩ := ht.ns
  refine ⟨_, ps_asg (pe_tup ps.pa) (pg_tup G.calm pg h1 h2) rfl hw rfl, fun Fz ρ σ H fl ρ' D hf R w => ?_⟩
  obtain ⟨xs, ρ1, g1, g2, rfl⟩ := sAsgs_some hf
  refine ok Fz ρ σ H xs ρ1 _ g1 R fun vs H1 Fz1 M O => ?_
  have hlen : vs.length = ts.length := by rw [← O.len]; exact asgEs_len g2
  refine ⟨by rw [hlen]; exact lim_line hl, fun q nq => ?_⟩
  have M2 := Mv.new (o := .tup vs) M.rel nq
  exact ⟨q, vs, rfl, .inl (.inl upd_same), hlen, okg Fz ρ σ H Fz1 ρ1 σ _ xs vs ρ' _ g2 (M.trans M2) (O.move M.rel M2) fun σ' M' k' => w σ' _ Fz1 M' k'⟩
/-- two local names at once -/
theorem ss_asgs2 (G : GoodE X K F) {ro : Nat → Bool} {i j : Nat} {x y : Str} {a b : Expr} {ea eb : Ev} {k k2 : Nat} {px py p p2 pos : Pos} (hi : X.N[i]? = some x) (hj : X.N[j]? = some y) (hij : i ≠ j) (hx : X.env.scope.names.lookup x = some .local) (hy : X.env.scope.names.lookup y = some .local)
    (ri : ro i = false) (rj : ro j = false) (ha : SEs X K [ea, eb] [a, b]) (hw : swappedStores [.Tuple [.Name x px, .Name y py] k p] (.Tuple [a, b] k2 p2) X.env = pure (some [x, y])) :
    SS X K ro (sAsgs [.nm i, .nm j] [ea, eb]) (.Assign [.Tuple [.Name x px, .Name y py] k p] (.Tuple [a, b] k2 p2) pos) := by
  obtain ⟨te, ps, ok⟩ := ha.ents
  refine ⟨_, ps_par G.calm G.nd hi hj hij hx hy ps.pa hw, fun Fz ρ σ H fl ρ' D hf R w => ?_⟩
  obtain ⟨xs, ρ1, g1, g2, rfl⟩ := sAsgs_some hf
  refine ok Fz ρ σ H xs ρ1 _ g1 R fun vs H1 Fz1 M O => ?_
  have hl := asgEs_len g2
  cases O with
  | nil => cases hl
  | cons o1 ap1 O =>
    cases O with
    | nil => cases hl
    | cons o2 ap2 O =>
      cases O with
      | cons _ _ _ => simp at hl
      | nil =>
        cases g2
        obtain ⟨M1, w1⟩ := M.store o1 i
        have O2 : Outs K ρ σ H Fz1 _ _ H1 _ _ := Outs.stored w1 ap1 (.cons o2 ap2 .nil)
        cases O2 with
        | cons o2 _ _ =>
          obtain ⟨M2, w2⟩ := M1.store o2 j
          exact ⟨_, _, rfl, w _ H1 Fz1 M2 ((Keeps.set ri).trans (Keeps.set rj))⟩
theorem ss_asgs3 (G : GoodE X K F) {ro : Nat → Bool} {i j l : Nat} {x y z : Str} {a b c : Expr} {ea eb ec : Ev} {k k2 : Nat} {px py pz p p2 pos : Pos} (hi : X.N[i]? = some x) (hj : X.N[j]? = some y) (hl : X.N[l]? = some z) (hij : i ≠ j) (hil : i ≠ l) (hjl : j ≠ l)
    (hx : X.env.scope.names.lookup x = some .local) (hy : X.env.scope.names.lookup y = some .local) (hz : X.env.scope.names.lookup z = some .local)
    (ri : ro i = false) (rj : ro j = false) (rl : ro l = false) (ha : SEs X K [ea, eb, ec] [a, b, c]) (hw : swappedStores [.Tuple [.Name x px, .Name y py, .Name z pz] k p] (.Tuple [a, b, c] k2 p2) X.env = pure (some [x, y, z])) :
    SS X K ro (sAsgs [.nm i, .nm j, .nm l] [ea, eb, ec]) (.Assign [.Tuple [.Name x px, .Name y py, .Name z pz] k p] (.Tuple [a, b, c] k2 p2) pos) := by
  obtain ⟨te, ps, ok⟩ := ha.ents
  refine ⟨_, ps_par3 G.calm G.nd hi hj hl hij hil hjl hx hy hz ps.pa hw, fun Fz ρ σ H fl ρ' D hf R w => ?_⟩
  obtain ⟨xs, ρ1, g1, g2, rfl⟩ := sAsgs_some hf
  refine ok Fz ρ σ H xs ρ1 _ g1 R fun vs H1 Fz1 M O => ?_
  have hl := asgEs_len g2
  cases O with
  | nil => cases hl
  | cons o1 ap1 O =>
    cases O with
    | nil => cases hl
    | cons o2 ap2 O =>
      cases O with
      | nil => cases hl
      | cons o3 ap3 O =>
        cases O with
        | cons _ _ _ => simp at hl
        | nil =>
          cases g2
          obtain ⟨M1, w1⟩ := M.store o1 i
          have O2 : Outs K ρ σ H Fz1 _ _ H1 _ _ := Outs.stored w1 ap1 (.cons o2 ap2 (.cons o3 ap3 .nil))
          cases O2 with
          | cons o2 ap2 O2 =>
            obtain ⟨M2, w2⟩ := M1.store o2 j
            have O3 := Outs.stored w2 ap2 O2
            cases O3 with
            | cons o3 _ _ =>
              obtain ⟨M3, w3⟩ := M2.store o3 l
              exact ⟨_, _, _, rfl, w _ H1 Fz1 M3 (((Keeps.set ri).trans (Keeps.set rj)).trans (Keeps.set rl))⟩
end
end MP
set_option Elab.async false
set_option linter.all false
set_option maxRecDepth 100000
/-! MP15: x[k] = e, x op= e, x[k] op= e -/
namespace MP
open PySem PySem.Spec PyProof.Rows L2
section
variable {X : Cx} {K : Cst} {F : FT} {Fz Fz' : Addr → Prop} {ρ ρ' : Env} {σ σ' : Sl} {H H' : Hp}
theorem set_dict (hu : X.A.units + 1 < cLine) : PSet X (fun o i v H Q => ∃ a H4, o = .ref a ∧ DPut H a i v H4 ∧ Q H4) := by
  intro pins s σ H o i v ov iv u Q I ro ri rv h
  obtain ⟨a, H4, rfl, g, q⟩ := h
  cases ro
  exact d_setItem hu I g ri rv fun s4 I4 => ⟨H4, I4, q⟩
theorem PSet.or {t t' : TSet} (h : PSet X t) (h' : PSet X t') : PSet X (fun o i v H Q => t o i v H Q ∨ t' o i v H Q) := by
  intro pins s σ H o i v ov iv u Q I ro ri rv q
  rcases q with q | q
  · exact h pins s σ H o i v ov iv u Q I ro ri rv q
  · exact h' pins s σ H o i v ov iv u Q I ro ri rv q
theorem get_dict (hu : X.A.units + 1 < cLine) : PGet X (fun o i H Q => ∃ a v, o = .ref a ∧ DGet H a i (some v) ∧ Q v H) := by
  intro pins s σ H o i ov iv Q I ro ri h
  obtain ⟨a, v, rfl, g, q⟩ := h
  cases ro
  exact d_getItem hu I g ri fun w' s3 I3 rw' => ⟨v, H, I3, rw', q⟩
theorem get_list : PGet X (rIxL X.K) := by
  intro pins s σ H o i ov iv Q I ro ri h
  obtain ⟨p, xs, k, z, rfl, rfl, hq, he, q⟩ := h
  cases ro
  obtain ⟨t, rfl⟩ := ri
  obtain ⟨its, r, pl, hz⟩ := I.list hq
  obtain ⟨j, h1, h2, h3, h4, h5⟩ := atI_get he
  obtain ⟨w, ew, rw'⟩ := r.get h2
  have hl := r.length
  have hn := line63
  have fin : EP X pins σ Q w s := ⟨z, H, I, rw', q⟩
  by_cases h0 : 0 ≤ k
  · have hj : k.toNat = j := by
      rw [seqIndex_of h0 h5] at h1
      exact Option.some.inj h1
    exact wpAny_getItem_list pl.isList h0 (by omega) (by rw [hj]; simpa using ew) fin
  · have hj : (k + (its.toArray.size : Int)).toNat = j := by
      rw [seqIndex_neg (by omega) h4] at h1
      rw [List.size_toArray, ← hl]
      exact Option.some.inj h1
    exact wpAny_getItem_list_neg pl.isList (by omega) (by rw [List.size_toArray] <;> omega) (by omega) (by rw [hj]; simpa using ew) fin
theorem PGet.or {t t' : V → V → Hp → VK → Prop} (h : PGet X t) (h' : PGet X t') : PGet X (fun o i H Q => t o i H Q ∨ t' o i H Q) := by
  intro pins s σ H o i ov iv Q I ro ri q
  rcases q with q | q
  · exact h pins s σ H o i ov iv Q I ro ri q
  · exact h' pins s σ H o i ov iv Q I ro ri q
theorem keys_put {κ : Type} [DecidableEq κ] {kvs : List (κ × D)} {us : List (κ × V)} {k : κ} {d : D} {v : V} (h : kRel K Fz H kvs us) (hd : RF K Fz H d v) : kRel K Fz H (putG kvs k d) (L2.putK us k v) := by
  obtain ⟨h1, h2⟩ := h
  have hany : (us.any fun kv => decide (kv.1 = k)) = (kvs.any fun kv => decide (kv.1 = k)) := by
    have e1 : (us.any fun kv => decide (kv.1 = k)) = (us.map (·.1)).any fun x => decide (x = k) := by rw [List.any_map]; rfl
    have e2 : (kvs.any fun kv => decide (kv.1 = k)) = (kvs.map (·.1)).any fun x => decide (x = k) := by rw [List.any_map]; rfl
    rw [e1, e2, h1]
  have gen : ∀ (kvs : List (κ × D)) (us : List (κ × V)), us.map (·.1) = kvs.map (·.1) → RFs K Fz H (kvs.map (·.2)) (us.map (·.2)) →
      kRel K Fz H (kvs.map fun kv => if kv.1 = k then (kv.1, d) else kv) (us.map fun kv => if kv.1 = k then (kv.1, v) else kv) := by
    intro kvs
    induction kvs with
    | nil =>
      intro us e r
      have : us = [] := by simpa using e
      subst this
      exact ⟨rfl, by simp only [List.map_nil, RFs]⟩
    | cons p kvs ih =>
      intro us e r
      cases us with
      | nil => simp at e
      | cons q us =>
        simp only [List.map_cons, List.cons.injEq] at e
        simp only [List.map_cons, RFs] at r
        obtain ⟨w, ws, ew, rw1, rw2⟩ := r
        cases ew
        obtain ⟨i1, i2⟩ := ih us e.2 rw2
        refine ⟨?_, ?_⟩
        · simp only [List.map_cons, i1, List.cons.injEq, and_true]
          rw [e.1]
          by_cases hk : p.1 = k
          · rw [if_pos hk, if_pos hk]
          · rw [if_neg hk, if_neg hk]; exact e.1
        · simp only [List.map_cons, RFs]
          refine ⟨_, _, rfl, ?_, i2⟩
          rw [e.1]
          by_cases hk : p.1 = k
          · rw [if_pos hk, if_pos hk]; exact hd
          · rw [if_neg hk, if_neg hk]; exact rw1
  unfold putG L2.putK
  rw [hany]
  split
  · exact gen kvs us h1 h2
  · refine ⟨by rw [List.map_append, List.map_append, h1]; rfl, ?_⟩
    rw [List.map_append, List.map_append]
    exact RFs.of (h2.all.append (.cons hd .nil))
theorem Rel.owned (R : Rel K Fz ρ σ H) {i : Nat} {e : Ent} (g : get ρ i = some e) (ho : isOwn e = true) : ∃ l, σ[i]? = some (some (.ref l)) ∧ RE K Fz H e (.ref l) ∧ OwnV e (.ref l) l := by
  obtain ⟨v, s, r⟩ := R.re i e g
  cases e with
  | val d => cases ho
  | ro d => cases ho
  | lst d => obtain ⟨a, vs, e1, _⟩ := id r; subst e1; exact ⟨a, s, r, rfl⟩
  | dct d => obtain ⟨a, vs, e1, _⟩ := id r; subst e1; exact ⟨a, s, r, rfl⟩
  | dctT d => obtain ⟨a, vs, e1, _⟩ := id r; subst e1; exact ⟨a, s, r, rfl⟩
theorem stay_at {l : Addr} {u o : HO} (nf : ¬ Fz l) (hl : H l = some u) (wu : Wr u) : Stay K Fz H Fz (upd H l o) := by
  refine ⟨fun _ h => h, fun a ws f h => ?_, fun a ws h => ?_, fun a ob w h => ?_⟩
  · rw [upd_ne (fun e : a = l => nf (e ▸ f))]; exact h
  · rw [upd_ne (fun e : a = l => by subst e; rw [hl] at h; cases h; exact wu)]; exact h
  · rw [upd_ne (fun e : a = l => by subst e; rw [hl] at h; cases h; exact wu)]; exact h
/-- o[k] = d upon a slot's own object -/
def rSetA : TSet := fun o i v H Q => rSetL o i v H Q ∨ ∃ a H4, o = .ref a ∧ DPut H a i v H4 ∧ Q H4
theorem set_fin (nc : ∀ a vs, ¬ K.t a vs) (R : Rel K Fz ρ σ H) {i : Nat} {o o' q : Ent} {d : D} {l : Addr} {kv dv : V} (g : get ρ i = some o) (s : σ[i]? = some (some (.ref l))) (hs : setSem o q d = some o') (hk : RE K Fz H q kv) (hd : RF K Fz H d dv) {Q : Hp → Prop}
    (w : ∀ H', Mv K Fz ρ σ H Fz (put ρ i (some o')) σ H' → Q H') : rSetA (.ref l) kv dv H Q := by
  have go : ∀ {u : HO} {ob : HO}, isOwn o = true → OwnV o' (.ref l) l → H l = some u → Wr u → (RE K Fz (upd H l ob) o' (.ref l)) → Q (upd H l ob) := fun {u ob} h1 h2 h3 h4 h5 => by
    obtain ⟨l', s', re, ow⟩ := R.owned g h1
    rw [s] at s'; cases s'
    exact w _ (Mv.slot R g s ow h2 h5).1
  cases o with
  | lst ds =>
    cases q with
    | val k =>
      cases k with
      | int k =>
        simp only [setSem] at hs
        cases gi : ixN ds.length k with
        | none => rw [gi] at hs; cases hs
        | some j =>
          rw [gi] at hs
          cases hs
          obtain ⟨l', vs, s', nf, h1, r1⟩ := R.lst g
          rw [s] at s'; cases s'
          refine .inl ⟨l, vs, k, j, rfl, hk.int, h1, by rw [← r1.length]; exact gi, ?_⟩
          have S := stay_at (K := K) (o := .lst (vs.set j dv)) nf h1 trivial
          exact go rfl rfl h1 trivial ⟨l, _, rfl, nf, upd_same, RFs.of ((RFs.stay S _ _ r1).all.set (RF.stay S _ _ hd) j)⟩
      | _ => cases hs
    | _ => cases hs
  | dct kvs =>
    cases q with
    | val k =>
      simp only [setSem] at hs
      cases gk : keyOf k with
      | none => rw [gk] at hs; cases hs
      | some key =>
        rw [gk] at hs
        dsimp only at hs
        split at hs
        · rename_i hl
          cases hs
          obtain ⟨v, s', a, us, e1, nf, h1, kr⟩ := R.re i _ g
          subst e1
          rw [s] at s'; cases s'
          have ek := RF.key hk gk
          subst ek
          have lu : us.length = kvs.length := by have := congrArg List.length kr.1; simpa using this
          refine .inr ⟨l, _, rfl, DPut.k h1 (by rw [lu]; exact lim_lt hl), ?_⟩
          have S := stay_at (K := K) (o := .dK (L2.putK us key dv)) nf h1 trivial
          exact go rfl rfl h1 trivial ⟨l, _, rfl, nf, upd_same, keys_put (kr.stay S) (RF.stay S _ _ hd)⟩
        · cases hs
    | _ => cases hs
  | dctT kvs =>
    cases q with
    | val k =>
      simp only [setSem] at hs
      cases gk : keyT k with
      | none => rw [gk] at hs; cases hs
      | some key =>
        rw [gk] at hs
        dsimp only at hs
        split at hs
        · rename_i hl
          cases hs
          obtain ⟨v, s', a, us, e1, nf, h1, kr⟩ := R.re i _ g
          subst e1
          rw [s] at s'; cases s'
          obtain ⟨b, ek, hb⟩ := hk.keyT nc gk
          subst ek
          have lu : us.length = kvs.length := by have := congrArg List.length kr.1; simpa using this
          refine .inr ⟨l, _, rfl, DPut.t h1 hb (by rw [lu]; exact lim_lt hl), ?_⟩
          have S := stay_at (K := K) (o := .dT (L2.putK us key dv)) nf h1 trivial
          exact go rfl rfl h1 trivial ⟨l, _, rfl, nf, upd_same, keys_put (kr.stay S) (RF.stay S _ _ hd)⟩
        · cases hs
    | _ => cases hs
  | val d => cases q <;> cases hs
  | ro d => cases q <;> cases hs
def notSlice : Expr → Bool
  | .Slice .. => false
  | _ => true
theorem asg_sub {o i : Expr} {pos : Pos} (h : notSlice i = true) (v : Value) : assign (.Subscript o i pos) X.env v = (do
      let ov ← holding [v] (eval o X.env)
      let iv ← holding [v, ov] (eval i X.env)
      standAt pos
      holding [v, ov, iv] (setItem ov iv v)
      release [v, ov, iv] []) := by cases i <;> first | rfl | cases h
theorem ss_setIx (G : GoodE X K F) (nc : ∀ a vs, ¬ K.t a vs) {ro : Nat → Bool} {i : Nat} {o k e : Expr} {ek ee : Ev} {tpos pos : Pos} (ho : NmAt X i o) (hk : SE X K ek k) (he : SE X K ee e) (hn : notComp e = true) (hsl : notSlice k = true) :
    SS X K ro (sSetIx i ek ee) (.Assign [.Subscript o k tpos] e pos) := by
  obtain ⟨te, pe, oke⟩ := he.val
  obtain ⟨tk, pk, okk⟩ := hk.val
  have hsw : swappedStores [.Subscript o k tpos] e X.env = pure none := by cases e <;> rfl
  refine ⟨_, ps_asg pe (pg_sub ho.pe pk (PSet.or set_list (set_dict (by have := G.hu; omega))) (asg_sub hsl)) (sw_no hn (some (.Subscript o k tpos)) pos.line X.env) hsw rfl, fun Fz ρ σ H fl ρ' D hf R w => ?_⟩
  simp only [sSetIx] at hf
  cases g1 : ee.e ρ with
  | none => rw [g1] at hf; cases hf
  | some z =>
    obtain ⟨x, ρ1⟩ := z
    rw [g1] at hf
    dsimp only at hf
    cases g2 : toD x with
    | none => rw [g2] at hf; cases hf
    | some d =>
      cases g3 : get ρ1 i with
      | none => rw [g2, g3] at hf; cases hf
      | some o1 =>
        rw [g2, g3] at hf
        dsimp only at hf
        cases g4 : ek.e ρ1 with
        | none => rw [g4] at hf; cases hf
        | some z =>
          obtain ⟨q, ρ2⟩ := z
          rw [g4] at hf
          dsimp only at hf
          cases g5 : get ρ2 i with
          | none => rw [g5] at hf; cases hf
          | some o2 =>
            rw [g5] at hf
            dsimp only at hf
            cases g6 : setSem o2 q d with
            | none => rw [g6] at hf; cases hf
            | some o3 =>
              rw [g6] at hf
              cases hf
              refine oke Fz ρ σ H x ρ1 _ g1 R fun v H1 Fz1 M1 O1 => ?_
              obtain ⟨Fz2, M2, rf⟩ := O1.toD M1 g2
              obtain ⟨ov, so, ro1⟩ := M2.rel.re i o1 g3
              refine ⟨ov, so, okk Fz2 ρ1 σ H1 q ρ2 _ g4 M2.rel fun kv H3 Fz3 M3 O3 => ?_⟩
              have own : isOwn o2 = true := by
                cases o2 <;> first | rfl | (cases q <;> cases g6)
              obtain ⟨l, s, re, ow⟩ := M3.rel.owned g5 own
              rw [so] at s; cases s
              exact set_fin nc M3.rel g5 so g6 O3.re (RF.stay (M3.stay M2.rel) _ _ rf) fun H4 M4 => w σ H4 Fz3 ((M2.trans M3).trans M4) Keeps.refl
/-- the in-place operators upon whole numbers -/
theorem ip_op {op : Operator} (h : op = .Add ∨ op = .Sub) : ∃ g : Int → Int → Int, PIp X op (rI0 fun i j => .int (g i j)) ∧ ∀ i j, intBin op i j = some (g i j) := by
  rcases h with e | e
  · subst e; exact ⟨_, iop_add, fun _ _ => rfl⟩
  · subst e; exact ⟨_, iop_sub, fun _ _ => rfl⟩
theorem ss_aug (G : GoodE X K F) {ro : Nat → Bool} {i : Nat} {x : Str} {op : Operator} {e : Expr} {ee : Ev} {p pos : Pos} (hop : op = .Add ∨ op = .Sub) (hi : X.N[i]? = some x) (hx : Loc X.env.scope x) (hf : X.fn x = true ∨ X.env.scope.names.lookup x = some .local) (hr : ro i = false) (he : SE X K ee e) :
    SS X K ro (sAug i op ee) (.AugAssign (.Name x p) op e pos) := by
  obtain ⟨te, pe, oke⟩ := he.val
  obtain ⟨g, ip, hg⟩ := ip_op (X := X) hop
  refine ⟨_, ps_aug G.nd hi hx pe ip hf, fun Fz ρ σ H fl ρ' D hf R w => ?_⟩
  simp only [sAug] at hf
  split at hf
  · rename_i m g1
    split at hf
    · rename_i n ρ1 g2
      rw [hg] at hf
      cases hf
      obtain ⟨v, s, re⟩ := R.re i _ g1
      have ev := re.int
      subst ev
      refine ⟨_, s, oke Fz ρ σ H _ ρ1 _ g2 R fun u H1 Fz1 M O => ⟨m, n, rfl, O.re.int, ?_⟩⟩
      exact w _ H1 Fz1 (M.store (e := .val (.int (g m n))) (v := .int (g m n)) (Out.data (by simp only [RF])) i).1 (Keeps.set hr)
    · cases hf
  · cases hf
theorem aug_ix {i : Expr} (h : notSlice i = true) : ∀ ov iv new, augStore i ov iv new = (do holding [new, ov, iv] (setItem ov iv new); release [new, ov, iv] []; pure .next) := by
  intro ov iv new
  cases i <;> first | rfl | cases h
theorem ss_augIx (G : GoodE X K F) (nc : ∀ a vs, ¬ K.t a vs) {ro : Nat → Bool} {i : Nat} {op : Operator} {o k e : Expr} {ek ee : Ev} {tpos pos : Pos} (hop : op = .Add ∨ op = .Sub) (ho : NmAt X i o) (hk : SE X K ek k) (hsl : notSlice k = true) (he : SE X K ee e) :
    SS X K ro (sAugIx i ek op ee) (.AugAssign (.Subscript o k tpos) op e pos) := by
  obtain ⟨te, pe, oke⟩ := he.val
  obtain ⟨tk, pk, okk⟩ := hk.val
  obtain ⟨g, ip, hg⟩ := ip_op (X := X) hop
  refine ⟨_, ps_augS ho.pe pk (PGet.or get_list (get_dict (by have := G.hu; omega))) pe ip (PSet.or set_list (set_dict (by have := G.hu; omega))) (aug_ix hsl), fun Fz ρ σ H fl ρ' D hf R w => ?_⟩
  simp only [sAugIx] at hf
  cases g1 : get ρ i with
  | none => rw [g1] at hf; cases hf
  | some o0 =>
    rw [g1] at hf
    dsimp only at hf
    cases g2 : ek.e ρ with
    | none => rw [g2] at hf; cases hf
    | some z =>
      obtain ⟨q, ρ1⟩ := z
      rw [g2] at hf
      dsimp only at hf
      cases g3 : get ρ1 i with
      | none => rw [g3] at hf; cases hf
      | some o1 =>
        rw [g3] at hf
        dsimp only at hf
        split at hf
        · rename_i m g4
          split at hf
          · rename_i n ρ2 g5
            cases g6 : get ρ2 i with
            | none => rw [hg, g6] at hf; cases hf
            | some o2 =>
              rw [hg, g6] at hf
              dsimp only at hf
              cases g7 : setSem o2 q (.int (g m n)) with
              | none => rw [g7] at hf; cases hf
              | some o3 =>
                rw [g7] at hf
                cases hf
                obtain ⟨ov, so, re0⟩ := R.re i o0 g1
                refine ⟨ov, so, okk Fz ρ σ H q ρ1 _ g2 R fun kv H1 Fz1 M1 O1 => ?_⟩
                have own : isOwn o2 = true := by
                  cases o2 <;> first | rfl | (cases q <;> cases g7)
                -- the read
                have rd : ∀ Q : VK, Q (.int m) H1 → rIxL X.K ov kv H1 Q ∨ ∃ a v, ov = .ref a ∧ DGet H1 a kv (some v) ∧ Q v H1 := fun Q hq => by
                  obtain ⟨v1, s1, re1⟩ := M1.rel.re i o1 g3
                  rw [so] at s1; cases s1
                  have hk1 := O1.re
                  cases o1 with
                  | dct kvs =>
                    cases q with
                    | val d =>
                      have g4 : idxSem (.dct kvs) (.val d) = some (.val (.int m)) := g4
                      simp only [idxSem] at g4
                      cases gk : keyOf d with
                      | none => rw [gk] at g4; cases g4
                      | some key =>
                        rw [gk] at g4
                        dsimp only at g4
                        obtain ⟨a, us, e1, nf, h1, kr⟩ := re1
                        subst e1
                        have vl := val_look key kr
                        cases gl : lookG kvs key with
                        | none => rw [gl] at g4; cases g4
                        | some d2 =>
                          rw [gl] at g4 vl
                          cases g4
                          obtain ⟨u, eu, ru⟩ := vl
                          have := RF.key hk1 gk
                          subst this
                          simp only [RF] at ru
                          subst ru
                          exact .inr ⟨a, _, rfl, eu ▸ DGet.k h1, hq⟩
                    | _ => cases g4
                  | dctT kvs =>
                    cases q with
                    | val d =>
                      have g4 : idxSem (.dctT kvs) (.val d) = some (.val (.int m)) := g4
                      simp only [idxSem] at g4
                      cases gk : keyT d with
                      | none => rw [gk] at g4; cases g4
                      | some key =>
                        rw [gk] at g4
                        dsimp only at g4
                        obtain ⟨a, us, e1, nf, h1, kr⟩ := re1
                        subst e1
                        have vl := val_look key kr
                        cases gl : lookG kvs key with
                        | none => rw [gl] at g4; cases g4
                        | some d2 =>
                          rw [gl] at g4 vl
                          cases g4
                          obtain ⟨u, eu, ru⟩ := vl
                          obtain ⟨b, eb, hb⟩ := hk1.keyT nc gk
                          subst eb
                          simp only [RF] at ru
                          subst ru
                          exact .inr ⟨a, _, rfl, eu ▸ DGet.t h1 hb, hq⟩
                    | _ => cases g4
                  | lst ds =>
                    cases q with
                    | val d =>
                      cases d with
                      | int j =>
                        have g4 : (atI ds j).map Ent.val = some (.val (.int m)) := g4
                        cases ga : atI ds j with
                        | none => rw [ga] at g4; cases g4
                        | some d2 =>
                          rw [ga] at g4
                          cases g4
                          obtain ⟨a, vs, e1, nf, h1, rr⟩ := re1
                          subst e1
                          obtain ⟨u, e2, ru⟩ := atI_all rr ga
                          simp only [RF] at ru
                          subst ru
                          exact .inl ⟨a, vs, j, _, rfl, hk1.int, .inl (.inl h1), e2, hq⟩
                      | _ => cases g4
                    | _ => cases g4
                  | val d => cases g4
                  | ro d => cases g4
                refine rd _ ?_
                refine oke Fz1 ρ1 σ H1 _ ρ2 _ g5 M1.rel fun u H2 Fz2 M2 O2 => ⟨m, n, rfl, O2.re.int, ?_⟩
                have O1' := Out.move M1.rel M2 O1
                obtain ⟨l, s, re, ow⟩ := M2.rel.owned g6 own
                rw [so] at s; cases s
                exact set_fin nc M2.rel g6 so g7 O1'.re (by simp only [RF]) fun H4 M4 => w σ H4 Fz2 ((M1.trans M2).trans M4) Keeps.refl
          · cases hf
        · cases hf
end
end MP
set_option Elab.async false
set_option linter.all false
set_option maxRecDepth 100000
/-! MP16: does a text match the mini language -/
namespace MP
open PySem PySem.Spec PyProof.Rows L2
structure MC where
  N : List Str
  sc : Scope
  fn : Str → Bool
def isVis (c : MC) (i : Nat) (x : Str) : Bool :=
  decide (c.N[i]? = some x) && (match c.sc.names.lookup x with
    | some .local => true
    | some .cell => true
    | some .free => true
    | _ => false) && !(x == ("__debug__" : Str)) && !(x == ("__classdict__" : Str))
def isLoc (c : MC) (ro : Nat → Bool) (i : Nat) (x : Str) : Bool :=
  decide (c.N[i]? = some x) && (match c.sc.names.lookup x with
    | some .local => true
    | some .cell => c.fn x
    | _ => false) && !ro i
def isLo (c : MC) (ro : Nat → Bool) (i : Nat) (x : Str) : Bool :=
  decide (c.N[i]? = some x) && (match c.sc.names.lookup x with
    | some .local => true
    | _ => false) && !ro i
def isGl (c : MC) (x : Str) : Bool :=
  match c.sc.names.lookup x with
  | some .globalImplicit => true
  | _ => false
def ownP (c : MC) (own : List Nat) : List (Str × Nat) := own.map fun i => (c.N.getD i "", i)
def blkOf (c : MC) (scope : Scope) : MC := ⟨c.N, relS scope c.sc, fun x => scope.names.lookup x == some .cell⟩
def binOk : Operator → Bool
  | .Add | .Sub | .Mult | .FloorDiv | .Mod | .Pow | .LShift | .RShift | .BitAnd | .BitXor => true
  | _ => false
def cmpOk : CmpOp → Bool
  | .Eq | .NotEq | .Lt | .LtE | .Gt | .GtE | .Is | .IsNot | .In | .NotIn => true
def isCmpI : CmpOp → Bool
  | .Lt | .LtE | .Gt | .GtE => true
  | _ => false
def isNop : ME → Bool
  | .nop => true
  | _ => false
def isComp : ME → Bool
  | .comp .. => true
  | _ => false
def noSetE : Expr → Bool
  | .Set .. => false
  | _ => true
mutual
def mT : MT → MC → (Nat → Bool) → Expr → Bool
  | .nm i, c, ro, e => match e with
    | .Name x _ => isLoc c ro i x
    | _ => false
  | .tup ts, c, ro, e => match e with
    | .Tuple es _ _ => mTs ts c ro es
    | _ => false
def mTs : List MT → MC → (Nat → Bool) → List Expr → Bool
  | [], _, _, es => es.isEmpty
  | t :: ts, c, ro, es => match es with
    | e :: es => mT t c ro e && mTs ts c ro es
    | [] => false
end
mutual
def mE : ME → MC → Expr → Bool
  | .v i, c, e => match e with
    | .Name x _ => isVis c i x
    | _ => false
  | .int k, c, e => match e with
    | .Constant (.int j) _ _ => decide (k = j)
    | _ => false
  | .bl k, c, e => match e with
    | .Constant (.bool j) _ _ => decide (k = j)
    | _ => false
  | .non, c, e => match e with
    | .Constant .none _ _ => true
    | _ => false
  | .str k, c, e => match e with
    | .Constant (.str j) _ _ => decide (k = j)
    | _ => false
  | .nop, _, _ => false
  | .gc _ _, _, _ => false
  | .bin op a b, c, e => match e with
    | .BinOp x o y _ => decide (op = o) && binOk op && mE a c x && mE b c y
    | _ => false
  | .neg a, c, e => match e with
    | .UnaryOp .USub x _ => mE a c x
    | _ => false
  | .cmp op a b, c, e => match e with
    | .Compare x [o] [y] _ => decide (op = o) && cmpOk op && mE a c x && mE b c y
    | _ => false
  | .cmp2 op oq a b d, c, e => match e with
    | .Compare x [o, q] [y, z] _ => decide (op = o) && decide (oq = q) && isCmpI op && isCmpI oq && mE a c x && mE b c y && mE d c z
    | _ => false
  | .band as, c, e => match e with
    | .BoolOp .And es _ => mEs as c es && !es.isEmpty
    | _ => false
  | .bor as, c, e => match e with
    | .BoolOp .Or es _ => mEs as c es && !es.isEmpty
    | _ => false
  | .bnot a, c, e => match e with
    | .UnaryOp .Not x _ => mE a c x
    | _ => false
  | .ife t a b, c, e => match e with
    | .IfExp z x y _ => mE t c z && mE a c x && mE b c y
    | _ => false
  | .tup as, c, e => match e with
    | .Tuple es _ _ => mEs as c es
    | _ => false
  | .lst as, c, e => match e with
    | .List es _ => mEs as c es
    | _ => false
  | .dnewK, c, e => match e with
    | .Dict [] [] _ => true
    | _ => false
  | .dnewT, c, e => match e with
    | .Dict [] [] _ => true
    | _ => false
  | .dct ks as, c, e => match e with
    | .Dict kes es _ => mEs as c es && decide (keyExprs kes = some ks) && decide (kes.length = es.length) && !kes.isEmpty
    | _ => false
  | .idx a i, c, e => match e with
    | .Subscript x y _ => mE a c x && mE i c y
    | _ => false
  | .slc a lo hi, c, e => match e with
    | .Subscript x (.Slice l h none _) _ => mE a c x && (match l with
      | none => isNop lo
      | some l => mE lo c l) && (match h with
      | none => isNop hi
      | some h => mE hi c h)
    | _ => false
  | .rev a, c, e => match e with
    | .Subscript x (.Slice none none (some (.UnaryOp .USub (.Constant (.int k) _ _) _)) _) _ => decide (k = 1) && mE a c x
    | _ => false
  | .blt f as, c, e => match e with
    | .Call (.Name x _) es [] _ => decide (x = (bltName f : Str)) && isGl c x && mEs as c es && !es.isEmpty
    | _ => false
  | .isi t a, c, e => match e with
    | .Call (.Name x _) [y, .Name z _] [] _ => decide (x = ("isinstance" : Str)) && decide (z = (tyName t : Str)) && isGl c x && isGl c z && mE a c y
    | _ => false
  | .call f as, c, e => match e with
    | .Call (.Name x _) es [] _ => decide (x = f) && isGl c f && !(f == ("__debug__" : Str)) && mEs as c es && !es.isEmpty
    | _ => false
  | .app i a, c, e => match e with
    | .Call (.Attribute (.Name x _) nm ap) [y] [] cp => decide (nm = ("append" : Str)) && isVis c i x && (ap.endLine == cp.line) && mE a c y
    | _ => false
  | .ext i a, c, e => match e with
    | .Call (.Attribute (.Name x _) nm ap) [y] [] cp => decide (nm = ("extend" : Str)) && isVis c i x && (ap.endLine == cp.line) && mE a c y
    | _ => false
  | .pop i, c, e => match e with
    | .Call (.Attribute (.Name x _) nm ap) [] [] cp => decide (nm = ("pop" : Str)) && isVis c i x && (ap.endLine == cp.line)
    | _ => false
  | .popAt i a, c, e => match e with
    | .Call (.Attribute (.Name x _) nm ap) [y] [] cp => decide (nm = ("pop" : Str)) && isVis c i x && (ap.endLine == cp.line) && mE a c y
    | _ => false
  | .rem _ _, _, _ => false
  | .mindex _ _, _, _ => false
  | .mcount _ _, _, _ => false
  | .dget _ _ _, _, _ => false
  | .lrng as, c, e => match e with
    | .Call (.Name x _) [.Call (.Name y _) es [] _] [] _ => decide (x = ("list" : Str)) && decide (y = ("range" : Str)) && isGl c x && isGl c y && mEs as c es && (es.length == 1 || es.length == 2)
    | _ => false
  | .comp t it ifs el own, c, e => match e with
    | .ListComp elt [⟨tg, itx, cs, k⟩] scope _ => decide (k = 0) && mI it c itx && blkC c.N c.sc scope (ownP c own) && mT t (blkOf c scope) (roOf own) tg && mEs ifs (blkOf c scope) cs && mE el (blkOf c scope) elt && decide (cs.length ≤ 1)
    | _ => false
def mEs : List ME → MC → List Expr → Bool
  | [], _, es => es.isEmpty
  | a :: as, c, es => match es with
    | e :: es => mE a c e && mEs as c es
    | [] => false
def mI : MI → MC → Expr → Bool
  | .seq a, c, e => noSetE e && mE a c e
  | .rng as, c, e => match e with
    | .Call (.Name x _) es [] _ => decide (x = ("range" : Str)) && isGl c x && mEs as c es && (es.length == 1 || es.length == 2 || es.length == 3)
    | _ => false
  | .zip _ _, _, _ => false
end
def mPar2 (c : MC) (ro : Nat → Bool) (ns : List Str) : List MT → List Expr → Bool
  | [.nm i, .nm j], [.Name x _, .Name y _] => decide (ns = [x, y]) && decide (i ≠ j) && isLo c ro i x && isLo c ro j y
  | _, _ => false
def mPar3 (c : MC) (ro : Nat → Bool) (ns : List Str) : List MT → List Expr → Bool
  | [.nm i, .nm j, .nm l], [.Name x _, .Name y _, .Name z _] => decide (ns = [x, y, z]) && decide (i ≠ j) && decide (i ≠ l) && decide (j ≠ l) && isLo c ro i x && isLo c ro j y && isLo c ro l z
  | _, _ => false
mutual
def mS : MS → MC → (Nat → Bool) → Stmt → Bool
  | .asg t a, c, ro, s => match s with
    | .Assign [tg] e _ => mE a c e && mT t c ro tg && (match t with
      | .nm _ => notComp e || isComp a
      | .tup _ => notComp e && notTup e)
    | _ => false
  | .asgs ts as, c, ro, s => match s with
    | .Assign [.Tuple tgs _ _] (.Tuple es _ _) _ => mEs as c es && (match swpC c.sc tgs es with
      | some none => mTs ts c ro tgs && decide (ts.length ≤ LIM)
      | some (some ns) => mPar2 c ro ns ts tgs || mPar3 c ro ns ts tgs
      | none => false) && decide (ts.length = es.length)
    | _ => false
  | .setIx i k a, c, ro, s => match s with
    | .Assign [.Subscript (.Name x _) ke _] e _ => isVis c i x && mE k c ke && mE a c e && notComp e && notSlice ke
    | _ => false
  | .aug i op a, c, ro, s => match s with
    | .AugAssign (.Name x _) o e _ => decide (op = o) && (decide (op = .Add) || decide (op = .Sub)) && isLoc c ro i x && mE a c e
    | _ => false
  | .augIx i k op a, c, ro, s => match s with
    | .AugAssign (.Subscript (.Name x _) ke _) o e _ => decide (op = o) && (decide (op = .Add) || decide (op = .Sub)) && isVis c i x && mE k c ke && notSlice ke && mE a c e
    | _ => false
  | .ex a, c, ro, s => match s with
    | .Expr e _ => mE a c e && notComp e
    | _ => false
  | .ite t a b, c, ro, s => match s with
    | .If e x y _ => mE t c e && mSs a c ro x && mSs b c ro y
    | _ => false
  | .wh t b, c, ro, s => match s with
    | .While e x [] _ => mE t c e && mSs b c ro x
    | _ => false
  | .for t it b, c, ro, s => match s with
    | .For tg e x [] _ => mI it c e && mT t c ro tg && mSs b c ro x
    | _ => false
  | .ret a, c, ro, s => match s with
    | .Return (some e) _ => mE a c e
    | _ => false
  | .retN, c, ro, s => match s with
    | .Return none _ => true
    | _ => false
  | .brk, c, ro, s => match s with
    | .Break _ => true
    | _ => false
  | .ct, c, ro, s => match s with
    | .Continue _ => true
    | _ => false
  | .pass, c, ro, s => match s with
    | .Pass _ => true
    | _ => false
def mSs : List MS → MC → (Nat → Bool) → List Stmt → Bool
  | [], _, _, l => l.isEmpty
  | s :: r, c, ro, l => match l with
    | x :: l => mS s c ro x && mSs r c ro l
    | [] => false
end

structure Mat (X : Cx) (c : MC) : Prop where
  N : X.N = c.N
  sc : X.env.scope = c.sc
  fn : X.fn = c.fn
  kind : X.env.scope.kind = .function
section
variable {K : Cst} {F : FT} {X : Cx} {c : MC} {ro : Nat → Bool}
theorem vis_ok (M : Mat X c) {i : Nat} {x : Str} (h : isVis c i x = true) : X.N[i]? = some x ∧ Vis X.env.scope x ∧ (x == ("__debug__" : Str)) = false ∧ (x == ("__classdict__" : Str)) = false := by
  unfold isVis at h
  simp only [Bool.and_eq_true, decide_eq_true_eq, Bool.not_eq_true'] at h
  obtain ⟨⟨⟨h1, h2⟩, h3⟩, h4⟩ := h
  refine ⟨M.N ▸ h1, ?_, h3, h4⟩
  unfold Vis
  rw [M.sc]
  split at h2
  · exact .inl (by assumption)
  · exact .inr (.inl (by assumption))
  · exact .inr (.inr (by assumption))
  · cases h2
theorem loc_ok (M : Mat X c) {i : Nat} {x : Str} (h : isLoc c ro i x = true) : X.N[i]? = some x ∧ L2.Loc X.env.scope x ∧ (X.fn x = true ∨ X.env.scope.names.lookup x = some .local) ∧ ro i = false := by
  unfold isLoc at h
  simp only [Bool.and_eq_true, decide_eq_true_eq, Bool.not_eq_true'] at h
  obtain ⟨⟨h1, h2⟩, h3⟩ := h
  unfold L2.Loc
  rw [M.sc, M.fn]
  refine ⟨M.N ▸ h1, ?_, ?_, h3⟩
  · split at h2
    · exact .inl (by assumption)
    · exact .inr (by assumption)
    · cases h2
  · split at h2
    · exact .inr (by assumption)
    · exact .inl h2
    · cases h2
theorem lo_ok (M : Mat X c) {i : Nat} {x : Str} (h : isLo c ro i x = true) : X.N[i]? = some x ∧ X.env.scope.names.lookup x = some .local ∧ ro i = false := by
  unfold isLo at h
  simp only [Bool.and_eq_true, decide_eq_true_eq, Bool.not_eq_true'] at h
  obtain ⟨⟨h1, h2⟩, h3⟩ := h
  rw [M.sc]
  refine ⟨M.N ▸ h1, ?_, h3⟩
  split at h2
  · assumption
  · cases h2
theorem gl_ok (M : Mat X c) {x : Str} (h : isGl c x = true) : Gl X x := by
  unfold isGl at h
  show X.env.scope.names.lookup x = _
  rw [M.sc]
  split at h
  · assumption
  · cases h
theorem nm_ok (M : Mat X c) {i : Nat} {x : Str} {p : Pos} (h : isVis c i x = true) : NmAt X i (.Name x p) := by
  obtain ⟨h1, h2, h3, h4⟩ := vis_ok M h
  exact ⟨pe_var h1 h2 h3 h4, fun _ => rfl⟩
theorem GoodE.blk (G : GoodE X K F) (s : Shared) (H : Hp) (scope : Scope) (cenv : PySem.Env) (fp : List Addr) : GoodE (X.blk s H scope cenv fp) K F := by
  obtain ⟨a, b, c, d, e, f, g, h⟩ := G
  exact ⟨a, b, c, d, e, f, g, fun f g z => ⟨(h f g z).is⟩⟩
theorem Mat.blk (M : Mat X c) {scope : Scope} (hk : scope.kind = .function) (s : Shared) (H : Hp) (C : Addr) (cl : List (Str × Addr)) (fp : List Addr) : Mat (X.blk s H scope (compEnvC scope cl C X.env) fp) (blkOf c scope) := by
  refine ⟨M.N, ?_, rfl, hk⟩
  show relS scope X.env.scope = relS scope c.sc
  rw [M.sc]
theorem se_bin (G : GoodE X K F) {op : Operator} (h : binOk op = true) {ea eb : Ev} {a b : Expr} {pos : Pos} (ha : SE X K ea a) (hb : SE X K eb b) : SE X K (evOp (fBin op) [ea, eb]) (.BinOp a op b pos) := by
  cases op <;> first | (cases h; done) | exact se_add G ha hb | exact se_sub G ha hb | exact se_mul G ha hb | exact se_fdiv G ha hb | exact se_mod G ha hb | exact se_pow G ha hb | exact se_shl G ha hb | exact se_shr G ha hb | exact se_and G ha hb | exact se_xor G ha hb
theorem se_cmp (G : GoodE X K F) (nc : ∀ a vs, ¬ K.t a vs) {op : CmpOp} {ea eb : Ev} {a b : Expr} {pos : Pos} (ha : SE X K ea a) (hb : SE X K eb b) : SE X K (evCmp (fCmp op) [ea, eb]) (.Compare a [op] [b] pos) := by
  cases op <;> first | exact se_eq G ha hb | exact se_ne G ha hb | exact se_lt G ha hb | exact se_le G ha hb | exact se_gt G ha hb | exact se_ge G ha hb | exact se_is G ha hb | exact se_isnot G ha hb | exact se_in G nc ha hb | exact se_notin G nc ha hb
theorem cmpI_ok {o : CmpOp} (h : isCmpI o = true) : o = .Lt ∨ o = .LtE ∨ o = .Gt ∨ o = .GtE := by
  cases o <;> first | (cases h; done) | simp
theorem SEs.te {as : List Ev} {es : List Expr} (h : SEs X K as es) (hne : es ≠ []) : TEs X K as es := by
  induction h with
  | nil => exact absurd rfl hne
  | cons a as ih =>
    cases as with
    | nil => exact .one a
    | cons b bs => exact .cons a (ih (by simp))
theorem ne_of {α : Type} {l : List α} (h : (!l.isEmpty) = true) : l ≠ [] := by
  intro e
  subst e
  cases h
theorem ownP_ix {own : List Nat} : (ownP c own).map (·.2) = own := by
  unfold ownP
  rw [List.map_map]
  exact List.map_id' _
mutual
theorem mT_ok : ∀ (t : MT) {X : Cx} {c : MC} {ro : Nat → Bool} {e : Expr}, Mat X c → GoodE X K F → mT t c ro e = true → STg X K ro t e
  | .nm i, X, c, ro, e, M, G, h => by
    simp only [mT] at h
    split at h
    · obtain ⟨h1, h2, h3, h4⟩ := loc_ok M h
      exact tg_nm G h1 h2 h3 h4
    · cases h
  | .tup ts, X, c, ro, e, M, G, h => by
    simp only [mT] at h
    split at h
    · exact tg_tup G (mTs_ok ts M G h)
    · cases h
theorem mTs_ok : ∀ (t : List MT) {X : Cx} {c : MC} {ro : Nat → Bool} {e : List Expr}, Mat X c → GoodE X K F → mTs t c ro e = true → STgs X K ro t e
  | [], X, c, ro, e, M, G, h => by
    simp only [mTs] at h
    cases e with
    | nil => exact .nil
    | cons => cases h
  | t :: ts, X, c, ro, e, M, G, h => by
    simp only [mTs] at h
    split at h
    · simp only [Bool.and_eq_true] at h
      exact .cons (mT_ok t M G h.1) (mTs_ok ts M G h.2)
    · cases h
end
theorem nop_no {m : ME} (h : isNop m = true) : m = .nop := by
  cases m <;> first | rfl | cases h
theorem opt_ok {m : ME} {o : Option Expr} (h : ∀ e, o = some e → SE X K (den F m) e) (h2 : o = none → m = .nop) (h3 : ∀ e, o = some e → m ≠ .nop) : SOpt X K (match (generalizing := false) m with | .nop => none | _ => some (den F m)) o := by
  cases o with
  | none =>
    have := h2 rfl
    subst this
    exact .no
  | some e =>
    have q := h e rfl
    have n := h3 e rfl
    cases m <;> first | exact absurd rfl n | exact .yes q
mutual
theorem mE_ok (nc : ∀ a vs, ¬ K.t a vs) : ∀ (m : ME) {X : Cx} {c : MC} {e : Expr}, Mat X c → GoodE X K F → mE m c e = true → SE X K (den F m) e
  | .v i, X, c, e, M, G, h => by
    simp only [mE] at h
    split at h
    · obtain ⟨h1, h2, h3, h4⟩ := vis_ok M h
      exact se_v G h1 h2 h3 h4
    · cases h
  | .int k, X, c, e, M, G, h => by
    simp only [mE] at h
    split at h
    · rw [decide_eq_true_eq] at h; subst h; exact se_int G
    · cases h
  | .bl k, X, c, e, M, G, h => by
    simp only [mE] at h
    split at h
    · rw [decide_eq_true_eq] at h; subst h; exact se_bl G
    · cases h
  | .non, X, c, e, M, G, h => by
    simp only [mE] at h
    split at h
    · exact se_non G
    · cases h
  | .str k, X, c, e, M, G, h => by
    simp only [mE] at h
    split at h
    · rw [decide_eq_true_eq] at h; subst h; exact se_str G
    · cases h
  | .nop, X, c, e, M, G, h => by simp only [mE] at h; cases h
  | .gc _ _, X, c, e, M, G, h => by simp only [mE] at h; cases h
  | .bin op a b, X, c, e, M, G, h => by
    simp only [mE] at h
    split at h
    · simp only [Bool.and_eq_true, decide_eq_true_eq] at h
      obtain ⟨⟨⟨h1, h2⟩, h3⟩, h4⟩ := h
      subst h1
      exact se_bin G h2 (mE_ok nc a M G h3) (mE_ok nc b M G h4)
    · cases h
  | .neg a, X, c, e, M, G, h => by
    simp only [mE] at h
    split at h
    · exact se_neg G (mE_ok nc a M G h)
    · cases h
  | .cmp op a b, X, c, e, M, G, h => by
    simp only [mE] at h
    split at h
    · simp only [Bool.and_eq_true, decide_eq_true_eq] at h
      obtain ⟨⟨⟨h1, h2⟩, h3⟩, h4⟩ := h
      subst h1
      exact se_cmp G nc (mE_ok nc a M G h3) (mE_ok nc b M G h4)
    · cases h
  | .cmp2 op oq a b d, X, c, e, M, G, h => by
    simp only [mE] at h
    split at h
    · simp only [Bool.and_eq_true, decide_eq_true_eq] at h
      obtain ⟨⟨⟨⟨⟨⟨h1, h2⟩, h3⟩, h4⟩, h5⟩, h6⟩, h7⟩ := h
      subst h1 h2
      exact se_chain G (cmpI_ok h3) (cmpI_ok h4) (mE_ok nc a M G h5) (mE_ok nc b M G h6) (mE_ok nc d M G h7)
    · cases h
  | .band as, X, c, e, M, G, h => by
    simp only [mE] at h
    split at h
    · simp only [Bool.and_eq_true] at h
      exact se_band ((mEs_ok nc as M G h.1).te (ne_of h.2))
    · cases h
  | .bor as, X, c, e, M, G, h => by
    simp only [mE] at h
    split at h
    · simp only [Bool.and_eq_true] at h
      exact se_bor ((mEs_ok nc as M G h.1).te (ne_of h.2))
    · cases h
  | .bnot a, X, c, e, M, G, h => by
    simp only [mE] at h
    split at h
    · exact se_bnot (mE_ok nc a M G h)
    · cases h
  | .ife t a b, X, c, e, M, G, h => by
    simp only [mE] at h
    split at h
    · simp only [Bool.and_eq_true] at h
      exact se_ife (mE_ok nc t M G h.1.1) (mE_ok nc a M G h.1.2) (mE_ok nc b M G h.2)
    · cases h
  | .tup as, X, c, e, M, G, h => by
    simp only [mE] at h
    split at h
    · exact se_tup G (mEs_ok nc as M G h)
    · cases h
  | .lst as, X, c, e, M, G, h => by
    simp only [mE] at h
    split at h
    · exact se_lst G (mEs_ok nc as M G h)
    · cases h
  | .dnewK, X, c, e, M, G, h => by
    simp only [mE] at h
    split at h
    · exact se_dnewK G
    · cases h
  | .dnewT, X, c, e, M, G, h => by
    simp only [mE] at h
    split at h
    · exact se_dnewT G
    · cases h
  | .dct ks as, X, c, e, M, G, h => by
    simp only [mE] at h
    split at h
    · simp only [Bool.and_eq_true, decide_eq_true_eq] at h
      obtain ⟨⟨⟨h1, h2⟩, h3⟩, h4⟩ := h
      exact se_dct G (mEs_ok nc as M G h1) h2 h3 (ne_of h4)
    · cases h
  | .idx a i, X, c, e, M, G, h => by
    simp only [mE] at h
    split at h
    · simp only [Bool.and_eq_true] at h
      exact se_idx G nc (mE_ok nc a M G h.1) (mE_ok nc i M G h.2)
    · cases h
  | .slc a lo hi, X, c, e, M, G, h => by
    simp only [mE] at h
    split at h
    · simp only [Bool.and_eq_true] at h
      obtain ⟨⟨h1, h2⟩, h3⟩ := h
      refine se_slc G (mE_ok nc a M G h1) (opt_ok (fun e he => ?_) (fun he => ?_) fun e he => ?_) (opt_ok (fun e he => ?_) (fun he => ?_) fun e he => ?_)
      · subst he; exact mE_ok nc lo M G h2
      · subst he; exact nop_no h2
      · subst he; intro q; rw [q] at h2; simp only [mE] at h2; cases h2
      · subst he; exact mE_ok nc hi M G h3
      · subst he; exact nop_no h3
      · subst he; intro q; rw [q] at h3; simp only [mE] at h3; cases h3
    · cases h
  | .rev a, X, c, e, M, G, h => by
    simp only [mE] at h
    split at h
    · simp only [Bool.and_eq_true, decide_eq_true_eq] at h
      obtain ⟨h1, h2⟩ := h
      subst h1
      exact se_rev G (mE_ok nc a M G h2)
    · cases h
  | .blt f as, X, c, e, M, G, h => by
    simp only [mE] at h
    split at h
    · simp only [Bool.and_eq_true, decide_eq_true_eq] at h
      obtain ⟨⟨⟨h1, h2⟩, h3⟩, h4⟩ := h
      subst h1
      have q := mEs_ok nc as M G h3
      cases as with
      | nil => cases q; cases h4
      | cons a as => cases q with
        | cons qa qs => exact se_bltA G f (gl_ok M h2) (.cons qa qs)
    · cases h
  | .isi t a, X, c, e, M, G, h => by
    simp only [mE] at h
    split at h
    · simp only [Bool.and_eq_true, decide_eq_true_eq] at h
      obtain ⟨⟨⟨⟨h1, h2⟩, h3⟩, h4⟩, h5⟩ := h
      subst h1 h2
      exact se_isi G t (gl_ok M h3) (gl_ok M h4) (mE_ok nc a M G h5)
    · cases h
  | .call f as, X, c, e, M, G, h => by
    simp only [mE] at h
    split at h
    · simp only [Bool.and_eq_true, decide_eq_true_eq, Bool.not_eq_true'] at h
      obtain ⟨⟨⟨⟨h1, h2⟩, h3⟩, h4⟩, h5⟩ := h
      subst h1
      exact se_call G (gl_ok M h2) h3 (mEs_ok nc as M G h4) (by rintro rfl; cases h5)
    · cases h
  | .app i a, X, c, e, M, G, h => by
    simp only [mE] at h
    split at h
    · simp only [Bool.and_eq_true, decide_eq_true_eq] at h
      obtain ⟨⟨⟨h1, h2⟩, h3⟩, h4⟩ := h
      subst h1
      exact se_app G (nm_ok M h2) h3 (mE_ok nc a M G h4)
    · cases h
  | .ext i a, X, c, e, M, G, h => by
    simp only [mE] at h
    split at h
    · simp only [Bool.and_eq_true, decide_eq_true_eq] at h
      obtain ⟨⟨⟨h1, h2⟩, h3⟩, h4⟩ := h
      subst h1
      exact se_ext G (nm_ok M h2) h3 (mE_ok nc a M G h4)
    · cases h
  | .pop i, X, c, e, M, G, h => by
    simp only [mE] at h
    split at h
    · simp only [Bool.and_eq_true, decide_eq_true_eq] at h
      obtain ⟨⟨h1, h2⟩, h3⟩ := h
      subst h1
      exact se_pop G (nm_ok M h2) h3
    · cases h
  | .popAt i a, X, c, e, M, G, h => by
    simp only [mE] at h
    split at h
    · simp only [Bool.and_eq_true, decide_eq_true_eq] at h
      obtain ⟨⟨⟨h1, h2⟩, h3⟩, h4⟩ := h
      subst h1
      exact se_popAt G (nm_ok M h2) h3 (mE_ok nc a M G h4)
    · cases h
  | .rem _ _, X, c, e, M, G, h => by simp only [mE] at h; cases h
  | .mindex _ _, X, c, e, M, G, h => by simp only [mE] at h; cases h
  | .mcount _ _, X, c, e, M, G, h => by simp only [mE] at h; cases h
  | .dget _ _ _, X, c, e, M, G, h => by simp only [mE] at h; cases h
  | .lrng as, X, c, e, M, G, h => by
    simp only [mE] at h
    split at h
    · simp only [Bool.and_eq_true, decide_eq_true_eq, Bool.or_eq_true, beq_iff_eq] at h
      obtain ⟨⟨⟨⟨⟨h1, h2⟩, h3⟩, h4⟩, h5⟩, h6⟩ := h
      subst h1 h2
      exact se_lrng G (gl_ok M h4) (gl_ok M h3) (mEs_ok nc as M G h5) h6
    · cases h
  | .comp t it ifs el own, X, c, e, M, G, h => by
    simp only [mE] at h
    split at h
    · simp only [Bool.and_eq_true, decide_eq_true_eq] at h
      obtain ⟨⟨⟨⟨⟨⟨h1, h2⟩, h3⟩, h4⟩, h5⟩, h6⟩, h7⟩ := h
      subst h1
      have bk := blkOk_by h3
      have B := fun s H C cl fp => M.blk bk.kind s H C cl fp
      have Q := fun p => se_comp (pos := p) G (own := ownP c own) (mI_ok nc it M G h2 _) (by rw [M.N, M.sc]; exact bk) ⟨fun s H C cl fp => by rw [ownP_ix]; exact mT_ok t (B s H C cl fp) (G.blk ..) h4, fun s H C cl fp => mE_ok nc el (B s H C cl fp) (G.blk ..) h6, fun s H C cl fp => mEs_ok nc ifs (B s H C cl fp) (G.blk ..) h5, h7⟩
      rw [ownP_ix] at Q
      exact Q _
    · cases h
theorem mEs_ok (nc : ∀ a vs, ¬ K.t a vs) : ∀ (m : List ME) {X : Cx} {c : MC} {e : List Expr}, Mat X c → GoodE X K F → mEs m c e = true → SEs X K (dens F m) e
  | [], X, c, e, M, G, h => by
    simp only [mEs] at h
    cases e with
    | nil => exact .nil
    | cons => cases h
  | a :: as, X, c, e, M, G, h => by
    simp only [mEs] at h
    split at h
    · simp only [Bool.and_eq_true] at h
      exact .cons (mE_ok nc a M G h.1) (mEs_ok nc as M G h.2)
    · cases h
theorem mI_ok (nc : ∀ a vs, ¬ K.t a vs) : ∀ (m : MI) {X : Cx} {c : MC} {e : Expr}, Mat X c → GoodE X K F → mI m c e = true → ∀ tg, SI X K (denI F m) tg e
  | .seq a, X, c, e, M, G, h => by
    simp only [mI, Bool.and_eq_true] at h
    intro tg
    refine si_seq G (mE_ok nc a M G h.2) fun env x => ?_
    have h1 := h.1
    cases e <;> first | rfl | cases h1
  | .rng as, X, c, e, M, G, h => by
    intro tg
    simp only [mI] at h
    split at h
    · simp only [Bool.and_eq_true, decide_eq_true_eq, Bool.or_eq_true, beq_iff_eq, or_assoc] at h
      obtain ⟨⟨⟨h1, h2⟩, h3⟩, h4⟩ := h
      subst h1
      exact si_rng G (gl_ok M h2) (mEs_ok nc as M G h3) h4
    · cases h
  | .zip _ _, X, c, e, M, G, h => by simp only [mI] at h; cases h
end
theorem par2_ok (G : GoodE X K F) (M : Mat X c) {ns : List Str} {ts : List MT} {tgs : List Expr} {as : List Ev} {es : List Expr} {k k2 : Nat} {p p2 pos : Pos} (h : mPar2 c ro ns ts tgs = true) (hl : ts.length = es.length) (ha : SEs X K as es) (hw : swappedStores [.Tuple tgs k p] (.Tuple es k2 p2) X.env = pure (some ns)) :
    SS X K ro (sAsgs ts as) (.Assign [.Tuple tgs k p] (.Tuple es k2 p2) pos) := by
  unfold mPar2 at h
  split at h
  · simp only [Bool.and_eq_true, decide_eq_true_eq] at h
    obtain ⟨⟨⟨h1, h2⟩, h3⟩, h4⟩ := h
    subst h1
    obtain ⟨a1, a2, a3⟩ := lo_ok M h3
    obtain ⟨b1, b2, b3⟩ := lo_ok M h4
    cases ha with
    | nil => cases hl
    | cons ha1 hr => cases hr with
      | nil => cases hl
      | cons ha2 hr => cases hr with
        | nil => exact ss_asgs2 G a1 b1 h2 a2 b2 a3 b3 (.cons ha1 (.cons ha2 .nil)) hw
        | cons _ _ => simp at hl
  · cases h
theorem par3_ok (G : GoodE X K F) (M : Mat X c) {ns : List Str} {ts : List MT} {tgs : List Expr} {as : List Ev} {es : List Expr} {k k2 : Nat} {p p2 pos : Pos} (h : mPar3 c ro ns ts tgs = true) (hl : ts.length = es.length) (ha : SEs X K as es) (hw : swappedStores [.Tuple tgs k p] (.Tuple es k2 p2) X.env = pure (some ns)) :
    SS X K ro (sAsgs ts as) (.Assign [.Tuple tgs k p] (.Tuple es k2 p2) pos) := by
  unfold mPar3 at h
  split at h
  · simp only [Bool.and_eq_true, decide_eq_true_eq] at h
    obtain ⟨⟨⟨⟨⟨⟨h1, h2⟩, h2b⟩, h2c⟩, h3⟩, h4⟩, h5⟩ := h
    subst h1
    obtain ⟨a1, a2, a3⟩ := lo_ok M h3
    obtain ⟨b1, b2, b3⟩ := lo_ok M h4
    obtain ⟨c1, c2, c3⟩ := lo_ok M h5
    cases ha with
    | nil => cases hl
    | cons ha1 hr => cases hr with
      | nil => cases hl
      | cons ha2 hr => cases hr with
        | nil => cases hl
        | cons ha3 hr => cases hr with
          | nil => exact ss_asgs3 G a1 b1 c1 h2 h2b h2c a2 b2 c2 a3 b3 c3 (.cons ha1 (.cons ha2 (.cons ha3 .nil))) hw
          | cons _ _ => simp at hl
  · cases h
theorem comp_set (nc : ∀ a vs, ¬ K.t a vs) (G : GoodE X K F) (M : Mat X c) {m : ME} {e : Expr} {i : Nat} {x : Str} {p pos : Pos} (hc : isComp m = true) (he : mE m c e = true) (hx : isLoc c ro i x = true) : SS X K ro (sAsg (.nm i) (den F m)) (.Assign [.Name x p] e pos) := by
  obtain ⟨a1, a2, a3, a4⟩ := loc_ok M hx
  cases m with
  | comp t it ifs el own =>
    simp only [mE] at he
    split at he
    · simp only [Bool.and_eq_true, decide_eq_true_eq] at he
      obtain ⟨⟨⟨⟨⟨⟨h1, h2⟩, h3⟩, h4⟩, h5⟩, h6⟩, h7⟩ := he
      subst h1
      have bk := blkOk_by h3
      have B := fun s H C cl fp => M.blk bk.kind s H C cl fp
      have Q := fun p1 p2 p3 => ss_setComp (p := p1) (spos := p2) (pos := p3) G (own := ownP c own) a1 a2 a3 a4 (mI_ok nc it M G h2 _) (by rw [M.N, M.sc]; exact bk) ⟨fun s H C cl fp => by rw [ownP_ix]; exact mT_ok t (B s H C cl fp) (G.blk ..) h4, fun s H C cl fp => mE_ok nc el (B s H C cl fp) (G.blk ..) h6, fun s H C cl fp => mEs_ok nc ifs (B s H C cl fp) (G.blk ..) h5, h7⟩
      rw [ownP_ix] at Q
      exact Q _ _ _
    · cases he
  | _ => cases hc
mutual
theorem mS_ok (nc : ∀ a vs, ¬ K.t a vs) (hp : PassesOwn (model X.prog X.w) X.A X.env X.xe) (G : GoodE X K F) (M : Mat X c) : ∀ (m : MS) {s : Stmt}, mS m c ro s = true → SS X K ro (denS F m) s
  | .asg t a, s, h => by
    simp only [mS] at h
    split at h
    · simp only [Bool.and_eq_true] at h
      obtain ⟨⟨h1, h2⟩, h3⟩ := h
      cases t with
      | nm i =>
        simp only [mT] at h2
        split at h2
        · obtain ⟨a1, a2, a3, a4⟩ := loc_ok M h2
          simp only [Bool.or_eq_true] at h3
          rcases h3 with h3 | h3
          · exact ss_set G a1 a2 a3 a4 (mE_ok nc a M G h1) h3
          · exact comp_set nc G M h3 h1 h2
        · cases h2
      | tup ts =>
        simp only [Bool.and_eq_true] at h3
        exact ss_asgT G (mT_ok _ M G h2) (mE_ok nc a M G h1) h3.1 h3.2
    · cases h
  | .asgs ts as, s, h => by
    simp only [mS] at h
    split at h
    · simp only [Bool.and_eq_true, decide_eq_true_eq] at h
      obtain ⟨⟨h1, h2⟩, h3⟩ := h
      split at h2
      · rename_i hw
        simp only [Bool.and_eq_true, decide_eq_true_eq] at h2
        rw [← M.sc] at hw
        exact ss_asgsT G (mTs_ok ts M G h2.1) (mEs_ok nc as M G h1) (swp_ok M.kind hw) h2.2
      · rename_i hw
        rw [← M.sc] at hw
        simp only [Bool.or_eq_true] at h2
        rcases h2 with h2 | h2
        · exact par2_ok G M h2 h3 (mEs_ok nc as M G h1) (swp_ok M.kind hw)
        · exact par3_ok G M h2 h3 (mEs_ok nc as M G h1) (swp_ok M.kind hw)
      · cases h2
    · cases h
  | .setIx i k a, s, h => by
    simp only [mS] at h
    split at h
    · simp only [Bool.and_eq_true, decide_eq_true_eq] at h
      obtain ⟨⟨⟨⟨h1, h2⟩, h3⟩, h4⟩, h5⟩ := h
      exact ss_setIx G nc (nm_ok M h1) (mE_ok nc k M G h2) (mE_ok nc a M G h3) h4 h5
    · cases h
  | .aug i op a, s, h => by
    simp only [mS] at h
    split at h
    · simp only [Bool.and_eq_true, decide_eq_true_eq, Bool.or_eq_true] at h
      obtain ⟨⟨⟨h1, h2⟩, h3⟩, h4⟩ := h
      subst h1
      obtain ⟨a1, a2, a3, a4⟩ := loc_ok M h3
      exact ss_aug G h2 a1 a2 a3 a4 (mE_ok nc a M G h4)
    · cases h
  | .augIx i k op a, s, h => by
    simp only [mS] at h
    split at h
    · simp only [Bool.and_eq_true, decide_eq_true_eq, Bool.or_eq_true] at h
      obtain ⟨⟨⟨⟨⟨h1, h2⟩, h3⟩, h4⟩, h5⟩, h6⟩ := h
      subst h1
      exact ss_augIx G nc h2 (nm_ok M h3) (mE_ok nc k M G h4) h5 (mE_ok nc a M G h6)
    · cases h
  | .ex a, s, h => by
    simp only [mS] at h
    split at h
    · simp only [Bool.and_eq_true] at h
      exact ss_ex (mE_ok nc a M G h.1) h.2
    · cases h
  | .ite t a b, s, h => by
    simp only [mS] at h
    split at h
    · simp only [Bool.and_eq_true] at h
      exact ss_if (mE_ok nc t M G h.1.1) (mSs_ok nc hp G M a h.1.2) (mSs_ok nc hp G M b h.2)
    · cases h
  | .wh t b, s, h => by
    simp only [mS] at h
    split at h
    · simp only [Bool.and_eq_true] at h
      exact ss_wh hp (mE_ok nc t M G h.1) (mSs_ok nc hp G M b h.2)
    · cases h
  | .for t it b, s, h => by
    simp only [mS] at h
    split at h
    · simp only [Bool.and_eq_true] at h
      exact ss_for G hp (mI_ok nc it M G h.1.1 _) (mT_ok t M G h.1.2) (mSs_ok nc hp G M b h.2)
    · cases h
  | .ret a, s, h => by
    simp only [mS] at h
    split at h
    · exact ss_ret (mE_ok nc a M G h)
    · cases h
  | .retN, s, h => by
    simp only [mS] at h
    split at h
    · exact ss_retN
    · cases h
  | .brk, s, h => by
    simp only [mS] at h
    split at h
    · exact ss_brk
    · cases h
  | .ct, s, h => by
    simp only [mS] at h
    split at h
    · exact ss_ct
    · cases h
  | .pass, s, h => by
    simp only [mS] at h
    split at h
    · exact ss_pass
    · cases h
theorem mSs_ok (nc : ∀ a vs, ¬ K.t a vs) (hp : PassesOwn (model X.prog X.w) X.A X.env X.xe) (G : GoodE X K F) (M : Mat X c) : ∀ (m : List MS) {s : List Stmt}, mSs m c ro s = true → SSs X K ro (denSs F m) s
  | [], s, h => by
    simp only [mSs] at h
    cases s with
    | nil => exact ss_nil
    | cons => cases h
  | a :: as, s, h => by
    simp only [mSs] at h
    split at h
    · simp only [Bool.and_eq_true] at h
      exact ss_cons (mS_ok nc hp G M a h.1) (mSs_ok nc hp G M as h.2)
    · cases h
end
end
end MP
set_option Elab.async false
set_option linter.all false
set_option maxRecDepth 100000
/-! MP17: a def whose text matches keeps the interpreter's promise -/
namespace MP
open PySem PySem.Spec PyProof.Rows L2
structure CstOk (Kf : PySem.W.Frag) (K : Cst) : Prop where
  ct : ∀ a vs, K.t a vs → ∀ H, SqT Kf H a vs
  cl : ∀ a vs, K.l a vs → ∀ H, SqL Kf H a vs
  ck : ∀ a vs, K.t a vs → ∃ o, Kf.lookup a = some o ∧ o.cls = .type "tuple"
  nc : ∀ a vs, ¬ K.t a vs
section
variable {P : Program} {w : World} {Kf : PySem.W.Frag} {mg : Str → Option Value} {base : Heap} {K : Cst}
/-- a def of the text keeps g -/
def Is (P : Program) (w : World) (Kf : PySem.W.Frag) (mg : Str → Option Value) (base : Heap) (K : Cst) (k : Nat) (x : Str) (g : Fn) : Prop :=
  ∃ (a : Addr) (fd : FuncData) (ps : List Str) (k' : Nat), k' ≤ k ∧ mg x = some (.ref a) ∧ PySem.W.keepIn Kf (.ref a) = true ∧ Binds Kf fd ps [] ∧ FnOk P w Kf mg base CX0 k' a fd ps (spOf K g)
abbrev FL := List (Str × Fn)
def ftOf (l : FL) : FT := fun x => l.lookup x
def Tab (P : Program) (w : World) (Kf : PySem.W.Frag) (mg : Str → Option Value) (base : Heap) (K : Cst) (k : Nat) (l : FL) : Prop := ∀ x g, ftOf l x = some g → Is P w Kf mg base K k x g
theorem Is.mono {j k : Nat} {x : Str} {g : Fn} (h : Is P w Kf mg base K j x g) (hj : j ≤ k) : Is P w Kf mg base K k x g := by
  obtain ⟨a, fd, ps, k', h1, h2⟩ := h
  exact ⟨a, fd, ps, k', by omega, h2⟩
theorem tab_nil {k : Nat} : Tab P w Kf mg base K k [] := fun x g h => by cases h
theorem tab_cons {k j : Nat} {x : Str} {g : Fn} {l : FL} (h : Is P w Kf mg base K j x g) (hj : j ≤ k) (t : Tab P w Kf mg base K k l) : Tab P w Kf mg base K k ((x, g) :: l) := fun y g' e => by
  unfold ftOf at e
  rw [List.lookup_cons] at e
  split at e
  · rename_i hx
    have : y = x := by simpa using hx
    subst this
    cases e
    exact h.mono hj
  · exact t y g' e
def roB (io : List Bool) : Nat → Bool := fun i => io.getD i false
theorem outs_get : ∀ {io : List Bool} {ρ : Env} {os : List Ent} {i : Nat} {e : Ent}, outsOf ρ io = some os → get (outEnv io os) i = some e → roB io i = true ∧ get ρ i = some e
  | [], ρ, os, i, e, h, g => by cases os <;> simp [outEnv, get] at g
  | true :: bs, [], os, i, e, h, g => by simp [outsOf] at h
  | false :: bs, [], os, i, e, h, g => by simp [outsOf] at h
  | true :: bs, x :: r, os, i, e, h, g => by
    simp only [outsOf] at h
    split at h
    · rename_i z es h2
      cases h
      cases i with
      | zero => exact ⟨rfl, g⟩
      | succ i =>
        obtain ⟨a, b⟩ := outs_get (i := i) h2 g
        exact ⟨a, b⟩
    · cases h
  | false :: bs, x :: r, os, i, e, h, g => by
    simp only [outsOf] at h
    cases i with
    | zero =>
      cases os <;> simp [outEnv, get] at g
    | succ i =>
      have g' : get (outEnv bs os) i = some e := by cases os <;> exact g
      obtain ⟨a, b⟩ := outs_get (i := i) h g'
      exact ⟨a, b⟩
theorem outs_len : ∀ {io : List Bool} {ρ : Env} {os : List Ent}, outsOf ρ io = some os → (outEnv io os).length = io.length
  | [], ρ, os, h => by cases os <;> rfl
  | true :: bs, [], os, h => by simp [outsOf] at h
  | false :: bs, [], os, h => by simp [outsOf] at h
  | true :: bs, x :: r, os, h => by
    simp only [outsOf] at h
    split at h
    · rename_i z es h2
      cases h
      simp only [outEnv, List.length_cons, outs_len h2]
    · cases h
  | false :: bs, x :: r, os, h => by
    simp only [outsOf] at h
    have := outs_len h
    cases os <;> simp only [outEnv, List.length_cons, this]
theorem modes_len : ∀ {io : List Bool} {xs : List Ent}, modesOk io xs = true → io.length = xs.length
  | [], [], h => rfl
  | [], _ :: _, h => by cases h
  | _ :: _, [], h => by cases h
  | b :: bs, x :: xs, h => by
    simp only [modesOk, Bool.and_eq_true] at h
    simp only [List.length_cons, modes_len h.2]
section
variable {xs : List Ent} {vs : List V} {n : Nat} {N : List Str}
theorem start_get {i : Nat} {e : Ent} (h : get (start' xs n) i = some e) : i < xs.length ∧ get (xs.map some) i = some e := by
  rw [get_eq] at h ⊢
  unfold start' at h
  by_cases hi : i < xs.length
  · rw [List.getElem?_append_left (by simpa using hi)] at h
    exact ⟨hi, h⟩
  · rw [List.getElem?_append_right (by simpa using hi)] at h
    rw [List.getElem?_replicate] at h
    split at h <;> cases h
theorem start_slot {i : Nat} (h : i < vs.length) : (start N vs)[i]? = (vs.map some)[i]? := by
  unfold L2.start
  rw [List.getElem?_append_left (by simpa using h)]
theorem start_own (hl : xs.length = vs.length) {a : Addr} (o : Own (start' xs n) (start N vs) a) : Own (xs.map some) (vs.map some) a := by
  obtain ⟨i, e, v, g, s, w⟩ := o
  obtain ⟨hi, g'⟩ := start_get g
  rw [start_slot (by omega)] at s
  exact ⟨i, e, v, g', s, w⟩
theorem start_rel {Fz : Addr → Prop} {H : Hp} (hl : xs.length = vs.length) (hn : N.length = n) (R : Rel K Fz (xs.map some) (vs.map some) H) : Rel K Fz (start' xs n) (start N vs) H where
  len := by simp only [start', L2.start, List.length_append, List.length_map, List.length_replicate, hl, hn]
  re := fun i e g => by
    obtain ⟨hi, g'⟩ := start_get g
    obtain ⟨v, s, r⟩ := R.re i e g'
    exact ⟨v, by rw [start_slot (by omega)]; exact s, r⟩
  ap := fun i j e e' v v' a g1 g2 s1 s2 o1 o2 => by
    obtain ⟨h1, g1'⟩ := start_get g1
    obtain ⟨h2, g2'⟩ := start_get g2
    rw [start_slot (by omega)] at s1 s2
    exact R.ap i j e e' v v' a g1' g2' s1 s2 o1 o2
  fzH := R.fzH
theorem back_own {io : List Bool} {ρ' : Env} {σ' : Sl} {os : List Ent} (hio : io.length = vs.length) (ho : outsOf ρ' io = some os) (k : Keeps (roB io) (start N vs) σ') {a : Addr} (o : Own (outEnv io os) (vs.map some) a) : Own ρ' σ' a := by
  obtain ⟨i, e, v, g, s, w⟩ := o
  obtain ⟨h1, h2⟩ := outs_get ho g
  have hi : i < vs.length := by
    have := get_lt g
    rw [outs_len ho] at this
    omega
  exact ⟨i, e, v, h2, by rw [k i h1, start_slot hi]; exact s, w⟩
theorem back_rel {Fz' : Addr → Prop} {H' : Hp} {io : List Bool} {ρ' : Env} {σ' : Sl} {os : List Ent} (hio : io.length = vs.length) (ho : outsOf ρ' io = some os) (k : Keeps (roB io) (start N vs) σ') (R : Rel K Fz' ρ' σ' H') : Rel K Fz' (outEnv io os) (vs.map some) H' := by
  have slot : ∀ i e, get (outEnv io os) i = some e → get ρ' i = some e ∧ σ'[i]? = (vs.map some)[i]? := fun i e g => by
    obtain ⟨h1, h2⟩ := outs_get ho g
    have hi : i < vs.length := by
      have := get_lt g
      rw [outs_len ho] at this
      omega
    exact ⟨h2, by rw [k i h1, start_slot hi]⟩
  refine ⟨by rw [outs_len ho, List.length_map, hio], fun i e g => ?_, fun i j e e' v v' a g1 g2 s1 s2 o1 o2 => ?_, R.fzH⟩
  · obtain ⟨h1, h2⟩ := slot i e g
    obtain ⟨v, s, r⟩ := R.re i e h1
    exact ⟨v, by rw [← h2]; exact s, r⟩
  · obtain ⟨h1, h2⟩ := slot i e g1
    obtain ⟨h3, h4⟩ := slot j e' g2
    exact R.ap i j e e' v v' a h1 h3 (by rw [h2]; exact s1) (by rw [h4]; exact s2) o1 o2
end
def scC (N ps : List Str) (sc : Scope) : Bool :=
  (match sc.kind with | .function => true | _ => false) && !sc.isCoroutine && !sc.isGenerator && decide N.Nodup && decide (N.take ps.length = ps) &&
    (ps.all fun x => match sc.names.lookup x with
      | some .local => true
      | some .cell => true
      | _ => false) && (sc.names.all fun y => decide (y.2 ≠ .free))
theorem sc_ok {N ps : List Str} {sc : Scope} (h : scC N ps sc = true) : FnScope N ps sc := by
  unfold scC at h
  simp only [Bool.and_eq_true, List.all_eq_true, decide_eq_true_eq, Bool.not_eq_true'] at h
  obtain ⟨⟨⟨⟨⟨⟨h1, h2⟩, h3⟩, h4⟩, h5⟩, h6⟩, h7⟩ := h
  refine ⟨?_, h2, h3, h4, h5, fun x hx => ?_, h7⟩
  · split at h1
    · assumption
    · cases h1
  · have q := h6 x hx
    split at q
    · exact .inl (by assumption)
    · exact .inr (by assumption)
    · cases q
def defC (d : MD) (N ps : List Str) (st : Stmt) : Bool :=
  mSs d.body ⟨N, defScope st, fun _ => true⟩ (roB d.io) (defBody st) && decide (N.length = d.n) && decide (d.io.length = ps.length) && scC N ps (defScope st)
theorem body_ok {X : Cx} {F : FT} {d : MD} {N ps : List Str} {st : Stmt} {g : Fn} (G : GoodE X K F) (nc : ∀ a vs, ¬ K.t a vs) (hp : PassesOwn (model X.prog X.w) X.A X.env X.xe) (hX : Mat X ⟨N, defScope st, fun _ => true⟩)
    (hc : defC d N ps st = true) (hio : g.io = d.io) (hsem : ∀ xs y os, modesOk g.io xs = true → g.sem xs = some (y, os) → runD F d xs = some (y, os)) {vs : List V} {H : Hp} {Q : VK} {E : XK} (sp : spOf K g vs H Q E) :
    ∃ t, PSs X (defBody st) t ∧ t { nx := fun _ H' => Q .non H', rt := Q } (start N vs) H := by
  unfold defC at hc
  simp only [Bool.and_eq_true, decide_eq_true_eq] at hc
  obtain ⟨⟨⟨hm, hn⟩, hl⟩, hs⟩ := hc
  obtain ⟨t, pt, ok⟩ := mSs_ok nc hp G hX d.body hm
  obtain ⟨Fz, xs, y, os, h1, h2, R, q⟩ := sp
  have hr := hsem xs y os h2 h1
  have ml := modes_len h2
  have lv : xs.length = vs.length := by have := R.len; simpa using this
  have Rs := start_rel (n := d.n) (N := N) lv hn R
  have fin : ∀ {v : V} {ρ' : Env} {σ' : Sl} {H' : Hp} {Fz' : Addr → Prop} {y : Ent}, (∀ v H' Fz', Mv K Fz (xs.map some) (vs.map some) H Fz' (outEnv g.io os) (vs.map some) H' → Out K (xs.map some) (vs.map some) H Fz' (outEnv g.io os) (vs.map some) H' y v → Q v H') →
      outsOf ρ' d.io = some os → Mv K Fz (start' xs d.n) (start N vs) H Fz' ρ' σ' H' → Keeps (roB d.io) (start N vs) σ' → Out K (start' xs d.n) (start N vs) H Fz' ρ' σ' H' y v → Q v H' := fun {v ρ' σ' H' Fz' y} q ho M k O => by
    have iv : d.io.length = vs.length := by rw [← hio]; omega
    have bo : ∀ {a : Addr}, Own (outEnv d.io os) (vs.map some) a → Own ρ' σ' a := fun o => back_own iv ho k o
    refine q v H' Fz' ⟨?_, M.fz, fun a f => ?_, fun a o => ?_, fun b o hb nb => ?_⟩ ⟨⟨O.re, fun a ov o => ?_⟩, fun a ov => ?_⟩
    · rw [hio]; exact back_rel iv ho k M.rel
    · rcases M.fzn a f with z | z | z
      · exact .inl z
      · exact .inr (.inl (start_own lv z))
      · exact .inr (.inr z)
    · rw [hio] at o
      rcases M.own a (bo o) with z | z
      · exact .inl (start_own lv z)
      · exact .inr z
    · exact M.frame b o hb fun z => nb (start_own lv z)
    · rw [hio] at o
      exact O.no a ov (bo o)
    · rcases O.new a ov with z | z
      · exact .inl (start_own lv z)
      · exact .inr z
  unfold runD at hr
  cases hb : denSs F d.body (start' xs d.n) with
  | none => rw [hb] at hr; cases hr
  | some z =>
    obtain ⟨fl, ρ'⟩ := z
    rw [hb] at hr
    refine ⟨t, pt, ok Fz _ _ H fl ρ' _ hb Rs ?_⟩
    cases fl with
    | nx =>
      dsimp only at hr
      cases ho : outsOf ρ' d.io with
      | none => rw [ho] at hr; cases hr
      | some os' =>
        rw [ho] at hr
        cases hr
        exact fun σ' H' Fz' M k => fin (v := .non) q ho M k (Out.data (by simp only [RF]))
    | ret e =>
      dsimp only at hr
      cases ho : outsOf ρ' d.io with
      | none => rw [ho] at hr; cases hr
      | some os' =>
        rw [ho] at hr
        cases hr
        exact fun v σ' H' Fz' M k O => fin q ho M k O
    | brk => cases hr
    | ct => cases hr
theorem Is.fn {X : Cx} {k : Nat} {l : FL} (T : Tab X.prog X.w X.K X.mg X.base K k l) (r : Room k X.A) : ∀ f g, ftOf l f = some g → FnIs X K f g := fun f g e => by
  obtain ⟨a, fd, ps, k', h1, h2, h3, h4, h5⟩ := T f g e
  exact ⟨a, fd, ps, k', h2, h3, h4, h5, r.mono h1⟩
/-- THE RULE for a def of the text -/
theorem def_is {x qual : Str} {st : Stmt} {f : Addr} {fd : FuncData} {d : MD} {N ps : List Str} {g : Fn} {l : FL} {k : Nat} (C : CstOk Kf K) (bn : ∀ x ∈ bltL, mg x = none) (Fu : Fun Kf x qual st f fd) (hmg : mg x = some (.ref f))
    (hb : ∀ (kV doc pm : Value) (an : Option Addr) (cdv ct : Value) (us : List Value), us.length = ps.length → bindArgs (PySem.W.fnOf x qual (defArgs st) (defBody st) (defScope st) .none kV doc pm an cdv ct) ⟨us, []⟩ = pure (ps.zip us))
    (hc : defC d N ps st = true) (hio : g.io = d.io) (T : Tab P w Kf mg base K k l) (hsem : ∀ xs y os, modesOk g.io xs = true → g.sem xs = some (y, os) → runD (ftOf l) d xs = some (y, os)) : Is P w Kf mg base K (k + 1) x g := by
  have hs := hc
  unfold defC at hs
  simp only [Bool.and_eq_true, decide_eq_true_eq] at hs
  obtain ⟨⟨⟨hm, hn⟩, hl⟩, hs⟩ := hs
  have S := sc_ok hs
  refine ⟨f, fd, ps, k + 1, Nat.le_refl _, hmg, Fu.kp, Fu.binds hb, Fu.ok S (fun vs H Q E sp => ?_) fun cdv A outer s H vs Q E r sp => ?_⟩
  · obtain ⟨Fz, xs, y, os, h1, h2, R, q⟩ := sp
    have := R.len
    have := modes_len h2
    rw [hio] at this
    simp at *
    omega
  · refine body_ok (X := (cxOf CX0 P w Kf mg base N qual (defScope st) f cdv A outer s H E).nox) (F := ftOf l) ?_ C.nc PassesOwn.never ⟨rfl, rfl, rfl, S.kind⟩ hc hio hsem sp
    refine ⟨S.nd, rfl, ?_, C.ct, C.cl, C.ck, bn, Is.fn (X := (cxOf CX0 P w Kf mg base N qual (defScope st) f cdv A outer s H E).nox) T r⟩
    have := r.un
    show _ + 65 < cLine
    have e : ((cxOf CX0 P w Kf mg base N qual (defScope st) f cdv A outer s H E).nox).A.units = (A.deeper (envOfC qual (defScope st) s.heap.objs.size f cdv)).units := rfl
    omega
end
end MP
set_option Elab.async false
set_option linter.all false
set_option maxRecDepth 100000
/-! MP18: plain rules for running the mini language -/
namespace MP
open PySem PySem.Spec PyProof.Rows L2
section
variable {F : FT} {ρ : Env} {Q : Fl → Env → Prop} {r : List MS}
/-- a block's run ends so -/
structure wp (F : FT) (b : List MS) (ρ : Env) (Q : Fl → Env → Prop) : Prop where
  ok : match denSs F b ρ with
    | some (fl, ρ') => Q fl ρ'
    | none => False
theorem wp_eq {F : FT} {b : List MS} {ρ : Env} {Q : Fl → Env → Prop} : wp F b ρ Q = (match denSs F b ρ with
  | some (fl, ρ') => Q fl ρ'
  | none => False) := propext ⟨fun h => h.ok, fun h => ⟨h⟩⟩
/-- a statement's end, and the rest -/
def cont (F : FT) (r : List MS) (Q : Fl → Env → Prop) : Fl → Env → Prop := fun fl ρ =>
  match fl with
  | .nx => wp F r ρ Q
  | fl => Q fl ρ
def k1 (x : R Fl) (C : Fl → Env → Prop) : Prop :=
  match x with
  | some (fl, ρ) => C fl ρ
  | none => False
theorem wp_k1 {b : List MS} : wp F b ρ Q = k1 (denSs F b ρ) Q := by
  rw [wp_eq]
  unfold k1
  cases denSs F b ρ <;> rfl
theorem wp_cons {s : MS} : wp F (s :: r) ρ Q = k1 (denS F s ρ) (cont F r Q) := by
  rw [wp_eq]
  unfold k1 cont
  simp only [denSs, sSeq]
  cases h : denS F s ρ with
  | none => rfl
  | some z =>
    obtain ⟨fl, ρ1⟩ := z
    cases fl <;> simp [wp_eq] <;> (cases denSs F r ρ1 <;> rfl)
theorem wp_nil : wp F [] ρ Q = Q .nx ρ := by
  rw [wp_eq]
  simp only [denSs]
theorem k1_some {fl : Fl} {C : Fl → Env → Prop} : k1 (some (fl, ρ)) C = C fl ρ := rfl
theorem cont_nx : cont F r Q .nx ρ = wp F r ρ Q := rfl
theorem cont_ret {e : Ent} : cont F r Q (.ret e) ρ = Q (.ret e) ρ := rfl
theorem cont_brk : cont F r Q .brk ρ = Q .brk ρ := rfl
theorem cont_ct : cont F r Q .ct ρ = Q .ct ρ := rfl
theorem wp_asg {t : MT} {e : ME} : wp F (.asg t e :: r) ρ Q = k1 (sAsg t (den F e) ρ) (cont F r Q) := by rw [wp_cons]; simp only [denS]
theorem wp_asgs {t : List MT} {e : List ME} : wp F (.asgs t e :: r) ρ Q = k1 (sAsgs t (dens F e) ρ) (cont F r Q) := by rw [wp_cons]; simp only [denS]
theorem wp_setIx {i : Nat} {k e : ME} : wp F (.setIx i k e :: r) ρ Q = k1 (sSetIx i (den F k) (den F e) ρ) (cont F r Q) := by rw [wp_cons]; simp only [denS]
theorem wp_aug {i : Nat} {o : Operator} {e : ME} : wp F (.aug i o e :: r) ρ Q = k1 (sAug i o (den F e) ρ) (cont F r Q) := by rw [wp_cons]; simp only [denS]
theorem wp_augIx {i : Nat} {o : Operator} {k e : ME} : wp F (.augIx i k o e :: r) ρ Q = k1 (sAugIx i (den F k) o (den F e) ρ) (cont F r Q) := by rw [wp_cons]; simp only [denS]
theorem wp_ex {e : ME} : wp F (.ex e :: r) ρ Q = k1 (sEx (den F e) ρ) (cont F r Q) := by rw [wp_cons]; simp only [denS]
theorem wp_ret {e : ME} : wp F (.ret e :: r) ρ Q = k1 (sRet (den F e) ρ) Q := by
  rw [wp_cons]
  simp only [denS, sRet]
  cases evRet (den F e) ρ <;> rfl
theorem wp_retN : wp F (.retN :: r) ρ Q = Q (.ret (.val .none)) ρ := by rw [wp_cons]; simp only [denS, k1, cont]
theorem wp_brk : wp F (.brk :: r) ρ Q = Q .brk ρ := by rw [wp_cons]; simp only [denS, k1, cont]
theorem wp_ct : wp F (.ct :: r) ρ Q = Q .ct ρ := by rw [wp_cons]; simp only [denS, k1, cont]
theorem wp_pass : wp F (.pass :: r) ρ Q = wp F r ρ Q := by rw [wp_cons]; simp only [denS, k1, cont]
/-- a test, and the two ways on -/
def kT (x : R Bool) (A B : Env → Prop) : Prop :=
  match x with
  | some (true, ρ) => A ρ
  | some (false, ρ) => B ρ
  | none => False
theorem wp_ite {c : ME} {a b : List MS} : wp F (.ite c a b :: r) ρ Q = kT ((den F c).t ρ) (fun ρ => wp F a ρ (cont F r Q)) (fun ρ => wp F b ρ (cont F r Q)) := by
  rw [wp_cons]
  simp only [denS, sIf]
  unfold kT
  cases h : (den F c).t ρ with
  | none => rfl
  | some z =>
    obtain ⟨t, ρ1⟩ := z
    cases t <;> simp only [wp_k1]
theorem kT_true {A B : Env → Prop} : kT (some (true, ρ)) A B = A ρ := rfl
theorem kT_false {A B : Env → Prop} : kT (some (false, ρ)) A B = B ρ := rfl
theorem kT_dec {p : Prop} [Decidable p] {A B : Env → Prop} : kT (some (decide p, ρ)) A B = if p then A ρ else B ρ := by
  by_cases h : p <;> simp [kT, h]
/-- THE RULE for a for -/
theorem wp_for {t : MT} {it : MI} {b : List MS} {ds : List D} {ρ1 : Env} (hi : denI F it ρ = some (ds, ρ1)) (P : Nat → Env → Prop) (h0 : P 0 ρ1)
    (hs : ∀ i ρ d, ds[i]? = some d → P i ρ → ∃ ρ', asgT t (.val d) ρ = some ρ' ∧ wp F b ρ' fun fl ρ2 => match fl with
      | .nx => P (i + 1) ρ2
      | .ct => P (i + 1) ρ2
      | .brk => wp F r ρ2 Q
      | .ret e => Q (.ret e) ρ2) (hd : ∀ ρ, P ds.length ρ → wp F r ρ Q) : wp F (.for t it b :: r) ρ Q := by
  rw [wp_cons]
  simp only [denS, sFor, hi]
  have gen : ∀ (n : Nat) (es : List D) (ρ : Env), n + es.length = ds.length → (∀ i, es[i]? = ds[n + i]?) → P n ρ → k1 (runFor (denSs F b) t es ρ) (cont F r Q) := by
    intro n es
    induction es generalizing n with
    | nil =>
      intro ρ h1 _ p
      simp only [runFor, k1, cont]
      exact hd ρ (by simp at h1; rw [← h1]; exact p)
    | cons e es ih =>
      intro ρ h1 h2 p
      have h3 := h2 0
      simp at h3
      obtain ⟨ρ', h4, h5⟩ := hs n ρ e h3.symm p
      simp only [runFor, h4]
      rw [wp_eq] at h5
      cases h6 : denSs F b ρ' with
      | none => rw [h6] at h5; exact h5.elim
      | some z =>
        obtain ⟨fl, ρ2⟩ := z
        rw [h6] at h5
        have go : P (n + 1) ρ2 → k1 (runFor (denSs F b) t es ρ2) (cont F r Q) := fun p => ih (n + 1) ρ2 (by simp at h1; omega) (fun i => by
          have := h2 (i + 1)
          simp at this
          rw [this]
          congr 1
          omega) p
        cases fl with
        | nx => exact go h5
        | ct => exact go h5
        | brk => exact h5
        | ret e => exact h5
  exact gen 0 ds ρ1 (by simp) (fun i => by simp) h0
/-- THE RULE for a while: a measure -/
theorem wp_wh {c : ME} {b : List MS} (P : Nat → Env → Prop) {n : Nat} (h0 : P n ρ)
    (hs : ∀ n ρ, P n ρ → kT ((den F c).t ρ) (fun ρ' => wp F b ρ' fun fl ρ2 => match fl with
      | .nx => ∃ m, m < n ∧ P m ρ2
      | .ct => ∃ m, m < n ∧ P m ρ2
      | .brk => wp F r ρ2 Q
      | .ret e => Q (.ret e) ρ2) (fun ρ' => wp F r ρ' Q)) : wp F (.wh c b :: r) ρ Q := by
  rw [wp_cons]
  simp only [denS, sWh]
  have gen : ∀ (n : Nat) (ρ : Env), P n ρ → ∃ k fl ρ', iterN (turnW (den F c).t (denSs F b)) k ρ = some (fl, ρ') ∧ cont F r Q fl ρ' := by
    intro n
    induction n using Nat.strongRecOn with
    | ind n ih =>
      intro ρ p
      have q := hs n ρ p
      unfold kT at q
      cases h : (den F c).t ρ with
      | none => rw [h] at q; exact q.elim
      | some z =>
        obtain ⟨t, ρ1⟩ := z
        rw [h] at q
        cases t with
        | false => exact ⟨1, .nx, ρ1, by simp [iterN, turnW, h], q⟩
        | true =>
          dsimp only at q
          rw [wp_eq] at q
          cases h6 : denSs F b ρ1 with
          | none => rw [h6] at q; exact q.elim
          | some z =>
            obtain ⟨fl, ρ2⟩ := z
            rw [h6] at q
            have go : (∃ m, m < n ∧ P m ρ2) → turnW (den F c).t (denSs F b) ρ = some (.inl ρ2) → ∃ k fl ρ', iterN (turnW (den F c).t (denSs F b)) k ρ = some (fl, ρ') ∧ cont F r Q fl ρ' := fun ⟨m, hm, pm⟩ e => by
              obtain ⟨k, fl, ρ', e1, e2⟩ := ih m hm ρ2 pm
              exact ⟨k + 1, fl, ρ', by simp only [iterN, e, e1], e2⟩
            cases fl with
            | nx => exact go q (by simp [turnW, h, h6])
            | ct => exact go q (by simp [turnW, h, h6])
            | brk => exact ⟨1, .nx, ρ2, by simp [iterN, turnW, h, h6], q⟩
            | ret e => exact ⟨1, .ret e, ρ2, by simp [iterN, turnW, h, h6], q⟩
  obtain ⟨k, fl, ρ', e1, e2⟩ := gen n ρ h0
  have hw : iterW (turnW (den F c).t (denSs F b)) ρ = some (fl, ρ') := by
    have same : ∀ (f : Env → Option (Env ⊕ (Fl × Env))) (a b : Nat) (ρ : Env) (x y : Fl × Env), iterN f a ρ = some x → iterN f b ρ = some y → x = y := by
      intro f a
      induction a with
      | zero => intro b ρ x y h; cases h
      | succ a ih =>
        intro b ρ x y h1 h2
        cases b with
        | zero => cases h2
        | succ b =>
          simp only [iterN] at h1 h2
          split at h1
          · rename_i e; rw [e] at h2; exact ih b _ x y h1 h2
          · rename_i e; rw [e] at h2; cases h1; cases h2; rfl
          · cases h1
    unfold iterW
    have ex : ∃ n, (iterN (turnW (den F c).t (denSs F b)) n ρ).isSome = true := ⟨k, by rw [e1]; rfl⟩
    rw [dif_pos ex]
    have hc := ex.choose_spec
    obtain ⟨z, hz⟩ := Option.isSome_iff_exists.mp hc
    rw [hz]
    rw [same _ _ _ _ _ _ hz e1]
  rw [hw]
  exact e2
/-- a def's call -/
theorem runD_of {d : MD} {args : List Ent} {y : Ent} {os : List Ent} (h : wp F d.body (start' args d.n) fun fl ρ => match fl with
    | .ret x => x = y ∧ outsOf ρ d.io = some os
    | .nx => .val .none = y ∧ outsOf ρ d.io = some os
    | _ => False) : runD F d args = some (y, os) := by
  rw [wp_eq] at h
  unfold runD
  split at h
  · rename_i fl ρ' e
    rw [e]
    cases fl with
    | ret x => obtain ⟨rfl, h2⟩ := h; simp only [h2, Option.map]
    | nx => obtain ⟨rfl, h2⟩ := h; simp only [h2, Option.map]
    | brk => exact h.elim
    | ct => exact h.elim
  · exact h.elim
/-- ... that gives one of several -/
theorem runD_ex {d : MD} {args : List Ent} {P : Ent → List Ent → Prop} (h : wp F d.body (start' args d.n) fun fl ρ => match fl with
    | .ret x => ∃ os, outsOf ρ d.io = some os ∧ P x os
    | .nx => ∃ os, outsOf ρ d.io = some os ∧ P (.val .none) os
    | _ => False) : ∃ y os, runD F d args = some (y, os) ∧ P y os := by
  rw [wp_eq] at h
  unfold runD
  split at h
  · rename_i fl ρ' e
    rw [e]
    cases fl with
    | ret x => obtain ⟨os, h2, h3⟩ := h; exact ⟨x, os, by simp only [h2, Option.map], h3⟩
    | nx => obtain ⟨os, h2, h3⟩ := h; exact ⟨_, os, by simp only [h2, Option.map], h3⟩
    | brk => exact h.elim
    | ct => exact h.elim
  · exact h.elim
end
section
variable {F : FT}
theorem den_v {i : Nat} : den F (.v i) = evV i := by simp only [den]
theorem den_int {k : Int} : den F (.int k) = evC (.int k) := by simp only [den]
theorem den_bl {k : Bool} : den F (.bl k) = evC (.bool k) := by simp only [den]
theorem den_non : den F .non = evC .none := by simp only [den]
theorem den_str {k : Str} : den F (.str k) = evC (.str k) := by simp only [den]
theorem den_bin {o : Operator} {a b : ME} : den F (.bin o a b) = evOp (fBin o) [den F a, den F b] := by simp only [den]
theorem den_neg {a : ME} : den F (.neg a) = evOp fNeg [den F a] := by simp only [den]
theorem den_cmp {o : CmpOp} {a b : ME} : den F (.cmp o a b) = evCmp (fCmp o) [den F a, den F b] := by simp only [den]
theorem den_cmp2 {o p : CmpOp} {a b c : ME} : den F (.cmp2 o p a b c) = evCmp2 o p (den F a) (den F b) (den F c) := by simp only [den]
theorem den_band {as : List ME} : den F (.band as) = evAnd (dens F as) := by simp only [den]
theorem den_bor {as : List ME} : den F (.bor as) = evOr (dens F as) := by simp only [den]
theorem den_bnot {a : ME} : den F (.bnot a) = evNot (den F a) := by simp only [den]
theorem den_ife {c a b : ME} : den F (.ife c a b) = evIf (den F c) (den F a) (den F b) := by simp only [den]
theorem den_tup {as : List ME} : den F (.tup as) = evTup (dens F as) := by simp only [den]
theorem den_lst {as : List ME} : den F (.lst as) = evLst (dens F as) := by simp only [den]
theorem den_dnewK : den F .dnewK = evE1 (.dct []) := by simp only [den]
theorem den_dnewT : den F .dnewT = evE1 (.dctT []) := by simp only [den]
theorem den_dct {ks : List Key} {as : List ME} : den F (.dct ks as) = evDct ks (dens F as) := by simp only [den]
theorem den_idx {a b : ME} : den F (.idx a b) = evOp fIdx [den F a, den F b] := by simp only [den]
theorem den_slc {a lo hi : ME} : den F (.slc a lo hi) = evSlc (den F a) (match lo with | .nop => none | _ => some (den F lo)) (match hi with | .nop => none | _ => some (den F hi)) := by
  simp only [den] <;> rfl
theorem den_rev {a : ME} : den F (.rev a) = evOp fRev [den F a] := by simp only [den]
theorem den_blt {f : Blt} {as : List ME} : den F (.blt f as) = evOp (bltSem f) (dens F as) := by simp only [den]
theorem den_isi {t : Ty} {a : ME} : den F (.isi t a) = evCmp (fIsi t) [den F a] := by simp only [den]
theorem den_call {f : Str} {as : List ME} : den F (.call f as) = evCall F f (dens F as) := by simp only [den]
theorem den_app {i : Nat} {a : ME} : den F (.app i a) = evApp i (den F a) := by simp only [den]
theorem den_ext {i : Nat} {a : ME} : den F (.ext i a) = evExt i (den F a) := by simp only [den]
theorem den_pop {i : Nat} : den F (.pop i) = evPop i := by simp only [den]
theorem den_popAt {i : Nat} {a : ME} : den F (.popAt i a) = evPopAt i (den F a) := by simp only [den]
theorem den_lrng {as : List ME} : den F (.lrng as) = evLrng (dens F as) := by simp only [den]
theorem den_comp {t : MT} {it : MI} {ifs : List ME} {e : ME} {own : List Nat} : den F (.comp t it ifs e own) = evComp t (denI F it) (dens F ifs) (den F e) own := by simp only [den]
theorem denI_seq {a : ME} : denI F (.seq a) = evSeq (den F a) := by simp only [denI]
theorem denI_rng {as : List ME} : denI F (.rng as) = evRng (dens F as) := by simp only [denI]
theorem dens_nil : dens F [] = [] := by simp only [dens]
theorem dens_cons {a : ME} {r : List ME} : dens F (a :: r) = den F a :: dens F r := by simp only [dens]
theorem rng1 {j : Int} (h : inB j = true) : rngSem [.val (.int j)] = some (rngL 0 j.toNat) := by
  unfold rngSem
  exact if_pos h
theorem rng2 {i j : Int} (h : inB i = true) (h2 : inB j = true) : rngSem [.val (.int i), .val (.int j)] = some (rngL i (j - i).toNat) := by
  unfold rngSem
  exact if_pos (by rw [h, h2]; rfl)
end
end MP
set_option Elab.async false
set_option linter.all false
set_option maxRecDepth 100000
/-! MP19: the helpers that all the laws share -/
namespace MP
open PySem PySem.Spec PyProof.Rows L2
theorem wp_mono {F : FT} {b : List MS} {ρ : Env} {Q Q' : Fl → Env → Prop} (h : wp F b ρ Q) (w : ∀ fl ρ, Q fl ρ → Q' fl ρ) : wp F b ρ Q' := by
  rw [wp_eq] at h ⊢
  split at h
  · exact w _ _ h
  · exact h.elim
theorem den_comp_nm {F : FT} {t : MT} {it : MI} {ifs : List ME} {e : ME} {own : List Nat} : (den F (.comp t it ifs e own)).nm = none := by simp only [den_comp, evComp, evMk]
/-- THE RULE for a comprehension -/
theorem comp_run {F : FT} {t : MT} {it : MI} {ifs : List ME} {e : ME} {own : List Nat} {ρ ρ1 : Env} {ds : List D} (hi : denI F it ρ = some (ds, ρ1)) (P : Nat → List D → Env → Prop) (h0 : P 0 [] ρ1)
    (hs : ∀ i ρ acc d, ds[i]? = some d → P i acc ρ → ∃ ρ', asgT t (.val d) (wipeE ρ own) = some ρ' ∧ ((∃ ρ2, tAnds (dens F ifs) ρ' = some (false, ρ2) ∧ P (i + 1) acc ρ2) ∨
      (∃ ρ2 x y ρ3, tAnds (dens F ifs) ρ' = some (true, ρ2) ∧ (den F e).e ρ2 = some (x, ρ3) ∧ toD x = some y ∧ acc.length < LIM ∧ P (i + 1) (acc ++ [y]) ρ3))) :
    ∃ ys ρ2, (den F (.comp t it ifs e own)).e ρ = some (.lst ys, backE ρ1 ρ2 own) ∧ P ds.length ys ρ2 := by
  have gen : ∀ (n : Nat) (es : List D) (ρ : Env) (acc : List D), n + es.length = ds.length → (∀ i, es[i]? = ds[n + i]?) → P n acc ρ → ∃ ys ρ2, runComp (tAnds (dens F ifs)) (den F e).e t own es ρ acc = some (ys, ρ2) ∧ P ds.length ys ρ2 := by
    intro n es
    induction es generalizing n with
    | nil =>
      intro ρ acc h1 _ p
      exact ⟨acc, ρ, rfl, by simp at h1; rw [← h1]; exact p⟩
    | cons x es ih =>
      intro ρ acc h1 h2 p
      have h3 := h2 0
      simp at h3
      obtain ⟨ρ', h4, h5⟩ := hs n ρ acc x h3.symm p
      have nxt : ∀ i, es[i]? = ds[n + 1 + i]? := fun i => by
        have := h2 (i + 1)
        simp at this
        rw [this]
        congr 1
        omega
      have h1' : n + 1 + es.length = ds.length := by simp at h1; omega
      rcases h5 with ⟨ρ2, h6, h7⟩ | ⟨ρ2, x, y, ρ3, h6, h7, h8, h9, h10⟩
      · obtain ⟨ys, ρ5, e1, e2⟩ := ih (n + 1) ρ2 acc h1' nxt h7
        exact ⟨ys, ρ5, by simp only [runComp, h4, h6, e1], e2⟩
      · obtain ⟨ys, ρ5, e1, e2⟩ := ih (n + 1) ρ3 _ h1' nxt h10
        exact ⟨ys, ρ5, by simp only [runComp, h4, h6, h7, h8, h9, if_true, e1], e2⟩
  obtain ⟨ys, ρ2, e1, e2⟩ := gen 0 ds ρ1 [] (by simp) (fun i => by simp) h0
  exact ⟨ys, ρ2, by simp only [den_comp, evComp, evMk, hi, e1], e2⟩
/-! ### numbers -/
theorem log_le {n a : Nat} (h : n < 2 ^ a) : n.log2 ≤ a := by
  by_cases hn : n = 0
  · subst hn; simp
  · have := (Nat.log2_lt hn).mpr h
    omega
theorem mul_ok {i j : Int} (a b : Nat) (hi : i.natAbs < 2 ^ a) (hj : j.natAbs < 2 ^ b) (h : a + b < 1000000) : mulOk i j = true := by
  unfold mulOk
  rw [decide_eq_true_eq]
  have := log_le hi
  have := log_le hj
  omega
/-- of small ones -/
theorem mul_s {i j : Int} (hi : -18446744073709551616 < i ∧ i < 18446744073709551616) (hj : -18446744073709551616 < j ∧ j < 18446744073709551616) : mulOk i j = true :=
  mul_ok 64 64 (by have : (2:Nat)^64 = 18446744073709551616 := by decide
                   omega) (by have : (2:Nat)^64 = 18446744073709551616 := by decide
                              omega) (by decide)
theorem inB_s {k : Int} (h : -4611686018427387904 ≤ k ∧ k < 4611686018427387904) : inB k = true := by
  rw [inB_iff]
  have e : (2 : Int) ^ 62 = 4611686018427387904 := by decide
  rw [e]
  exact h
theorem rngL_len {lo : Int} {n : Nat} : (rngL lo n).length = n := by simp [rngL]
theorem rngL_get {lo : Int} {n i : Nat} {d : D} (h : (rngL lo n)[i]? = some d) : i < n ∧ d = .int (lo + i) := by
  unfold rngL at h
  rw [List.getElem?_map] at h
  by_cases hi : i < n
  · rw [List.getElem?_range hi] at h
    cases h
    exact ⟨hi, rfl⟩
  · rw [List.getElem?_eq_none (by simp; omega)] at h
    cases h
abbrev iv (k : Int) : Option Ent := some (.val (.int k))
abbrev il (l : List Int) : Option Ent := some (.lst (l.map .int))
theorem cutD_take {ds : List D} {n : Nat} (h : n ≤ ds.length) : cutD ds none (some (n : Int)) = ds.take n := by
  unfold cutD
  rw [HT.sIx_none, HT.sIx_nat]
  simp
theorem atI_back {α : Type} {xs : List α} {j : Nat} {v : α} (h0 : 0 < j) (h1 : j ≤ xs.length) (h : xs[xs.length - j]? = some v) : atI xs (-(j : Int)) = some v := by
  unfold atI ixN
  have e1 : ¬ (0 ≤ -(j : Int)) := by omega
  have e2 : -(xs.length : Int) ≤ -(j : Int) := by omega
  have e3 : (-(j : Int) + xs.length).toNat = xs.length - j := by omega
  rw [if_neg e1, if_pos e2, e3]
  exact h
theorem isi_int_n {k : Int} {b : Bool} {s : Str} {ds : List D} : isiSem .int (.val .none) = some false := rfl
theorem isi_int_i {k : Int} {b : Bool} {s : Str} {ds : List D} : isiSem .int (.val (.int k)) = some true := rfl
theorem isi_int_b {k : Int} {b : Bool} {s : Str} {ds : List D} : isiSem .int (.val (.bool b)) = some true := rfl
theorem isi_int_t {k : Int} {b : Bool} {s : Str} {ds : List D} : isiSem .int (.val (.tuple ds)) = some false := rfl
theorem isi_int_s {k : Int} {b : Bool} {s : Str} {ds : List D} : isiSem .int (.val (.str s)) = some false := rfl
theorem isi_int_l {k : Int} {b : Bool} {s : Str} {ds : List D} : isiSem .int (.val (.list ds)) = some false := rfl
theorem isi_int_L {ds : List D} : isiSem .int (.lst ds) = some false := rfl
theorem isi_bool_n {k : Int} {b : Bool} {s : Str} {ds : List D} : isiSem .bool (.val .none) = some false := rfl
theorem isi_bool_i {k : Int} {b : Bool} {s : Str} {ds : List D} : isiSem .bool (.val (.int k)) = some false := rfl
theorem isi_bool_b {k : Int} {b : Bool} {s : Str} {ds : List D} : isiSem .bool (.val (.bool b)) = some true := rfl
theorem isi_bool_t {k : Int} {b : Bool} {s : Str} {ds : List D} : isiSem .bool (.val (.tuple ds)) = some false := rfl
theorem isi_bool_s {k : Int} {b : Bool} {s : Str} {ds : List D} : isiSem .bool (.val (.str s)) = some false := rfl
theorem isi_bool_l {k : Int} {b : Bool} {s : Str} {ds : List D} : isiSem .bool (.val (.list ds)) = some false := rfl
theorem isi_bool_L {ds : List D} : isiSem .bool (.lst ds) = some false := rfl
theorem isi_str_n {k : Int} {b : Bool} {s : Str} {ds : List D} : isiSem .str (.val .none) = some false := rfl
theorem isi_str_i {k : Int} {b : Bool} {s : Str} {ds : List D} : isiSem .str (.val (.int k)) = some false := rfl
theorem isi_str_b {k : Int} {b : Bool} {s : Str} {ds : List D} : isiSem .str (.val (.bool b)) = some false := rfl
theorem isi_str_t {k : Int} {b : Bool} {s : Str} {ds : List D} : isiSem .str (.val (.tuple ds)) = some false := rfl
theorem isi_str_s {k : Int} {b : Bool} {s : Str} {ds : List D} : isiSem .str (.val (.str s)) = some true := rfl
theorem isi_str_l {k : Int} {b : Bool} {s : Str} {ds : List D} : isiSem .str (.val (.list ds)) = some false := rfl
theorem isi_str_L {ds : List D} : isiSem .str (.lst ds) = some false := rfl
theorem isi_tuple_n {k : Int} {b : Bool} {s : Str} {ds : List D} : isiSem .tuple (.val .none) = some false := rfl
theorem isi_tuple_i {k : Int} {b : Bool} {s : Str} {ds : List D} : isiSem .tuple (.val (.int k)) = some false := rfl
theorem isi_tuple_b {k : Int} {b : Bool} {s : Str} {ds : List D} : isiSem .tuple (.val (.bool b)) = some false := rfl
theorem isi_tuple_t {k : Int} {b : Bool} {s : Str} {ds : List D} : isiSem .tuple (.val (.tuple ds)) = some true := rfl
theorem isi_tuple_s {k : Int} {b : Bool} {s : Str} {ds : List D} : isiSem .tuple (.val (.str s)) = some false := rfl
theorem isi_tuple_l {k : Int} {b : Bool} {s : Str} {ds : List D} : isiSem .tuple (.val (.list ds)) = some false := rfl
theorem isi_tuple_L {ds : List D} : isiSem .tuple (.lst ds) = some false := rfl
theorem isi_list_n {k : Int} {b : Bool} {s : Str} {ds : List D} : isiSem .list (.val .none) = some false := rfl
theorem isi_list_i {k : Int} {b : Bool} {s : Str} {ds : List D} : isiSem .list (.val (.int k)) = some false := rfl
theorem isi_list_b {k : Int} {b : Bool} {s : Str} {ds : List D} : isiSem .list (.val (.bool b)) = some false := rfl
theorem isi_list_t {k : Int} {b : Bool} {s : Str} {ds : List D} : isiSem .list (.val (.tuple ds)) = some false := rfl
theorem isi_list_s {k : Int} {b : Bool} {s : Str} {ds : List D} : isiSem .list (.val (.str s)) = some false := rfl
theorem isi_list_l {k : Int} {b : Bool} {s : Str} {ds : List D} : isiSem .list (.val (.list ds)) = some true := rfl
theorem isi_list_L {ds : List D} : isiSem .list (.lst ds) = some true := rfl
theorem eq_ii {i j : Int} : eqSem (.val (.int i)) (.val (.int j)) = some (decide (i = j)) := by
  simp [eqSem, toD, PyData.eqv, SeqAt.shaped, PyData.canLay0, PyData.depth]
  rw [Bool.eq_iff_iff]
  simp
theorem eq_bb {i j : Bool} : eqSem (.val (.bool i)) (.val (.bool j)) = some (decide (i = j)) := by
  simp [eqSem, toD, PyData.eqv, SeqAt.shaped, PyData.canLay0, PyData.depth]
  rw [Bool.eq_iff_iff]
  simp
theorem eq_ni {j : Int} : eqSem (.val .none) (.val (.int j)) = some false := by
  simp [eqSem, toD, PyData.eqv, SeqAt.shaped, PyData.canLay0, PyData.depth]
theorem eq_in {j : Int} : eqSem (.val (.int j)) (.val .none) = some false := by
  simp [eqSem, toD, PyData.eqv, SeqAt.shaped, PyData.canLay0, PyData.depth]
theorem eq_ss {i j : Str} (hi : PyData.strOk i = true) (hj : PyData.strOk j = true) : eqSem (.val (.str i)) (.val (.str j)) = some (decide (i = j)) := by
  simp [eqSem, toD, PyData.eqv, SeqAt.shaped, PyData.canLay0, PyData.depth, hi, hj]
  rw [Bool.eq_iff_iff]
  simp
theorem eq_ll0 : eqSem (.lst []) (.lst []) = some true := by
  simp [eqSem, toD, PyData.eqv, SeqAt.shaped, PyData.canLay0, PyData.depth, PyData.canLayAll0, PyData.depthAll, PyData.eqvAll]
/-! ### _law_draws -/
def a__law_draws : MD := ⟨8, [false, false], [
    .asg (.nm 2) (.lst []),
    .asg (.nm 3) (.int 7),
    .for (.nm 4) (.rng [.blt .len [.v 0]]) [
      .asg (.nm 5) (.blt .abs [.blt .int [.idx (.v 0) (.v 4)]]),
      .asg (.nm 3) (.bin .Mod (.blt .int [.bin .Add (.bin .Add (.bin .Mult (.v 3) (.int 48271)) (.bin .Mod (.v 5) (.int 1000003))) (.v 4)]) (.int 65537)),
      .asg (.nm 6) (.int 0),
      .ite (.cmp .GtE (.v 5) (.bin .Pow (.int 10) (.int 18))) [
        .asg (.nm 6) (.v 5)] [
        .ex (.app 2 (.bin .Mod (.blt .int [.v 5]) (.int 997))),
        .ex (.app 2 (.bin .Mod (.bin .Mod (.blt .int [.bin .Add (.bin .Mult (.v 3) (.int 69621)) (.int 5)]) (.int 65521)) (.int 997)))],
      .for (.nm 7) (.rng [.int 60]) [
        .ite (.cmp .Gt (.v 6) (.int 0)) [
          .ex (.app 2 (.bin .Mod (.blt .int [.v 6]) (.int 997))),
          .asg (.nm 6) (.bin .FloorDiv (.v 6) (.int 997))] []]],
    .for (.nm 4) (.rng [.v 1]) [
      .asg (.nm 3) (.bin .Mod (.blt .int [.bin .Add (.bin .Add (.bin .Mult (.v 3) (.int 16807)) (.v 4)) (.int 1)]) (.int 65537)),
      .ex (.app 2 (.bin .Mod (.blt .int [.v 3]) (.int 997)))],
    .ret (.slc (.v 2) (.nop) (.v 1))]⟩
def Dr (L : List Int) : Prop := ∀ x ∈ L, 0 ≤ x ∧ x < 997
theorem Dr.snoc {L : List Int} (h : Dr L) (x : Int) : Dr (L ++ [x % 997]) := fun y hy => by
  rw [List.mem_append, List.mem_singleton] at hy
  rcases hy with hy | hy
  · exact h y hy
  · subst hy
    exact ⟨Int.emod_nonneg _ (by decide), Int.emod_lt_of_pos _ (by decide)⟩
theorem map_snoc {L : List Int} {x : Int} : L.map PyData.int ++ [.int x] = (L ++ [x]).map PyData.int := by simp
theorem lt_lim {n : Nat} (h : n < 1000000) : n < LIM := h
theorem pow1018 : powOk 10 18 = true := by decide
set_option maxHeartbeats 1000000 in
theorem draws_runs {F : FT} {ns : List Int} {many : Nat} (hn : ns.length ≤ 63) (hm : many ≤ 100000) :
    ∃ L : List Int, runD F a__law_draws [.ro (ns.map .int), .val (.int many)] = some (.lst (L.map .int), []) ∧ L.length = many ∧ Dr L := by
  have mx : ∀ z : Int, 0 ≤ z % 65537 ∧ z % 65537 < 65537 := fun z => ⟨Int.emod_nonneg _ (by decide), Int.emod_lt_of_pos _ (by decide)⟩
  have main : ∃ y os, runD F a__law_draws [.ro (ns.map .int), .val (.int many)] = some (y, os) ∧ (∃ L : List Int, y = .lst (L.map .int) ∧ os = [] ∧ L.length = many ∧ Dr L) := by
    apply runD_ex
    simp only [a__law_draws, List.cons_append, List.nil_append, List.map_cons, List.map_nil, List.length_cons, List.length_nil, List.replicate, Nat.reduceAdd, Nat.reduceSub, Nat.zero_le, if_true, wp_nil, wp_asg, wp_asgs, wp_setIx, wp_aug, wp_augIx, wp_ex, wp_ret, wp_retN, wp_brk, wp_ct, wp_pass, wp_ite, k1_some, cont_nx, cont_ret, cont_brk, cont_ct, kT_true, kT_false, kT_dec, den_v, den_int, den_bl, den_non, den_str, den_bin, den_neg, den_cmp, den_cmp2, den_band, den_bor, den_bnot, den_ife, den_tup, den_lst, den_dnewK, den_dnewT, den_dct, den_idx, den_slc, den_rev, den_blt, den_isi, den_call, den_app, den_ext, den_pop, den_popAt, den_lrng, den_comp_nm, denI_seq, denI_rng, dens_nil, dens_cons, sAsg, sAsgs, sSetIx, sAug, sAugIx, sEx, sRet, evRet, evC, evV, evMk, evOp, evCmp, evTest, evTup, evLst, evE1, evDct, evAnd, evOr, evNot, evIf, evSlc, evCall, evApp, evExt, evPop, evPopAt, evRng, evSeq, evLrng, evCmp2, MP.get, MP.put, nameE, look, looks, pvs, pvOf, args, items, ents, optI, asB, asBl, notR, tru, truSem, noneR, eAnds, eOrs, tAnds, tOrs, asgT, asgTs, asgEs, argE, argEs, slotsOf, putOuts, isOwnE, toD, seqOf, lstOf, fBin, fNeg, fCmp, fIdx, fRev, fIsi, binSem, intBin, cmpSem, cmpI, idxSem, slcSem, revSem, bltSem, lenSem, absSem, intSem, isD, isN, keyOf, rng1, rng2, setSem, onInt2, onSeq, bv, outsOf, start', Option.map_some, Option.map_none, and_self, decide_true, decide_false, Bool.not_true, Bool.not_false, List.nodup_cons, List.not_mem_nil, not_false_eq_true, List.nodup_nil]
    refine wp_for (ds := rngL 0 ns.length) (ρ1 := [some (.ro (ns.map .int)), iv many, il [], iv 7, none, none, none, none]) ?_ (fun i ρ => ∃ (L : List Int) (m : Int) (x4 x5 x6 x7 : Option Ent), ρ = [some (.ro (ns.map .int)), iv many, il L, iv m, x4, x5, x6, x7] ∧ L.length ≤ 62 * i ∧ Dr L ∧ 0 ≤ m ∧ m < 65537) ?_ ?_ ?_
    · have hb : inB (ns.length : Int) = true := inB_s (by omega)
      simp only [List.length_map, hb, if_true, Int.toNat_natCast, iv, il, List.map_nil, wp_nil, wp_asg, wp_asgs, wp_setIx, wp_aug, wp_augIx, wp_ex, wp_ret, wp_retN, wp_brk, wp_ct, wp_pass, wp_ite, k1_some, cont_nx, cont_ret, cont_brk, cont_ct, kT_true, kT_false, kT_dec, den_v, den_int, den_bl, den_non, den_str, den_bin, den_neg, den_cmp, den_cmp2, den_band, den_bor, den_bnot, den_ife, den_tup, den_lst, den_dnewK, den_dnewT, den_dct, den_idx, den_slc, den_rev, den_blt, den_isi, den_call, den_app, den_ext, den_pop, den_popAt, den_lrng, den_comp_nm, denI_seq, denI_rng, dens_nil, dens_cons, sAsg, sAsgs, sSetIx, sAug, sAugIx, sEx, sRet, evRet, evC, evV, evMk, evOp, evCmp, evTest, evTup, evLst, evE1, evDct, evAnd, evOr, evNot, evIf, evSlc, evCall, evApp, evExt, evPop, evPopAt, evRng, evSeq, evLrng, evCmp2, MP.get, MP.put, nameE, look, looks, pvs, pvOf, args, items, ents, optI, asB, asBl, notR, tru, truSem, noneR, eAnds, eOrs, tAnds, tOrs, asgT, asgTs, asgEs, argE, argEs, slotsOf, putOuts, isOwnE, toD, seqOf, lstOf, fBin, fNeg, fCmp, fIdx, fRev, fIsi, binSem, intBin, cmpSem, cmpI, idxSem, slcSem, revSem, bltSem, lenSem, absSem, intSem, isD, isN, keyOf, rng1, rng2, setSem, onInt2, onSeq, bv, outsOf, start', Option.map_some, Option.map_none, and_self, decide_true, decide_false, Bool.not_true, Bool.not_false, List.nodup_cons, List.not_mem_nil, not_false_eq_true, List.nodup_nil]
    · exact ⟨[], 7, none, none, none, none, rfl, by simp, fun x hx => by simp at hx, by decide, by decide⟩
    · rintro i ρ d hd ⟨L, m, x4, x5, x6, x7, rfl, hl, hL, m0, m1⟩
      obtain ⟨hi, rfl⟩ := rngL_get hd
      obtain ⟨c, hc⟩ : ∃ c, ns[i]? = some c := ⟨ns[i], List.getElem?_eq_getElem hi⟩
      have ha : atI (ns.map PyData.int) (0 + (i : Int)) = some (.int c) := by
        rw [Int.zero_add]
        exact atI_nat (by rw [List.getElem?_map, hc]; rfl)
      refine ⟨_, rfl, ?_⟩
      have mo : mulOk m 48271 = true := mul_s (by omega) (by decide)
      generalize hca : (if c < 0 then -c else c) = ca
      generalize hmm : (m * 48271 + ca % 1000003 + (0 + (i:Int))) % 65537 = mm
      have mm0 := mx (m * 48271 + ca % 1000003 + (0 + (i:Int)))
      rw [hmm] at mm0
      have mo2 : mulOk mm 69621 = true := mul_s (by omega) (by decide)
      have l1 : L.length < LIM := by have : i < 63 := by omega
                                     unfold LIM; omega
      have l2 : L.length + 1 < LIM := by have : i < 63 := by omega
                                         unfold LIM; omega
      have inner : ∀ (L2 : List Int) (rest : Int) (x7 : Option Ent), L2.length ≤ 62 * i + 2 → Dr L2 → wp F [.for (.nm 7) (.rng [.int 60]) [
        .ite (.cmp .Gt (.v 6) (.int 0)) [
          .ex (.app 2 (.bin .Mod (.blt .int [.v 6]) (.int 997))),
          .asg (.nm 6) (.bin .FloorDiv (.v 6) (.int 997))] []]] [some (.ro (ns.map .int)), iv many, il L2, iv mm, iv (0 + (i:Int)), iv ca, iv rest, x7] fun fl ρ => match fl with
          | .nx => ∃ (L : List Int) (m : Int) (x4 x5 x6 x7 : Option Ent), ρ = [some (.ro (ns.map .int)), iv many, il L, iv m, x4, x5, x6, x7] ∧ L.length ≤ 62 * (i + 1) ∧ Dr L ∧ 0 ≤ m ∧ m < 65537
          | _ => False := by
        intro L2 rest x7 hl2 hL2
        refine wp_for (ds := rngL 0 60) (ρ1 := [some (.ro (ns.map .int)), iv many, il L2, iv mm, iv (0 + (i:Int)), iv ca, iv rest, x7]) ?_ (fun j ρ => ∃ (L : List Int) (rest : Int) (x7 : Option Ent), ρ = [some (.ro (ns.map .int)), iv many, il L, iv mm, iv (0 + (i:Int)), iv ca, iv rest, x7] ∧ L.length ≤ 62 * i + 2 + j ∧ Dr L) ?_ ?_ ?_
        · have hb : inB 60 = true := inB_s (by decide)
          simp only [hb, if_true, wp_nil, wp_asg, wp_asgs, wp_setIx, wp_aug, wp_augIx, wp_ex, wp_ret, wp_retN, wp_brk, wp_ct, wp_pass, wp_ite, k1_some, cont_nx, cont_ret, cont_brk, cont_ct, kT_true, kT_false, kT_dec, den_v, den_int, den_bl, den_non, den_str, den_bin, den_neg, den_cmp, den_cmp2, den_band, den_bor, den_bnot, den_ife, den_tup, den_lst, den_dnewK, den_dnewT, den_dct, den_idx, den_slc, den_rev, den_blt, den_isi, den_call, den_app, den_ext, den_pop, den_popAt, den_lrng, den_comp_nm, denI_seq, denI_rng, dens_nil, dens_cons, sAsg, sAsgs, sSetIx, sAug, sAugIx, sEx, sRet, evRet, evC, evV, evMk, evOp, evCmp, evTest, evTup, evLst, evE1, evDct, evAnd, evOr, evNot, evIf, evSlc, evCall, evApp, evExt, evPop, evPopAt, evRng, evSeq, evLrng, evCmp2, MP.get, MP.put, nameE, look, looks, pvs, pvOf, args, items, ents, optI, asB, asBl, notR, tru, truSem, noneR, eAnds, eOrs, tAnds, tOrs, asgT, asgTs, asgEs, argE, argEs, slotsOf, putOuts, isOwnE, toD, seqOf, lstOf, fBin, fNeg, fCmp, fIdx, fRev, fIsi, binSem, intBin, cmpSem, cmpI, idxSem, slcSem, revSem, bltSem, lenSem, absSem, intSem, isD, isN, keyOf, rng1, rng2, setSem, onInt2, onSeq, bv, outsOf, start', Option.map_some, Option.map_none, and_self, decide_true, decide_false, Bool.not_true, Bool.not_false, List.nodup_cons, List.not_mem_nil, not_false_eq_true, List.nodup_nil]
          rfl
        · exact ⟨L2, rest, x7, rfl, by omega, hL2⟩
        · rintro j ρ d hd ⟨L, rest, x7, rfl, hl, hL⟩
          obtain ⟨hj, rfl⟩ := rngL_get hd
          refine ⟨_, rfl, ?_⟩
          have l3 : L.length < LIM := by have : i < 63 := by omega
                                         unfold LIM; omega
          by_cases hr : 0 < rest
          · have e1 : (0:Int) < 997 := by decide
            have e2 : Nat.log2 (Int.natAbs 997) < 9000 := by decide
            simp only [iv, il, hr, if_true, List.length_map, l3, e1, e2, map_snoc, wp_nil, wp_asg, wp_asgs, wp_setIx, wp_aug, wp_augIx, wp_ex, wp_ret, wp_retN, wp_brk, wp_ct, wp_pass, wp_ite, k1_some, cont_nx, cont_ret, cont_brk, cont_ct, kT_true, kT_false, kT_dec, den_v, den_int, den_bl, den_non, den_str, den_bin, den_neg, den_cmp, den_cmp2, den_band, den_bor, den_bnot, den_ife, den_tup, den_lst, den_dnewK, den_dnewT, den_dct, den_idx, den_slc, den_rev, den_blt, den_isi, den_call, den_app, den_ext, den_pop, den_popAt, den_lrng, den_comp_nm, denI_seq, denI_rng, dens_nil, dens_cons, sAsg, sAsgs, sSetIx, sAug, sAugIx, sEx, sRet, evRet, evC, evV, evMk, evOp, evCmp, evTest, evTup, evLst, evE1, evDct, evAnd, evOr, evNot, evIf, evSlc, evCall, evApp, evExt, evPop, evPopAt, evRng, evSeq, evLrng, evCmp2, MP.get, MP.put, nameE, look, looks, pvs, pvOf, args, items, ents, optI, asB, asBl, notR, tru, truSem, noneR, eAnds, eOrs, tAnds, tOrs, asgT, asgTs, asgEs, argE, argEs, slotsOf, putOuts, isOwnE, toD, seqOf, lstOf, fBin, fNeg, fCmp, fIdx, fRev, fIsi, binSem, intBin, cmpSem, cmpI, idxSem, slcSem, revSem, bltSem, lenSem, absSem, intSem, isD, isN, keyOf, rng1, rng2, setSem, onInt2, onSeq, bv, outsOf, start', Option.map_some, Option.map_none, and_self, decide_true, decide_false, Bool.not_true, Bool.not_false, List.nodup_cons, List.not_mem_nil, not_false_eq_true, List.nodup_nil]
            exact ⟨_, _, _, rfl, by simp only [List.length_append, List.length_singleton]; omega, hL.snoc _⟩
          · simp only [iv, il, hr, if_false, wp_nil, wp_asg, wp_asgs, wp_setIx, wp_aug, wp_augIx, wp_ex, wp_ret, wp_retN, wp_brk, wp_ct, wp_pass, wp_ite, k1_some, cont_nx, cont_ret, cont_brk, cont_ct, kT_true, kT_false, kT_dec, den_v, den_int, den_bl, den_non, den_str, den_bin, den_neg, den_cmp, den_cmp2, den_band, den_bor, den_bnot, den_ife, den_tup, den_lst, den_dnewK, den_dnewT, den_dct, den_idx, den_slc, den_rev, den_blt, den_isi, den_call, den_app, den_ext, den_pop, den_popAt, den_lrng, den_comp_nm, denI_seq, denI_rng, dens_nil, dens_cons, sAsg, sAsgs, sSetIx, sAug, sAugIx, sEx, sRet, evRet, evC, evV, evMk, evOp, evCmp, evTest, evTup, evLst, evE1, evDct, evAnd, evOr, evNot, evIf, evSlc, evCall, evApp, evExt, evPop, evPopAt, evRng, evSeq, evLrng, evCmp2, MP.get, MP.put, nameE, look, looks, pvs, pvOf, args, items, ents, optI, asB, asBl, notR, tru, truSem, noneR, eAnds, eOrs, tAnds, tOrs, asgT, asgTs, asgEs, argE, argEs, slotsOf, putOuts, isOwnE, toD, seqOf, lstOf, fBin, fNeg, fCmp, fIdx, fRev, fIsi, binSem, intBin, cmpSem, cmpI, idxSem, slcSem, revSem, bltSem, lenSem, absSem, intSem, isD, isN, keyOf, rng1, rng2, setSem, onInt2, onSeq, bv, outsOf, start', Option.map_some, Option.map_none, and_self, decide_true, decide_false, Bool.not_true, Bool.not_false, List.nodup_cons, List.not_mem_nil, not_false_eq_true, List.nodup_nil]
            exact ⟨_, _, _, rfl, by omega, hL⟩
        · rintro ρ ⟨L, rest, x7, rfl, hl, hL⟩
          rw [rngL_len] at hl
          simp only [wp_nil]
          exact ⟨L, mm, _, _, _, _, rfl, by omega, hL, mm0.1, mm0.2⟩
      have h18 : powOk 10 18 = true := by decide
      have e1 : (0:Int) < 997 := by decide
      have e2 : (0:Int) < 1000003 := by decide
      have e3 : (0:Int) < 65537 := by decide
      have e4 : (0:Int) < 65521 := by decide
      by_cases hbig : (10:Int) ^ (18:Int).toNat ≤ ca
      · simp only [ha, hca, mo, hmm, h18, e1, e2, e3, e4, hbig, if_true, wp_nil, wp_asg, wp_asgs, wp_setIx, wp_aug, wp_augIx, wp_ex, wp_ret, wp_retN, wp_brk, wp_ct, wp_pass, wp_ite, k1_some, cont_nx, cont_ret, cont_brk, cont_ct, kT_true, kT_false, kT_dec, den_v, den_int, den_bl, den_non, den_str, den_bin, den_neg, den_cmp, den_cmp2, den_band, den_bor, den_bnot, den_ife, den_tup, den_lst, den_dnewK, den_dnewT, den_dct, den_idx, den_slc, den_rev, den_blt, den_isi, den_call, den_app, den_ext, den_pop, den_popAt, den_lrng, den_comp_nm, denI_seq, denI_rng, dens_nil, dens_cons, sAsg, sAsgs, sSetIx, sAug, sAugIx, sEx, sRet, evRet, evC, evV, evMk, evOp, evCmp, evTest, evTup, evLst, evE1, evDct, evAnd, evOr, evNot, evIf, evSlc, evCall, evApp, evExt, evPop, evPopAt, evRng, evSeq, evLrng, evCmp2, MP.get, MP.put, nameE, look, looks, pvs, pvOf, args, items, ents, optI, asB, asBl, notR, tru, truSem, noneR, eAnds, eOrs, tAnds, tOrs, asgT, asgTs, asgEs, argE, argEs, slotsOf, putOuts, isOwnE, toD, seqOf, lstOf, fBin, fNeg, fCmp, fIdx, fRev, fIsi, binSem, intBin, cmpSem, cmpI, idxSem, slcSem, revSem, bltSem, lenSem, absSem, intSem, isD, isN, keyOf, rng1, rng2, setSem, onInt2, onSeq, bv, outsOf, start', Option.map_some, Option.map_none, and_self, decide_true, decide_false, Bool.not_true, Bool.not_false, List.nodup_cons, List.not_mem_nil, not_false_eq_true, List.nodup_nil]
        exact wp_mono (inner L ca x7 (by omega) hL) fun fl ρ h => by
          cases fl <;> first | exact h | exact h.elim
      · simp only [ha, hca, mo, hmm, h18, e1, e2, e3, e4, hbig, l1, l2, mo2, map_snoc, List.length_map, List.length_append, List.length_singleton, if_true, if_false, wp_nil, wp_asg, wp_asgs, wp_setIx, wp_aug, wp_augIx, wp_ex, wp_ret, wp_retN, wp_brk, wp_ct, wp_pass, wp_ite, k1_some, cont_nx, cont_ret, cont_brk, cont_ct, kT_true, kT_false, kT_dec, den_v, den_int, den_bl, den_non, den_str, den_bin, den_neg, den_cmp, den_cmp2, den_band, den_bor, den_bnot, den_ife, den_tup, den_lst, den_dnewK, den_dnewT, den_dct, den_idx, den_slc, den_rev, den_blt, den_isi, den_call, den_app, den_ext, den_pop, den_popAt, den_lrng, den_comp_nm, denI_seq, denI_rng, dens_nil, dens_cons, sAsg, sAsgs, sSetIx, sAug, sAugIx, sEx, sRet, evRet, evC, evV, evMk, evOp, evCmp, evTest, evTup, evLst, evE1, evDct, evAnd, evOr, evNot, evIf, evSlc, evCall, evApp, evExt, evPop, evPopAt, evRng, evSeq, evLrng, evCmp2, MP.get, MP.put, nameE, look, looks, pvs, pvOf, args, items, ents, optI, asB, asBl, notR, tru, truSem, noneR, eAnds, eOrs, tAnds, tOrs, asgT, asgTs, asgEs, argE, argEs, slotsOf, putOuts, isOwnE, toD, seqOf, lstOf, fBin, fNeg, fCmp, fIdx, fRev, fIsi, binSem, intBin, cmpSem, cmpI, idxSem, slcSem, revSem, bltSem, lenSem, absSem, intSem, isD, isN, keyOf, rng1, rng2, setSem, onInt2, onSeq, bv, outsOf, start', Option.map_some, Option.map_none, and_self, decide_true, decide_false, Bool.not_true, Bool.not_false, List.nodup_cons, List.not_mem_nil, not_false_eq_true, List.nodup_nil]
        exact wp_mono (inner _ 0 x7 (by simp only [List.length_append, List.length_singleton]; omega) ((hL.snoc _).snoc _)) fun fl ρ h => by
          cases fl <;> first | exact h | exact h.elim
    · rintro ρ ⟨L, m, x4, x5, x6, x7, rfl, hl, hL, m0, m1⟩
      rw [rngL_len] at hl
      refine wp_for (ds := rngL 0 many) (ρ1 := [some (.ro (ns.map .int)), iv many, il L, iv m, x4, x5, x6, x7]) ?_ (fun i ρ => ∃ (L : List Int) (m : Int) (x4 x5 x6 x7 : Option Ent), ρ = [some (.ro (ns.map .int)), iv many, il L, iv m, x4, x5, x6, x7] ∧ i ≤ L.length ∧ L.length ≤ 62 * 63 + i ∧ Dr L ∧ 0 ≤ m ∧ m < 65537) ?_ ?_ ?_
      · have hb : inB (many : Int) = true := inB_s (by omega)
        simp only [hb, Int.toNat_natCast, wp_nil, wp_asg, wp_asgs, wp_setIx, wp_aug, wp_augIx, wp_ex, wp_ret, wp_retN, wp_brk, wp_ct, wp_pass, wp_ite, k1_some, cont_nx, cont_ret, cont_brk, cont_ct, kT_true, kT_false, kT_dec, den_v, den_int, den_bl, den_non, den_str, den_bin, den_neg, den_cmp, den_cmp2, den_band, den_bor, den_bnot, den_ife, den_tup, den_lst, den_dnewK, den_dnewT, den_dct, den_idx, den_slc, den_rev, den_blt, den_isi, den_call, den_app, den_ext, den_pop, den_popAt, den_lrng, den_comp_nm, denI_seq, denI_rng, dens_nil, dens_cons, sAsg, sAsgs, sSetIx, sAug, sAugIx, sEx, sRet, evRet, evC, evV, evMk, evOp, evCmp, evTest, evTup, evLst, evE1, evDct, evAnd, evOr, evNot, evIf, evSlc, evCall, evApp, evExt, evPop, evPopAt, evRng, evSeq, evLrng, evCmp2, MP.get, MP.put, nameE, look, looks, pvs, pvOf, args, items, ents, optI, asB, asBl, notR, tru, truSem, noneR, eAnds, eOrs, tAnds, tOrs, asgT, asgTs, asgEs, argE, argEs, slotsOf, putOuts, isOwnE, toD, seqOf, lstOf, fBin, fNeg, fCmp, fIdx, fRev, fIsi, binSem, intBin, cmpSem, cmpI, idxSem, slcSem, revSem, bltSem, lenSem, absSem, intSem, isD, isN, keyOf, rng1, rng2, setSem, onInt2, onSeq, bv, outsOf, start', Option.map_some, Option.map_none, and_self, decide_true, decide_false, Bool.not_true, Bool.not_false, List.nodup_cons, List.not_mem_nil, not_false_eq_true, List.nodup_nil]
      · exact ⟨L, m, x4, x5, x6, x7, rfl, by omega, by omega, hL, m0, m1⟩
      · rintro i ρ d hd ⟨L, m, x4, x5, x6, x7, rfl, hl1, hl2, hL, m0, m1⟩
        obtain ⟨hi, rfl⟩ := rngL_get hd
        refine ⟨_, rfl, ?_⟩
        have mo : mulOk m 16807 = true := mul_s (by omega) (by decide)
        have e1 : (0:Int) < 997 := by decide
        have e3 : (0:Int) < 65537 := by decide
        have l1 : L.length < LIM := by unfold LIM; omega
        generalize hmm : (m * 16807 + (0 + (i:Int)) + 1) % 65537 = mm
        have mm0 := mx (m * 16807 + (0 + (i:Int)) + 1)
        rw [hmm] at mm0
        simp only [mo, hmm, e1, e3, l1, map_snoc, List.length_map, if_true, wp_nil, wp_asg, wp_asgs, wp_setIx, wp_aug, wp_augIx, wp_ex, wp_ret, wp_retN, wp_brk, wp_ct, wp_pass, wp_ite, k1_some, cont_nx, cont_ret, cont_brk, cont_ct, kT_true, kT_false, kT_dec, den_v, den_int, den_bl, den_non, den_str, den_bin, den_neg, den_cmp, den_cmp2, den_band, den_bor, den_bnot, den_ife, den_tup, den_lst, den_dnewK, den_dnewT, den_dct, den_idx, den_slc, den_rev, den_blt, den_isi, den_call, den_app, den_ext, den_pop, den_popAt, den_lrng, den_comp_nm, denI_seq, denI_rng, dens_nil, dens_cons, sAsg, sAsgs, sSetIx, sAug, sAugIx, sEx, sRet, evRet, evC, evV, evMk, evOp, evCmp, evTest, evTup, evLst, evE1, evDct, evAnd, evOr, evNot, evIf, evSlc, evCall, evApp, evExt, evPop, evPopAt, evRng, evSeq, evLrng, evCmp2, MP.get, MP.put, nameE, look, looks, pvs, pvOf, args, items, ents, optI, asB, asBl, notR, tru, truSem, noneR, eAnds, eOrs, tAnds, tOrs, asgT, asgTs, asgEs, argE, argEs, slotsOf, putOuts, isOwnE, toD, seqOf, lstOf, fBin, fNeg, fCmp, fIdx, fRev, fIsi, binSem, intBin, cmpSem, cmpI, idxSem, slcSem, revSem, bltSem, lenSem, absSem, intSem, isD, isN, keyOf, rng1, rng2, setSem, onInt2, onSeq, bv, outsOf, start', Option.map_some, Option.map_none, and_self, decide_true, decide_false, Bool.not_true, Bool.not_false, List.nodup_cons, List.not_mem_nil, not_false_eq_true, List.nodup_nil]
        exact ⟨_, _, _, _, _, _, rfl, by simp only [List.length_append, List.length_singleton]; omega, by simp only [List.length_append, List.length_singleton]; omega, hL.snoc _, mm0.1, mm0.2⟩
      · rintro ρ ⟨L, m, x4, x5, x6, x7, rfl, hl1, hl2, hL, m0, m1⟩
        rw [rngL_len] at hl1
        simp only [wp_nil, wp_asg, wp_asgs, wp_setIx, wp_aug, wp_augIx, wp_ex, wp_ret, wp_retN, wp_brk, wp_ct, wp_pass, wp_ite, k1_some, cont_nx, cont_ret, cont_brk, cont_ct, kT_true, kT_false, kT_dec, den_v, den_int, den_bl, den_non, den_str, den_bin, den_neg, den_cmp, den_cmp2, den_band, den_bor, den_bnot, den_ife, den_tup, den_lst, den_dnewK, den_dnewT, den_dct, den_idx, den_slc, den_rev, den_blt, den_isi, den_call, den_app, den_ext, den_pop, den_popAt, den_lrng, den_comp_nm, denI_seq, denI_rng, dens_nil, dens_cons, sAsg, sAsgs, sSetIx, sAug, sAugIx, sEx, sRet, evRet, evC, evV, evMk, evOp, evCmp, evTest, evTup, evLst, evE1, evDct, evAnd, evOr, evNot, evIf, evSlc, evCall, evApp, evExt, evPop, evPopAt, evRng, evSeq, evLrng, evCmp2, MP.get, MP.put, nameE, look, looks, pvs, pvOf, args, items, ents, optI, asB, asBl, notR, tru, truSem, noneR, eAnds, eOrs, tAnds, tOrs, asgT, asgTs, asgEs, argE, argEs, slotsOf, putOuts, isOwnE, toD, seqOf, lstOf, fBin, fNeg, fCmp, fIdx, fRev, fIsi, binSem, intBin, cmpSem, cmpI, idxSem, slcSem, revSem, bltSem, lenSem, absSem, intSem, isD, isN, keyOf, rng1, rng2, setSem, onInt2, onSeq, bv, outsOf, start', Option.map_some, Option.map_none, and_self, decide_true, decide_false, Bool.not_true, Bool.not_false, List.nodup_cons, List.not_mem_nil, not_false_eq_true, List.nodup_nil]
        refine ⟨[], rfl, L.take many, ?_, rfl, by rw [List.length_take]; omega, fun x hx => hL x (List.mem_of_mem_take hx)⟩
        rw [cutD_take (by rw [List.length_map]; omega), List.map_take]
  obtain ⟨y, os, h, L, rfl, rfl, h1, h2⟩ := main
  exact ⟨L, h, h1, h2⟩
/-! ### _law_next -/
def a__law_next : MD := ⟨2, [true, false], [
    .augIx 0 (.str "at") .Add (.int 1),
    .ite (.cmp .Gt (.idx (.v 0) (.str "at")) (.blt .len [.idx (.v 0) (.str "draws")])) [
      .ret (.int 0)] [],
    .ret (.bin .Mod (.blt .int [.idx (.idx (.v 0) (.str "draws")) (.bin .Sub (.idx (.v 0) (.str "at")) (.int 1))]) (.v 1))]⟩
theorem ne_da : (Str.ofString "draws" = Str.ofString "at") = False := by decide
theorem ne_ad : (Str.ofString "at" = Str.ofString "draws") = False := by decide
/-- the drawn numbers, and how many were taken -/
abbrev wd (L : List Int) (k : Nat) : Ent := .dct [(.inr "draws", .list (L.map .int)), (.inr "at", .int k)]
theorem next_run1 {F : FT} {ds : List D} {k : Nat} {m r : Int} (hk : ds[k]? = some (.int r)) (hm : 0 < m) :
    runD F a__law_next [.dct [(.inr "draws", .list ds), (.inr "at", .int k)], .val (.int m)] = some (.val (.int (r % m)), [.dct [(.inr "draws", .list ds), (.inr "at", .int (k + 1))]]) := by
  have h1 : ¬ ((ds.length : Int) < k + 1) := by
    have := (List.getElem?_eq_some_iff.mp hk).1
    omega
  have h2 : atI ds (k : Int) = some (.int r) := by
    rw [show (k : Int) = ((k : Nat) : Int) from rfl]
    exact atI_nat hk
  simp [runD, a__law_next, start', denSs, denS, den, dens, sSeq, sAugIx, evC, evMk, get, put, isOwnE, idxSem, keyOf, lookG, intBin, setSem, putG, sIf, evCmp, evOp, evTest, args, pvs, pvOf, evV, look, looks, fIdx, fCmp, cmpSem, fBin, binSem, bltSem, lenSem, intSem, seqOf, sRet, evRet, outsOf, h1, h2, hm, LIM, ne_da, ne_ad]
/-- a draw: a number below m, whatever it be -/
theorem next_runs {F : FT} {L : List Int} (hL : Dr L) {k : Nat} {m : Int} (hk : k < L.length) (hm : 0 < m) :
    ∃ r : Int, runD F a__law_next [wd L k, .val (.int m)] = some (.val (.int r), [wd L (k + 1)]) ∧ 0 ≤ r ∧ r < m := by
  have := next_run1 (F := F) (ds := L.map .int) (k := k) (r := L[k]) (by rw [List.getElem?_map, List.getElem?_eq_getElem hk]; rfl) hm
  exact ⟨_, this, Int.emod_nonneg _ (by omega), Int.emod_lt_of_pos _ hm⟩
end MP
set_option Elab.async false
set_option linter.all false
set_option maxRecDepth 100000
/-! MP20: the law as the top calls it -/
namespace MP
open PySem PySem.Spec PyProof.Rows L2
/-- lists of the fragment alone are constants here -/
def cst0 (Kf : PySem.W.Frag) : Cst := ⟨fun _ _ => False, fun a xs => ∃ (o : Obj) (its : Array Value) (n : Nat), Kf.lookup a = some o ∧ o.cls = .type "list" ∧ o.dict = none ∧ o.data = .seq its n ∧ its.size ≤ sizeLine ∧ Vals xs its.toList⟩
theorem cst0_ok {Kf : PySem.W.Frag} : CstOk Kf (cst0 Kf) := ⟨fun _ _ h => h.elim, fun _ _ h _ => .inr h, fun _ _ h => h.elim, fun _ _ h => h⟩
section
variable {P : Program} {w : World} {Kf : PySem.W.Frag} {mg : Str → Option Value} {base : Heap} {K : Cst}
theorem def_fn {x qual : Str} {st : Stmt} {f : Addr} {fd : FuncData} {d : MD} {N ps : List Str} {g : Fn} {l : FL} {k : Nat} (C : CstOk Kf K) (bn : ∀ x ∈ bltL, mg x = none) (Fu : Fun Kf x qual st f fd)
    (hc : defC d N ps st = true) (hio : g.io = d.io) (T : Tab P w Kf mg base K k l) (hsem : ∀ xs y os, modesOk g.io xs = true → g.sem xs = some (y, os) → runD (ftOf l) d xs = some (y, os)) : FnOk P w Kf mg base CX0 (k + 1) f fd ps (spOf K g) := by
  have hs := hc
  unfold defC at hs
  simp only [Bool.and_eq_true, decide_eq_true_eq] at hs
  obtain ⟨⟨⟨hm, hn⟩, hl⟩, hs⟩ := hs
  have S := sc_ok hs
  refine Fu.ok S (fun vs H Q E sp => ?_) fun cdv A outer s H vs Q E r sp => ?_
  · obtain ⟨Fz, xs, y, os, h1, h2, R, q⟩ := sp
    have := R.len
    have := modes_len h2
    rw [hio] at this
    simp at *
    omega
  · refine body_ok (X := (cxOf CX0 P w Kf mg base N qual (defScope st) f cdv A outer s H E).nox) (F := ftOf l) ?_ C.nc PassesOwn.never ⟨rfl, rfl, rfl, S.kind⟩ hc hio hsem sp
    refine ⟨S.nd, rfl, ?_, C.ct, C.cl, C.ck, bn, Is.fn (X := (cxOf CX0 P w Kf mg base N qual (defScope st) f cdv A outer s H E).nox) T r⟩
    have := r.un
    show _ + 65 < cLine
    have e : ((cxOf CX0 P w Kf mg base N qual (defScope st) f cdv A outer s H E).nox).A.units = (A.deeper (envOfC qual (defScope st) s.heap.objs.size f cdv)).units := rfl
    omega
/-- a def's meaning: its text's run -/
noncomputable def fnD (l : FL) (d : MD) : Fn := ⟨d.io, runD (ftOf l) d⟩
theorem def_run {x : Str} {st : Stmt} {f : Addr} {fd : FuncData} {d : MD} {N ps : List Str} {l : FL} {k : Nat} (C : CstOk Kf K) (bn : ∀ x ∈ bltL, mg x = none) (Fu : Fun Kf x x st f fd) (hmg : mg x = some (.ref f))
    (hb : ∀ (kV doc pm : Value) (an : Option Addr) (cdv ct : Value) (us : List Value), us.length = ps.length → bindArgs (PySem.W.fnOf x x (defArgs st) (defBody st) (defScope st) .none kV doc pm an cdv ct) ⟨us, []⟩ = pure (ps.zip us))
    (hc : defC d N ps st = true) (T : Tab P w Kf mg base K k l) : Is P w Kf mg base K (k + 1) x (fnD l d) :=
  def_is C bn Fu hmg hb hc rfl T fun _ _ _ _ h => h
/-- what the top asks of a law -/
def spL (Kf : PySem.W.Frag) (n : Nat) : Sp := fun vs H Q _ => ∃ (a : Addr) (ns : List Int), vs = [.ref a] ∧ SqL Kf H a (ns.map V.int) ∧ ns.length ≤ n ∧ ∀ H', Q (.bl true) H'
theorem ints_rf {Fz : Addr → Prop} {H : Hp} : ∀ ns : List Int, RFs K Fz H (ns.map .int) (ns.map V.int)
  | [] => by simp only [List.map_nil, RFs]
  | n :: ns => by
    simp only [List.map_cons, RFs]
    exact ⟨_, _, rfl, by simp only [RF], ints_rf ns⟩
theorem law_fn {st : Stmt} {f : Addr} {fd : FuncData} {d : MD} {N : List Str} {l : FL} {k n : Nat} (bn : ∀ x ∈ bltL, mg x = none) (Fu : Fun Kf "law" "law" st f fd)
    (hc : defC d N ["script"] st = true) (hio : d.io = [false]) (T : Tab P w Kf mg base (cst0 Kf) k l) (h : ∀ ns : List Int, ns.length ≤ n → runD (ftOf l) d [.ro (ns.map .int)] = some (.val (.bool true), [])) : FnOk P w Kf mg base CX0 (k + 1) f fd ["script"] (spL Kf n) := by
  refine (def_fn (g := fnD l d) cst0_ok bn Fu hc rfl T fun _ _ _ _ h => h).imp fun vs H Q E sp => ?_
  obtain ⟨a, ns, rfl, hS, hl, q⟩ := sp
  have go : ∀ Fz : Addr → Prop, (∀ a, Fz a → ∃ vs, H a = some (.lst vs)) → ((Fz a ∧ H a = some (.lst (ns.map V.int))) ∨ (∃ o, H a = some (.frz o (.lst (ns.map V.int)))) ∨ (cst0 Kf).l a (ns.map V.int)) → spOf (cst0 Kf) (fnD l d) [.ref a] H Q E := fun Fz hf hA => by
    have e1 : (fnD l d).io = [false] := hio
    refine ⟨Fz, [.ro (ns.map .int)], _, _, h ns hl, by rw [e1]; rfl, ⟨rfl, fun i e g => ?_, fun i j e e' v v' b g1 g2 s1 s2 o1 o2 => ?_, hf⟩, fun v H' Fz' M O => ?_⟩
    · cases i with
      | zero =>
        cases g
        exact ⟨_, rfl, a, ns.map V.int, rfl, hA, ints_rf ns⟩
      | succ i => cases g
    · cases i with
      | zero =>
        cases g1
        exact o1.elim
      | succ i => cases g1
    · have := O.re
      have e2 : v = .bl true := by simpa only [RE, RF] using this
      rw [e2]
      exact q H'
  rcases hS with (hS | ⟨o, hS⟩) | hS
  · exact go (fun b => b = a) (fun b e => ⟨_, e ▸ hS⟩) (.inl ⟨rfl, hS⟩)
  · exact go (fun _ => False) (fun _ e => e.elim) (.inr (.inl ⟨o, hS⟩))
  · exact go (fun _ => False) (fun _ e => e.elim) (.inr (.inr hS))
end
end MP
set_option Elab.async false
set_option linter.all false
set_option maxRecDepth 100000
/-! W89: steps_of_two -/
namespace W89
open PySem PySem.Spec PyProof.Rows L2 MP
def a_steps_of_two : MD := ⟨6, [false, false, false], [
    .asgs [.nm 4, .nm 5] [.int 0, .int 1],
    .for (.nm 3) (.rng [.v 2]) [
      .asgs [.nm 4, .nm 5] [.v 5, .bin .Add (.bin .Mult (.v 0) (.v 5)) (.bin .Mult (.v 1) (.v 4))]],
    .ret (.v 4)]⟩
def a_rank_of_two : MD := ⟨7, [false, false, false], [
    .asgs [.nm 5, .nm 6] [.bin .Mod (.int 1) (.v 2), .bin .Mod (.v 0) (.v 2)],
    .asg (.nm 3) (.dnewT),
    .asg (.nm 4) (.int 1),
    .wh (.cmp .NotIn (.tup [.v 5, .v 6]) (.v 3)) [
      .ite (.cmp .Eq (.v 5) (.int 0)) [
        .ret (.v 4)] [],
      .setIx 3 (.tup [.v 5, .v 6]) (.bl true),
      .asgs [.nm 5, .nm 6] [.v 6, .bin .Mod (.bin .Add (.bin .Mult (.v 0) (.v 6)) (.bin .Mult (.v 1) (.v 5))) (.v 2)],
      .aug 4 .Add (.int 1)],
    .ret (.non)]⟩
def a__law_is_number : MD := ⟨1, [false], [
    .ret (.band [.isi .int (.v 0), .bnot (.isi .bool (.v 0))])]⟩
def a__law_common : MD := ⟨3, [false, false], [
    .asgs [.nm 0, .nm 1] [.blt .abs [.v 0], .blt .abs [.v 1]],
    .for (.nm 2) (.rng [.int 999]) [
      .ite (.cmp .Eq (.v 1) (.int 0)) [
        .brk] [],
      .asgs [.nm 0, .nm 1] [.v 1, .bin .Mod (.blt .int [.v 0]) (.v 1)]],
    .ret (.v 0)]⟩
def a__law_steps : MD := ⟨5, [false, false, false], [
    .asg (.nm 3) (.lst [.int 0, .int 1]),
    .for (.nm 4) (.rng [.v 2]) [
      .ex (.app 3 (.bin .Add (.bin .Mult (.v 0) (.idx (.v 3) (.neg (.int 1)))) (.bin .Mult (.v 1) (.idx (.v 3) (.neg (.int 2))))))],
    .ret (.v 3)]⟩
def a__law_rank : MD := ⟨8, [false, false, false], [
    .asgs [.nm 4, .nm 5, .nm 6, .nm 7] [.dnewT, .int 0, .bin .Mod (.blt .int [.int 1]) (.v 2), .int 0],
    .for (.nm 3) (.rng [.int 1000]) [
      .ite (.band [.cmp .Gt (.v 7) (.int 0), .cmp .Eq (.v 5) (.int 0)]) [
        .ret (.v 7)] [],
      .ite (.cmp .In (.tup [.v 5, .v 6]) (.v 4)) [
        .ret (.non)] [],
      .setIx 4 (.tup [.v 5, .v 6]) (.bl true),
      .asgs [.nm 5, .nm 6, .nm 7] [.v 6, .bin .Mod (.blt .int [.bin .Add (.bin .Mult (.v 0) (.v 6)) (.bin .Mult (.v 1) (.v 5))]) (.v 2), .bin .Add (.v 7) (.int 1)]],
    .ret (.non)]⟩
def a_law : MD := ⟨11, [false], [
    .asg (.nm 1) (.dct [.inr "draws", .inr "at"] [.call "_law_draws" [.v 0, .int 300], .int 0]),
    .for (.nm 2) (.rng [.int 5]) [
      .asgs [.nm 6, .nm 7, .nm 8, .nm 9] [.bin .Sub (.call "_law_next" [.v 1, .int 10]) (.int 4), .bin .Sub (.call "_law_next" [.v 1, .int 10]) (.int 4), .call "_law_next" [.v 1, .int 40], .bin .Add (.int 1) (.call "_law_next" [.v 1, .int 30])],
      .asg (.nm 3) (.call "_law_steps" [.v 6, .v 7, .int 60]),
      .asg (.nm 4) (.call "steps_of_two" [.v 6, .v 7, .v 8]),
      .ite (.bor [.bnot (.call "_law_is_number" [.v 4]), .cmp .NotEq (.v 4) (.idx (.v 3) (.v 8))]) [
        .ret (.bl false)] [],
      .asg (.nm 5) (.call "_law_rank" [.v 6, .v 7, .v 9]),
      .asg (.nm 4) (.call "rank_of_two" [.v 6, .v 7, .v 9]),
      .ite (.bor [.band [.cmp .Is (.v 5) (.non), .cmp .IsNot (.v 4) (.non)], .band [.cmp .IsNot (.v 5) (.non), .bor [.bnot (.call "_law_is_number" [.v 4]), .cmp .NotEq (.v 4) (.v 5)]]]) [
        .ret (.bl false)] [],
      .ite (.band [.cmp .IsNot (.v 5) (.non), .cmp .Eq (.call "_law_common" [.v 7, .v 9]) (.int 1), .cmp .NotEq (.comp (.nm 10) (.rng [.int 60]) [.cmp .NotEq (.cmp .Eq (.bin .Mod (.blt .int [.idx (.v 3) (.v 10)]) (.v 9)) (.int 0)) (.cmp .Eq (.bin .Mod (.blt .int [.v 10]) (.v 5)) (.int 0))] (.v 10) [10]) (.lst [])]) [
        .ret (.bl false)] []],
    .ret (.bl true)]⟩
/-! ### the mirrors -/
def uu (a b : Int) : Nat → Int × Int
  | 0 => (0, 1)
  | n + 1 => ((uu a b n).2, a * (uu a b n).2 + b * (uu a b n).1)
theorem uu_big {a b : Int} (ha : a.natAbs ≤ 5) (hb : b.natAbs ≤ 5) (n : Nat) : (uu a b n).1.natAbs ≤ 10 ^ n ∧ (uu a b n).2.natAbs ≤ 10 ^ n := by
  induction n with
  | zero => exact ⟨Nat.zero_le _, Nat.le_refl _⟩
  | succ n ih =>
    obtain ⟨h1, h2⟩ := ih
    refine ⟨?_, ?_⟩
    · show (uu a b n).2.natAbs ≤ _
      rw [Nat.pow_succ]
      omega
    · show (a * (uu a b n).2 + b * (uu a b n).1).natAbs ≤ _
      have e := Int.natAbs_add_le (a * (uu a b n).2) (b * (uu a b n).1)
      rw [Int.natAbs_mul, Int.natAbs_mul] at e
      have e1 := Nat.mul_le_mul ha h2
      have e2 := Nat.mul_le_mul hb h1
      rw [Nat.pow_succ]
      omega
set_option exponentiation.threshold 1000 in
theorem uu_ok {a b : Int} (ha : a.natAbs ≤ 5) (hb : b.natAbs ≤ 5) {n : Nat} (hn : n ≤ 100) : mulOk a (uu a b n).2 = true ∧ mulOk b (uu a b n).1 = true := by
  obtain ⟨h1, h2⟩ := uu_big ha hb n
  have h3 : (10:Nat) ^ n ≤ 10 ^ 100 := Nat.pow_le_pow_right (by decide) hn
  have h4 : (10:Nat) ^ 100 < 2 ^ 400 := by decide
  exact ⟨mul_ok 10 400 (by omega) (by omega) (by decide), mul_ok 10 400 (by omega) (by omega) (by decide)⟩
variable {F : FT}
theorem steps_run {a b : Int} (ha : a.natAbs ≤ 5) (hb : b.natAbs ≤ 5) {n : Nat} (hn : n ≤ 100) : runD F a_steps_of_two [.val (.int a), .val (.int b), .val (.int n)] = some (.val (.int (uu a b n).1), []) := by
  apply runD_of
  simp only [a_steps_of_two, List.cons_append, List.nil_append, List.map_cons, List.map_nil, List.length_cons, List.length_nil, List.replicate, Nat.reduceAdd, Nat.reduceSub, Nat.zero_le, if_true, wp_nil, wp_asg, wp_asgs, wp_setIx, wp_aug, wp_augIx, wp_ex, wp_ret, wp_retN, wp_brk, wp_ct, wp_pass, wp_ite, k1_some, cont_nx, cont_ret, cont_brk, cont_ct, kT_true, kT_false, kT_dec, den_v, den_int, den_bl, den_non, den_str, den_bin, den_neg, den_cmp, den_cmp2, den_band, den_bor, den_bnot, den_ife, den_tup, den_lst, den_dnewK, den_dnewT, den_dct, den_idx, den_slc, den_rev, den_blt, den_isi, den_call, den_app, den_ext, den_pop, den_popAt, den_lrng, den_comp_nm, denI_seq, denI_rng, dens_nil, dens_cons, sAsg, sAsgs, sSetIx, sAug, sAugIx, sEx, sRet, evRet, evC, evV, evMk, evOp, evCmp, evTest, evTup, evLst, evE1, evDct, evAnd, evOr, evNot, evIf, evSlc, evCall, evApp, evExt, evPop, evPopAt, evRng, evSeq, evLrng, evCmp2, MP.get, MP.put, nameE, look, looks, pvs, pvOf, args, items, ents, optI, asB, asBl, notR, tru, truSem, noneR, eAnds, eOrs, tAnds, tOrs, asgT, asgTs, asgEs, argE, argEs, slotsOf, putOuts, isOwnE, toD, seqOf, lstOf, fBin, fNeg, fCmp, fIdx, fRev, fIsi, binSem, intBin, cmpSem, cmpI, idxSem, slcSem, revSem, bltSem, lenSem, absSem, intSem, isD, isN, keyOf, rng1, rng2, setSem, onInt2, onSeq, bv, outsOf, start', eq_ii, eq_bb, eq_ni, eq_in, eq_ss, eq_ll0, Option.map_some, Option.map_none, and_self, decide_true, decide_false, Bool.not_true, Bool.not_false, List.nodup_cons, List.not_mem_nil, not_false_eq_true, List.nodup_nil, isi_int_n, isi_int_i, isi_int_b, isi_int_t, isi_int_s, isi_int_l, isi_int_L, isi_bool_n, isi_bool_i, isi_bool_b, isi_bool_t, isi_bool_s, isi_bool_l, isi_bool_L, isi_str_n, isi_str_i, isi_str_b, isi_str_t, isi_str_s, isi_str_l, isi_str_L, isi_tuple_n, isi_tuple_i, isi_tuple_b, isi_tuple_t, isi_tuple_s, isi_tuple_l, isi_tuple_L, isi_list_n, isi_list_i, isi_list_b, isi_list_t, isi_list_s, isi_list_l, isi_list_L]
  refine wp_for (ds := rngL 0 n) (ρ1 := [iv a, iv b, iv n, none, iv 0, iv 1]) ?_ (fun i ρ => ∃ x, ρ = [iv a, iv b, iv n, x, iv (uu a b i).1, iv (uu a b i).2]) ?_ ?_ ?_
  · have hb : inB (n : Int) = true := inB_s (by omega)
    simp only [hb, Int.toNat_natCast, wp_nil, wp_asg, wp_asgs, wp_setIx, wp_aug, wp_augIx, wp_ex, wp_ret, wp_retN, wp_brk, wp_ct, wp_pass, wp_ite, k1_some, cont_nx, cont_ret, cont_brk, cont_ct, kT_true, kT_false, kT_dec, den_v, den_int, den_bl, den_non, den_str, den_bin, den_neg, den_cmp, den_cmp2, den_band, den_bor, den_bnot, den_ife, den_tup, den_lst, den_dnewK, den_dnewT, den_dct, den_idx, den_slc, den_rev, den_blt, den_isi, den_call, den_app, den_ext, den_pop, den_popAt, den_lrng, den_comp_nm, denI_seq, denI_rng, dens_nil, dens_cons, sAsg, sAsgs, sSetIx, sAug, sAugIx, sEx, sRet, evRet, evC, evV, evMk, evOp, evCmp, evTest, evTup, evLst, evE1, evDct, evAnd, evOr, evNot, evIf, evSlc, evCall, evApp, evExt, evPop, evPopAt, evRng, evSeq, evLrng, evCmp2, MP.get, MP.put, nameE, look, looks, pvs, pvOf, args, items, ents, optI, asB, asBl, notR, tru, truSem, noneR, eAnds, eOrs, tAnds, tOrs, asgT, asgTs, asgEs, argE, argEs, slotsOf, putOuts, isOwnE, toD, seqOf, lstOf, fBin, fNeg, fCmp, fIdx, fRev, fIsi, binSem, intBin, cmpSem, cmpI, idxSem, slcSem, revSem, bltSem, lenSem, absSem, intSem, isD, isN, keyOf, rng1, rng2, setSem, onInt2, onSeq, bv, outsOf, start', eq_ii, eq_bb, eq_ni, eq_in, eq_ss, eq_ll0, Option.map_some, Option.map_none, and_self, decide_true, decide_false, Bool.not_true, Bool.not_false, List.nodup_cons, List.not_mem_nil, not_false_eq_true, List.nodup_nil, isi_int_n, isi_int_i, isi_int_b, isi_int_t, isi_int_s, isi_int_l, isi_int_L, isi_bool_n, isi_bool_i, isi_bool_b, isi_bool_t, isi_bool_s, isi_bool_l, isi_bool_L, isi_str_n, isi_str_i, isi_str_b, isi_str_t, isi_str_s, isi_str_l, isi_str_L, isi_tuple_n, isi_tuple_i, isi_tuple_b, isi_tuple_t, isi_tuple_s, isi_tuple_l, isi_tuple_L, isi_list_n, isi_list_i, isi_list_b, isi_list_t, isi_list_s, isi_list_l, isi_list_L]
  · exact ⟨none, rfl⟩
  · rintro i ρ d hd ⟨x, rfl⟩
    obtain ⟨hi, rfl⟩ := rngL_get hd
    refine ⟨_, rfl, ?_⟩
    obtain ⟨m1, m2⟩ := uu_ok ha hb (n := i) (by omega)
    simp only [m1, m2, if_true, wp_nil, wp_asg, wp_asgs, wp_setIx, wp_aug, wp_augIx, wp_ex, wp_ret, wp_retN, wp_brk, wp_ct, wp_pass, wp_ite, k1_some, cont_nx, cont_ret, cont_brk, cont_ct, kT_true, kT_false, kT_dec, den_v, den_int, den_bl, den_non, den_str, den_bin, den_neg, den_cmp, den_cmp2, den_band, den_bor, den_bnot, den_ife, den_tup, den_lst, den_dnewK, den_dnewT, den_dct, den_idx, den_slc, den_rev, den_blt, den_isi, den_call, den_app, den_ext, den_pop, den_popAt, den_lrng, den_comp_nm, denI_seq, denI_rng, dens_nil, dens_cons, sAsg, sAsgs, sSetIx, sAug, sAugIx, sEx, sRet, evRet, evC, evV, evMk, evOp, evCmp, evTest, evTup, evLst, evE1, evDct, evAnd, evOr, evNot, evIf, evSlc, evCall, evApp, evExt, evPop, evPopAt, evRng, evSeq, evLrng, evCmp2, MP.get, MP.put, nameE, look, looks, pvs, pvOf, args, items, ents, optI, asB, asBl, notR, tru, truSem, noneR, eAnds, eOrs, tAnds, tOrs, asgT, asgTs, asgEs, argE, argEs, slotsOf, putOuts, isOwnE, toD, seqOf, lstOf, fBin, fNeg, fCmp, fIdx, fRev, fIsi, binSem, intBin, cmpSem, cmpI, idxSem, slcSem, revSem, bltSem, lenSem, absSem, intSem, isD, isN, keyOf, rng1, rng2, setSem, onInt2, onSeq, bv, outsOf, start', eq_ii, eq_bb, eq_ni, eq_in, eq_ss, eq_ll0, Option.map_some, Option.map_none, and_self, decide_true, decide_false, Bool.not_true, Bool.not_false, List.nodup_cons, List.not_mem_nil, not_false_eq_true, List.nodup_nil, isi_int_n, isi_int_i, isi_int_b, isi_int_t, isi_int_s, isi_int_l, isi_int_L, isi_bool_n, isi_bool_i, isi_bool_b, isi_bool_t, isi_bool_s, isi_bool_l, isi_bool_L, isi_str_n, isi_str_i, isi_str_b, isi_str_t, isi_str_s, isi_str_l, isi_str_L, isi_tuple_n, isi_tuple_i, isi_tuple_b, isi_tuple_t, isi_tuple_s, isi_tuple_l, isi_tuple_L, isi_list_n, isi_list_i, isi_list_b, isi_list_t, isi_list_s, isi_list_l, isi_list_L]
    exact ⟨_, rfl⟩
  · rintro ρ ⟨x, rfl⟩
    rw [rngL_len]
    simp only [wp_nil, wp_asg, wp_asgs, wp_setIx, wp_aug, wp_augIx, wp_ex, wp_ret, wp_retN, wp_brk, wp_ct, wp_pass, wp_ite, k1_some, cont_nx, cont_ret, cont_brk, cont_ct, kT_true, kT_false, kT_dec, den_v, den_int, den_bl, den_non, den_str, den_bin, den_neg, den_cmp, den_cmp2, den_band, den_bor, den_bnot, den_ife, den_tup, den_lst, den_dnewK, den_dnewT, den_dct, den_idx, den_slc, den_rev, den_blt, den_isi, den_call, den_app, den_ext, den_pop, den_popAt, den_lrng, den_comp_nm, denI_seq, denI_rng, dens_nil, dens_cons, sAsg, sAsgs, sSetIx, sAug, sAugIx, sEx, sRet, evRet, evC, evV, evMk, evOp, evCmp, evTest, evTup, evLst, evE1, evDct, evAnd, evOr, evNot, evIf, evSlc, evCall, evApp, evExt, evPop, evPopAt, evRng, evSeq, evLrng, evCmp2, MP.get, MP.put, nameE, look, looks, pvs, pvOf, args, items, ents, optI, asB, asBl, notR, tru, truSem, noneR, eAnds, eOrs, tAnds, tOrs, asgT, asgTs, asgEs, argE, argEs, slotsOf, putOuts, isOwnE, toD, seqOf, lstOf, fBin, fNeg, fCmp, fIdx, fRev, fIsi, binSem, intBin, cmpSem, cmpI, idxSem, slcSem, revSem, bltSem, lenSem, absSem, intSem, isD, isN, keyOf, rng1, rng2, setSem, onInt2, onSeq, bv, outsOf, start', eq_ii, eq_bb, eq_ni, eq_in, eq_ss, eq_ll0, Option.map_some, Option.map_none, and_self, decide_true, decide_false, Bool.not_true, Bool.not_false, List.nodup_cons, List.not_mem_nil, not_false_eq_true, List.nodup_nil, isi_int_n, isi_int_i, isi_int_b, isi_int_t, isi_int_s, isi_int_l, isi_int_L, isi_bool_n, isi_bool_i, isi_bool_b, isi_bool_t, isi_bool_s, isi_bool_l, isi_bool_L, isi_str_n, isi_str_i, isi_str_b, isi_str_t, isi_str_s, isi_str_l, isi_str_L, isi_tuple_n, isi_tuple_i, isi_tuple_b, isi_tuple_t, isi_tuple_s, isi_tuple_l, isi_tuple_L, isi_list_n, isi_list_i, isi_list_b, isi_list_t, isi_list_s, isi_list_l, isi_list_L]
def rowsL (a b : Int) (n : Nat) : List Int := (List.range n).map fun i => (uu a b i).1
theorem rows_get {a b : Int} {n i : Nat} (h : i < n) : ((rowsL a b n).map PyData.int)[i]? = some (.int (uu a b i).1) := by
  unfold rowsL
  rw [List.getElem?_map, List.getElem?_map, List.getElem?_range h]
  rfl
theorem rows_len {a b : Int} {n : Nat} : ((rowsL a b n).map PyData.int).length = n := by simp [rowsL]
theorem lsteps_run {a b : Int} (ha : a.natAbs ≤ 5) (hb : b.natAbs ≤ 5) : runD F a__law_steps [.val (.int a), .val (.int b), .val (.int 60)] = some (.lst ((rowsL a b 62).map .int), []) := by
  apply runD_of
  have l2 : (2:Nat) ≤ LIM := by decide
  simp only [a__law_steps, List.cons_append, List.nil_append, List.map_cons, List.map_nil, List.length_cons, List.length_nil, List.replicate, Nat.reduceAdd, Nat.reduceSub, Nat.zero_le, l2, if_true, wp_nil, wp_asg, wp_asgs, wp_setIx, wp_aug, wp_augIx, wp_ex, wp_ret, wp_retN, wp_brk, wp_ct, wp_pass, wp_ite, k1_some, cont_nx, cont_ret, cont_brk, cont_ct, kT_true, kT_false, kT_dec, den_v, den_int, den_bl, den_non, den_str, den_bin, den_neg, den_cmp, den_cmp2, den_band, den_bor, den_bnot, den_ife, den_tup, den_lst, den_dnewK, den_dnewT, den_dct, den_idx, den_slc, den_rev, den_blt, den_isi, den_call, den_app, den_ext, den_pop, den_popAt, den_lrng, den_comp_nm, denI_seq, denI_rng, dens_nil, dens_cons, sAsg, sAsgs, sSetIx, sAug, sAugIx, sEx, sRet, evRet, evC, evV, evMk, evOp, evCmp, evTest, evTup, evLst, evE1, evDct, evAnd, evOr, evNot, evIf, evSlc, evCall, evApp, evExt, evPop, evPopAt, evRng, evSeq, evLrng, evCmp2, MP.get, MP.put, nameE, look, looks, pvs, pvOf, args, items, ents, optI, asB, asBl, notR, tru, truSem, noneR, eAnds, eOrs, tAnds, tOrs, asgT, asgTs, asgEs, argE, argEs, slotsOf, putOuts, isOwnE, toD, seqOf, lstOf, fBin, fNeg, fCmp, fIdx, fRev, fIsi, binSem, intBin, cmpSem, cmpI, idxSem, slcSem, revSem, bltSem, lenSem, absSem, intSem, isD, isN, keyOf, rng1, rng2, setSem, onInt2, onSeq, bv, outsOf, start', eq_ii, eq_bb, eq_ni, eq_in, eq_ss, eq_ll0, Option.map_some, Option.map_none, and_self, decide_true, decide_false, Bool.not_true, Bool.not_false, List.nodup_cons, List.not_mem_nil, not_false_eq_true, List.nodup_nil, isi_int_n, isi_int_i, isi_int_b, isi_int_t, isi_int_s, isi_int_l, isi_int_L, isi_bool_n, isi_bool_i, isi_bool_b, isi_bool_t, isi_bool_s, isi_bool_l, isi_bool_L, isi_str_n, isi_str_i, isi_str_b, isi_str_t, isi_str_s, isi_str_l, isi_str_L, isi_tuple_n, isi_tuple_i, isi_tuple_b, isi_tuple_t, isi_tuple_s, isi_tuple_l, isi_tuple_L, isi_list_n, isi_list_i, isi_list_b, isi_list_t, isi_list_s, isi_list_l, isi_list_L]
  refine wp_for (ds := rngL 0 60) (ρ1 := [iv a, iv b, iv 60, il [0, 1], none]) ?_ (fun i ρ => ∃ x, ρ = [iv a, iv b, iv 60, il (rowsL a b (i + 2)), x]) ?_ ?_ ?_
  · have hb : inB 60 = true := inB_s (by decide)
    simp only [hb, List.map_cons, List.map_nil, wp_nil, wp_asg, wp_asgs, wp_setIx, wp_aug, wp_augIx, wp_ex, wp_ret, wp_retN, wp_brk, wp_ct, wp_pass, wp_ite, k1_some, cont_nx, cont_ret, cont_brk, cont_ct, kT_true, kT_false, kT_dec, den_v, den_int, den_bl, den_non, den_str, den_bin, den_neg, den_cmp, den_cmp2, den_band, den_bor, den_bnot, den_ife, den_tup, den_lst, den_dnewK, den_dnewT, den_dct, den_idx, den_slc, den_rev, den_blt, den_isi, den_call, den_app, den_ext, den_pop, den_popAt, den_lrng, den_comp_nm, denI_seq, denI_rng, dens_nil, dens_cons, sAsg, sAsgs, sSetIx, sAug, sAugIx, sEx, sRet, evRet, evC, evV, evMk, evOp, evCmp, evTest, evTup, evLst, evE1, evDct, evAnd, evOr, evNot, evIf, evSlc, evCall, evApp, evExt, evPop, evPopAt, evRng, evSeq, evLrng, evCmp2, MP.get, MP.put, nameE, look, looks, pvs, pvOf, args, items, ents, optI, asB, asBl, notR, tru, truSem, noneR, eAnds, eOrs, tAnds, tOrs, asgT, asgTs, asgEs, argE, argEs, slotsOf, putOuts, isOwnE, toD, seqOf, lstOf, fBin, fNeg, fCmp, fIdx, fRev, fIsi, binSem, intBin, cmpSem, cmpI, idxSem, slcSem, revSem, bltSem, lenSem, absSem, intSem, isD, isN, keyOf, rng1, rng2, setSem, onInt2, onSeq, bv, outsOf, start', eq_ii, eq_bb, eq_ni, eq_in, eq_ss, eq_ll0, Option.map_some, Option.map_none, and_self, decide_true, decide_false, Bool.not_true, Bool.not_false, List.nodup_cons, List.not_mem_nil, not_false_eq_true, List.nodup_nil, isi_int_n, isi_int_i, isi_int_b, isi_int_t, isi_int_s, isi_int_l, isi_int_L, isi_bool_n, isi_bool_i, isi_bool_b, isi_bool_t, isi_bool_s, isi_bool_l, isi_bool_L, isi_str_n, isi_str_i, isi_str_b, isi_str_t, isi_str_s, isi_str_l, isi_str_L, isi_tuple_n, isi_tuple_i, isi_tuple_b, isi_tuple_t, isi_tuple_s, isi_tuple_l, isi_tuple_L, isi_list_n, isi_list_i, isi_list_b, isi_list_t, isi_list_s, isi_list_l, isi_list_L]
    rfl
  · exact ⟨none, rfl⟩
  · rintro i ρ d hd ⟨x, rfl⟩
    obtain ⟨hi, rfl⟩ := rngL_get hd
    refine ⟨_, rfl, ?_⟩
    obtain ⟨m1, m2⟩ := uu_ok ha hb (n := i) (by omega)
    have e1 : atI ((rowsL a b (i + 2)).map PyData.int) (-1) = some (.int (uu a b i).2) := by
      exact atI_back (j := 1) (by omega) (by rw [rows_len]; omega) (by rw [rows_len, rows_get (by omega)]; rfl)
    have e2 : atI ((rowsL a b (i + 2)).map PyData.int) (-2) = some (.int (uu a b i).1) := by
      exact atI_back (j := 2) (by omega) (by rw [rows_len]; omega) (by rw [rows_len, rows_get (by omega)]; rfl)
    have e3 : ((rowsL a b (i + 2)).map PyData.int).length < LIM := by rw [rows_len]; unfold LIM; omega
    simp only [iv, il, e1, e2, e3, m1, m2, if_true, map_snoc, wp_nil, wp_asg, wp_asgs, wp_setIx, wp_aug, wp_augIx, wp_ex, wp_ret, wp_retN, wp_brk, wp_ct, wp_pass, wp_ite, k1_some, cont_nx, cont_ret, cont_brk, cont_ct, kT_true, kT_false, kT_dec, den_v, den_int, den_bl, den_non, den_str, den_bin, den_neg, den_cmp, den_cmp2, den_band, den_bor, den_bnot, den_ife, den_tup, den_lst, den_dnewK, den_dnewT, den_dct, den_idx, den_slc, den_rev, den_blt, den_isi, den_call, den_app, den_ext, den_pop, den_popAt, den_lrng, den_comp_nm, denI_seq, denI_rng, dens_nil, dens_cons, sAsg, sAsgs, sSetIx, sAug, sAugIx, sEx, sRet, evRet, evC, evV, evMk, evOp, evCmp, evTest, evTup, evLst, evE1, evDct, evAnd, evOr, evNot, evIf, evSlc, evCall, evApp, evExt, evPop, evPopAt, evRng, evSeq, evLrng, evCmp2, MP.get, MP.put, nameE, look, looks, pvs, pvOf, args, items, ents, optI, asB, asBl, notR, tru, truSem, noneR, eAnds, eOrs, tAnds, tOrs, asgT, asgTs, asgEs, argE, argEs, slotsOf, putOuts, isOwnE, toD, seqOf, lstOf, fBin, fNeg, fCmp, fIdx, fRev, fIsi, binSem, intBin, cmpSem, cmpI, idxSem, slcSem, revSem, bltSem, lenSem, absSem, intSem, isD, isN, keyOf, rng1, rng2, setSem, onInt2, onSeq, bv, outsOf, start', eq_ii, eq_bb, eq_ni, eq_in, eq_ss, eq_ll0, Option.map_some, Option.map_none, and_self, decide_true, decide_false, Bool.not_true, Bool.not_false, List.nodup_cons, List.not_mem_nil, not_false_eq_true, List.nodup_nil, isi_int_n, isi_int_i, isi_int_b, isi_int_t, isi_int_s, isi_int_l, isi_int_L, isi_bool_n, isi_bool_i, isi_bool_b, isi_bool_t, isi_bool_s, isi_bool_l, isi_bool_L, isi_str_n, isi_str_i, isi_str_b, isi_str_t, isi_str_s, isi_str_l, isi_str_L, isi_tuple_n, isi_tuple_i, isi_tuple_b, isi_tuple_t, isi_tuple_s, isi_tuple_l, isi_tuple_L, isi_list_n, isi_list_i, isi_list_b, isi_list_t, isi_list_s, isi_list_l, isi_list_L]
    have e4 : rowsL a b (i + 1 + 2) = rowsL a b (i + 2) ++ [a * (uu a b i).2 + b * (uu a b i).1] := by
      unfold rowsL
      rw [show i + 1 + 2 = (i + 2) + 1 by omega, List.range_succ, List.map_append]
      rfl
    rw [e4]
    exact ⟨_, rfl⟩
  · rintro ρ ⟨x, rfl⟩
    rw [rngL_len]
    simp only [wp_nil, wp_asg, wp_asgs, wp_setIx, wp_aug, wp_augIx, wp_ex, wp_ret, wp_retN, wp_brk, wp_ct, wp_pass, wp_ite, k1_some, cont_nx, cont_ret, cont_brk, cont_ct, kT_true, kT_false, kT_dec, den_v, den_int, den_bl, den_non, den_str, den_bin, den_neg, den_cmp, den_cmp2, den_band, den_bor, den_bnot, den_ife, den_tup, den_lst, den_dnewK, den_dnewT, den_dct, den_idx, den_slc, den_rev, den_blt, den_isi, den_call, den_app, den_ext, den_pop, den_popAt, den_lrng, den_comp_nm, denI_seq, denI_rng, dens_nil, dens_cons, sAsg, sAsgs, sSetIx, sAug, sAugIx, sEx, sRet, evRet, evC, evV, evMk, evOp, evCmp, evTest, evTup, evLst, evE1, evDct, evAnd, evOr, evNot, evIf, evSlc, evCall, evApp, evExt, evPop, evPopAt, evRng, evSeq, evLrng, evCmp2, MP.get, MP.put, nameE, look, looks, pvs, pvOf, args, items, ents, optI, asB, asBl, notR, tru, truSem, noneR, eAnds, eOrs, tAnds, tOrs, asgT, asgTs, asgEs, argE, argEs, slotsOf, putOuts, isOwnE, toD, seqOf, lstOf, fBin, fNeg, fCmp, fIdx, fRev, fIsi, binSem, intBin, cmpSem, cmpI, idxSem, slcSem, revSem, bltSem, lenSem, absSem, intSem, isD, isN, keyOf, rng1, rng2, setSem, onInt2, onSeq, bv, outsOf, start', eq_ii, eq_bb, eq_ni, eq_in, eq_ss, eq_ll0, Option.map_some, Option.map_none, and_self, decide_true, decide_false, Bool.not_true, Bool.not_false, List.nodup_cons, List.not_mem_nil, not_false_eq_true, List.nodup_nil, isi_int_n, isi_int_i, isi_int_b, isi_int_t, isi_int_s, isi_int_l, isi_int_L, isi_bool_n, isi_bool_i, isi_bool_b, isi_bool_t, isi_bool_s, isi_bool_l, isi_bool_L, isi_str_n, isi_str_i, isi_str_b, isi_str_t, isi_str_s, isi_str_l, isi_str_L, isi_tuple_n, isi_tuple_i, isi_tuple_b, isi_tuple_t, isi_tuple_s, isi_tuple_l, isi_tuple_L, isi_list_n, isi_list_i, isi_list_b, isi_list_t, isi_list_s, isi_list_l, isi_list_L]
/-! ### rank -/
abbrev Pr := Int × Int
def nxt (a b m : Int) (p : Pr) : Pr := (p.2, (a * p.2 + b * p.1) % m)
def rankM (a b m : Int) : Nat → List Pr → Pr → Int → Option (Option Int)
  | 0, _, _, _ => none
  | f + 1, met, p, n => if p ∈ met then some none else if p.1 = 0 then some (some n) else rankM a b m f (met ++ [p]) (nxt a b m p) (n + 1)
def lrankM (a b m : Int) : Nat → List Pr → Pr → Int → Option (Option Int)
  | 0, _, _, _ => none
  | f + 1, met, p, n => if 0 < n ∧ p.1 = 0 then some (some n) else if p ∈ met then some none else lrankM a b m f (met ++ [p]) (nxt a b m p) (n + 1)
def kp (p : Pr) : List Key := [.inl p.1, .inl p.2]
def metD (met : List Pr) : List (List Key × D) := met.map fun p => (kp p, .bool true)
theorem kp_inj {p q : Pr} (h : kp p = kp q) : p = q := by
  obtain ⟨a, b⟩ := p
  obtain ⟨c, d⟩ := q
  simp only [kp, List.cons.injEq, Sum.inl.injEq] at h
  rw [h.1, h.2.1]
theorem met_in {met : List Pr} {p : Pr} : (lookG (metD met) (kp p)).isSome = decide (p ∈ met) := by
  induction met with
  | nil => rfl
  | cons q met ih =>
    unfold lookG metD at ih ⊢
    rw [List.map_cons, List.find?_cons]
    by_cases h : p = q
    · subst h; simp
    · have : (decide ((kp q, PyData.bool true).1 = kp p)) = false := by
        rw [decide_eq_false_iff_not]
        exact fun e => h (kp_inj e).symm
      rw [this]
      rw [ih]
      simp [h]
theorem met_put {met : List Pr} {p : Pr} (h : p ∉ met) : putG (metD met) (kp p) (.bool true) = metD (met ++ [p]) := by
  unfold putG
  have : ((metD met).any fun kv => decide (kv.1 = kp p)) = false := by
    rw [List.any_eq_false]
    intro x hx
    unfold metD at hx
    rw [List.mem_map] at hx
    obtain ⟨q, hq, rfl⟩ := hx
    rw [decide_eq_true_eq]
    exact fun e => h (kp_inj e ▸ hq)
  rw [this]
  simp [metD]
theorem met_len {met : List Pr} : (metD met).length = met.length := by simp [metD]
theorem keyT_kp {u v : Int} : keyT (.tuple [.int u, .int v]) = some (kp (u, v)) := rfl
def optD : Option Int → D
  | none => .none
  | some n => .int n
theorem rank_run {a b m : Int} (ha : a.natAbs ≤ 5) (hb : b.natAbs ≤ 5) (hm : 0 < m ∧ m ≤ 30) {r : Option Int} (h : rankM a b m 1000 [] (1 % m, a % m) 1 = some r) :
    runD F a_rank_of_two [.val (.int a), .val (.int b), .val (.int m)] = some (.val (optD r), []) := by
  apply runD_of
  obtain ⟨m0, m1⟩ := hm
  have l2 : (2:Nat) ≤ LIM := by decide
  have bd : ∀ z : Int, 0 ≤ z % m ∧ z % m < m := fun z => ⟨Int.emod_nonneg _ (by omega), Int.emod_lt_of_pos _ m0⟩
  simp only [a_rank_of_two, m0, List.cons_append, List.nil_append, List.map_cons, List.map_nil, List.length_cons, List.length_nil, List.replicate, Nat.reduceAdd, Nat.reduceSub, Nat.zero_le, if_true, wp_nil, wp_asg, wp_asgs, wp_setIx, wp_aug, wp_augIx, wp_ex, wp_ret, wp_retN, wp_brk, wp_ct, wp_pass, wp_ite, k1_some, cont_nx, cont_ret, cont_brk, cont_ct, kT_true, kT_false, kT_dec, den_v, den_int, den_bl, den_non, den_str, den_bin, den_neg, den_cmp, den_cmp2, den_band, den_bor, den_bnot, den_ife, den_tup, den_lst, den_dnewK, den_dnewT, den_dct, den_idx, den_slc, den_rev, den_blt, den_isi, den_call, den_app, den_ext, den_pop, den_popAt, den_lrng, den_comp_nm, denI_seq, denI_rng, dens_nil, dens_cons, sAsg, sAsgs, sSetIx, sAug, sAugIx, sEx, sRet, evRet, evC, evV, evMk, evOp, evCmp, evTest, evTup, evLst, evE1, evDct, evAnd, evOr, evNot, evIf, evSlc, evCall, evApp, evExt, evPop, evPopAt, evRng, evSeq, evLrng, evCmp2, MP.get, MP.put, nameE, look, looks, pvs, pvOf, args, items, ents, optI, asB, asBl, notR, tru, truSem, noneR, eAnds, eOrs, tAnds, tOrs, asgT, asgTs, asgEs, argE, argEs, slotsOf, putOuts, isOwnE, toD, seqOf, lstOf, fBin, fNeg, fCmp, fIdx, fRev, fIsi, binSem, intBin, cmpSem, cmpI, idxSem, slcSem, revSem, bltSem, lenSem, absSem, intSem, isD, isN, keyOf, rng1, rng2, setSem, onInt2, onSeq, bv, outsOf, start', eq_ii, eq_bb, eq_ni, eq_in, eq_ss, eq_ll0, Option.map_some, Option.map_none, and_self, decide_true, decide_false, Bool.not_true, Bool.not_false, List.nodup_cons, List.not_mem_nil, not_false_eq_true, List.nodup_nil, isi_int_n, isi_int_i, isi_int_b, isi_int_t, isi_int_s, isi_int_l, isi_int_L, isi_bool_n, isi_bool_i, isi_bool_b, isi_bool_t, isi_bool_s, isi_bool_l, isi_bool_L, isi_str_n, isi_str_i, isi_str_b, isi_str_t, isi_str_s, isi_str_l, isi_str_L, isi_tuple_n, isi_tuple_i, isi_tuple_b, isi_tuple_t, isi_tuple_s, isi_tuple_l, isi_tuple_L, isi_list_n, isi_list_i, isi_list_b, isi_list_t, isi_list_s, isi_list_l, isi_list_L]
  refine wp_wh (n := 1000) (fun f ρ => ∃ (met : List Pr) (p : Pr) (n : Int), ρ = [iv a, iv b, iv m, some (.dctT (metD met)), iv n, iv p.1, iv p.2] ∧ rankM a b m f met p n = some r ∧ met.length + f = 1000 ∧ 0 ≤ p.1 ∧ p.1 < m ∧ 0 ≤ p.2 ∧ p.2 < m) ?_ ?_
  · exact ⟨[], (1 % m, a % m), 1, rfl, h, rfl, (bd _).1, (bd _).2, (bd _).1, (bd _).2⟩
  · rintro f ρ ⟨met, ⟨u, v⟩, n, rfl, hr, hl, p0, p1, p2, p3⟩
    dsimp only at p0 p1 p2 p3
    cases f with
    | zero => cases hr
    | succ f =>
      have ml : (metD met).length < LIM := by rw [met_len]; unfold LIM; omega
      have o1 : mulOk a v = true := mul_s (by omega) (by omega)
      have o2 : mulOk b u = true := mul_s (by omega) (by omega)
      simp only [rankM] at hr
      simp only [inSem, keyT_kp, met_in, Option.map_some, List.length_cons, List.length_nil, Nat.reduceAdd, Nat.zero_le, l2, if_true, iv, wp_nil, wp_asg, wp_asgs, wp_setIx, wp_aug, wp_augIx, wp_ex, wp_ret, wp_retN, wp_brk, wp_ct, wp_pass, wp_ite, k1_some, cont_nx, cont_ret, cont_brk, cont_ct, kT_true, kT_false, kT_dec, den_v, den_int, den_bl, den_non, den_str, den_bin, den_neg, den_cmp, den_cmp2, den_band, den_bor, den_bnot, den_ife, den_tup, den_lst, den_dnewK, den_dnewT, den_dct, den_idx, den_slc, den_rev, den_blt, den_isi, den_call, den_app, den_ext, den_pop, den_popAt, den_lrng, den_comp_nm, denI_seq, denI_rng, dens_nil, dens_cons, sAsg, sAsgs, sSetIx, sAug, sAugIx, sEx, sRet, evRet, evC, evV, evMk, evOp, evCmp, evTest, evTup, evLst, evE1, evDct, evAnd, evOr, evNot, evIf, evSlc, evCall, evApp, evExt, evPop, evPopAt, evRng, evSeq, evLrng, evCmp2, MP.get, MP.put, nameE, look, looks, pvs, pvOf, args, items, ents, optI, asB, asBl, notR, tru, truSem, noneR, eAnds, eOrs, tAnds, tOrs, asgT, asgTs, asgEs, argE, argEs, slotsOf, putOuts, isOwnE, toD, seqOf, lstOf, fBin, fNeg, fCmp, fIdx, fRev, fIsi, binSem, intBin, cmpSem, cmpI, idxSem, slcSem, revSem, bltSem, lenSem, absSem, intSem, isD, isN, keyOf, rng1, rng2, setSem, onInt2, onSeq, bv, outsOf, start', eq_ii, eq_bb, eq_ni, eq_in, eq_ss, eq_ll0, Option.map_some, Option.map_none, and_self, decide_true, decide_false, Bool.not_true, Bool.not_false, List.nodup_cons, List.not_mem_nil, not_false_eq_true, List.nodup_nil, isi_int_n, isi_int_i, isi_int_b, isi_int_t, isi_int_s, isi_int_l, isi_int_L, isi_bool_n, isi_bool_i, isi_bool_b, isi_bool_t, isi_bool_s, isi_bool_l, isi_bool_L, isi_str_n, isi_str_i, isi_str_b, isi_str_t, isi_str_s, isi_str_l, isi_str_L, isi_tuple_n, isi_tuple_i, isi_tuple_b, isi_tuple_t, isi_tuple_s, isi_tuple_l, isi_tuple_L, isi_list_n, isi_list_i, isi_list_b, isi_list_t, isi_list_s, isi_list_l, isi_list_L]
      by_cases h1 : (u, v) ∈ met
      · rw [if_pos h1] at hr
        cases hr
        simp only [h1, decide_true, Bool.not_true, kT_false, optD, wp_nil, wp_asg, wp_asgs, wp_setIx, wp_aug, wp_augIx, wp_ex, wp_ret, wp_retN, wp_brk, wp_ct, wp_pass, wp_ite, k1_some, cont_nx, cont_ret, cont_brk, cont_ct, kT_true, kT_false, kT_dec, den_v, den_int, den_bl, den_non, den_str, den_bin, den_neg, den_cmp, den_cmp2, den_band, den_bor, den_bnot, den_ife, den_tup, den_lst, den_dnewK, den_dnewT, den_dct, den_idx, den_slc, den_rev, den_blt, den_isi, den_call, den_app, den_ext, den_pop, den_popAt, den_lrng, den_comp_nm, denI_seq, denI_rng, dens_nil, dens_cons, sAsg, sAsgs, sSetIx, sAug, sAugIx, sEx, sRet, evRet, evC, evV, evMk, evOp, evCmp, evTest, evTup, evLst, evE1, evDct, evAnd, evOr, evNot, evIf, evSlc, evCall, evApp, evExt, evPop, evPopAt, evRng, evSeq, evLrng, evCmp2, MP.get, MP.put, nameE, look, looks, pvs, pvOf, args, items, ents, optI, asB, asBl, notR, tru, truSem, noneR, eAnds, eOrs, tAnds, tOrs, asgT, asgTs, asgEs, argE, argEs, slotsOf, putOuts, isOwnE, toD, seqOf, lstOf, fBin, fNeg, fCmp, fIdx, fRev, fIsi, binSem, intBin, cmpSem, cmpI, idxSem, slcSem, revSem, bltSem, lenSem, absSem, intSem, isD, isN, keyOf, rng1, rng2, setSem, onInt2, onSeq, bv, outsOf, start', eq_ii, eq_bb, eq_ni, eq_in, eq_ss, eq_ll0, Option.map_some, Option.map_none, and_self, decide_true, decide_false, Bool.not_true, Bool.not_false, List.nodup_cons, List.not_mem_nil, not_false_eq_true, List.nodup_nil, isi_int_n, isi_int_i, isi_int_b, isi_int_t, isi_int_s, isi_int_l, isi_int_L, isi_bool_n, isi_bool_i, isi_bool_b, isi_bool_t, isi_bool_s, isi_bool_l, isi_bool_L, isi_str_n, isi_str_i, isi_str_b, isi_str_t, isi_str_s, isi_str_l, isi_str_L, isi_tuple_n, isi_tuple_i, isi_tuple_b, isi_tuple_t, isi_tuple_s, isi_tuple_l, isi_tuple_L, isi_list_n, isi_list_i, isi_list_b, isi_list_t, isi_list_s, isi_list_l, isi_list_L]
      · rw [if_neg h1] at hr
        by_cases h2 : u = 0
        · rw [if_pos h2] at hr
          cases hr
          subst h2
          simp only [h1, decide_false, Bool.not_false, kT_true, if_true, optD, wp_nil, wp_asg, wp_asgs, wp_setIx, wp_aug, wp_augIx, wp_ex, wp_ret, wp_retN, wp_brk, wp_ct, wp_pass, wp_ite, k1_some, cont_nx, cont_ret, cont_brk, cont_ct, kT_true, kT_false, kT_dec, den_v, den_int, den_bl, den_non, den_str, den_bin, den_neg, den_cmp, den_cmp2, den_band, den_bor, den_bnot, den_ife, den_tup, den_lst, den_dnewK, den_dnewT, den_dct, den_idx, den_slc, den_rev, den_blt, den_isi, den_call, den_app, den_ext, den_pop, den_popAt, den_lrng, den_comp_nm, denI_seq, denI_rng, dens_nil, dens_cons, sAsg, sAsgs, sSetIx, sAug, sAugIx, sEx, sRet, evRet, evC, evV, evMk, evOp, evCmp, evTest, evTup, evLst, evE1, evDct, evAnd, evOr, evNot, evIf, evSlc, evCall, evApp, evExt, evPop, evPopAt, evRng, evSeq, evLrng, evCmp2, MP.get, MP.put, nameE, look, looks, pvs, pvOf, args, items, ents, optI, asB, asBl, notR, tru, truSem, noneR, eAnds, eOrs, tAnds, tOrs, asgT, asgTs, asgEs, argE, argEs, slotsOf, putOuts, isOwnE, toD, seqOf, lstOf, fBin, fNeg, fCmp, fIdx, fRev, fIsi, binSem, intBin, cmpSem, cmpI, idxSem, slcSem, revSem, bltSem, lenSem, absSem, intSem, isD, isN, keyOf, rng1, rng2, setSem, onInt2, onSeq, bv, outsOf, start', eq_ii, eq_bb, eq_ni, eq_in, eq_ss, eq_ll0, Option.map_some, Option.map_none, and_self, decide_true, decide_false, Bool.not_true, Bool.not_false, List.nodup_cons, List.not_mem_nil, not_false_eq_true, List.nodup_nil, isi_int_n, isi_int_i, isi_int_b, isi_int_t, isi_int_s, isi_int_l, isi_int_L, isi_bool_n, isi_bool_i, isi_bool_b, isi_bool_t, isi_bool_s, isi_bool_l, isi_bool_L, isi_str_n, isi_str_i, isi_str_b, isi_str_t, isi_str_s, isi_str_l, isi_str_L, isi_tuple_n, isi_tuple_i, isi_tuple_b, isi_tuple_t, isi_tuple_s, isi_tuple_l, isi_tuple_L, isi_list_n, isi_list_i, isi_list_b, isi_list_t, isi_list_s, isi_list_l, isi_list_L]
        · rw [if_neg h2] at hr
          simp only [h1, h2, decide_false, Bool.not_false, kT_true, keyT_kp, met_put h1, ml, o1, o2, m0, List.length_cons, List.length_nil, Nat.reduceAdd, Nat.zero_le, l2, if_true, if_false, wp_nil, wp_asg, wp_asgs, wp_setIx, wp_aug, wp_augIx, wp_ex, wp_ret, wp_retN, wp_brk, wp_ct, wp_pass, wp_ite, k1_some, cont_nx, cont_ret, cont_brk, cont_ct, kT_true, kT_false, kT_dec, den_v, den_int, den_bl, den_non, den_str, den_bin, den_neg, den_cmp, den_cmp2, den_band, den_bor, den_bnot, den_ife, den_tup, den_lst, den_dnewK, den_dnewT, den_dct, den_idx, den_slc, den_rev, den_blt, den_isi, den_call, den_app, den_ext, den_pop, den_popAt, den_lrng, den_comp_nm, denI_seq, denI_rng, dens_nil, dens_cons, sAsg, sAsgs, sSetIx, sAug, sAugIx, sEx, sRet, evRet, evC, evV, evMk, evOp, evCmp, evTest, evTup, evLst, evE1, evDct, evAnd, evOr, evNot, evIf, evSlc, evCall, evApp, evExt, evPop, evPopAt, evRng, evSeq, evLrng, evCmp2, MP.get, MP.put, nameE, look, looks, pvs, pvOf, args, items, ents, optI, asB, asBl, notR, tru, truSem, noneR, eAnds, eOrs, tAnds, tOrs, asgT, asgTs, asgEs, argE, argEs, slotsOf, putOuts, isOwnE, toD, seqOf, lstOf, fBin, fNeg, fCmp, fIdx, fRev, fIsi, binSem, intBin, cmpSem, cmpI, idxSem, slcSem, revSem, bltSem, lenSem, absSem, intSem, isD, isN, keyOf, rng1, rng2, setSem, onInt2, onSeq, bv, outsOf, start', eq_ii, eq_bb, eq_ni, eq_in, eq_ss, eq_ll0, Option.map_some, Option.map_none, and_self, decide_true, decide_false, Bool.not_true, Bool.not_false, List.nodup_cons, List.not_mem_nil, not_false_eq_true, List.nodup_nil, isi_int_n, isi_int_i, isi_int_b, isi_int_t, isi_int_s, isi_int_l, isi_int_L, isi_bool_n, isi_bool_i, isi_bool_b, isi_bool_t, isi_bool_s, isi_bool_l, isi_bool_L, isi_str_n, isi_str_i, isi_str_b, isi_str_t, isi_str_s, isi_str_l, isi_str_L, isi_tuple_n, isi_tuple_i, isi_tuple_b, isi_tuple_t, isi_tuple_s, isi_tuple_l, isi_tuple_L, isi_list_n, isi_list_i, isi_list_b, isi_list_t, isi_list_s, isi_list_l, isi_list_L]
          refine ⟨f, Nat.lt_succ_self f, met ++ [(u, v)], nxt a b m (u, v), n + 1, rfl, hr, by rw [List.length_append, List.length_singleton]; omega, p2, p3, (bd _).1, (bd _).2⟩
theorem lrank_run {a b m : Int} (ha : a.natAbs ≤ 5) (hb : b.natAbs ≤ 5) (hm : 0 < m ∧ m ≤ 30) {r : Option Int} (h : lrankM a b m 1000 [] (0, 1 % m) 0 = some r) :
    runD F a__law_rank [.val (.int a), .val (.int b), .val (.int m)] = some (.val (optD r), []) := by
  apply runD_of
  obtain ⟨m0, m1⟩ := hm
  have l2 : (2:Nat) ≤ LIM := by decide
  have bd : ∀ z : Int, 0 ≤ z % m ∧ z % m < m := fun z => ⟨Int.emod_nonneg _ (by omega), Int.emod_lt_of_pos _ m0⟩
  simp only [a__law_rank, m0, List.cons_append, List.nil_append, List.map_cons, List.map_nil, List.length_cons, List.length_nil, List.replicate, Nat.reduceAdd, Nat.reduceSub, Nat.zero_le, if_true, wp_nil, wp_asg, wp_asgs, wp_setIx, wp_aug, wp_augIx, wp_ex, wp_ret, wp_retN, wp_brk, wp_ct, wp_pass, wp_ite, k1_some, cont_nx, cont_ret, cont_brk, cont_ct, kT_true, kT_false, kT_dec, den_v, den_int, den_bl, den_non, den_str, den_bin, den_neg, den_cmp, den_cmp2, den_band, den_bor, den_bnot, den_ife, den_tup, den_lst, den_dnewK, den_dnewT, den_dct, den_idx, den_slc, den_rev, den_blt, den_isi, den_call, den_app, den_ext, den_pop, den_popAt, den_lrng, den_comp_nm, denI_seq, denI_rng, dens_nil, dens_cons, sAsg, sAsgs, sSetIx, sAug, sAugIx, sEx, sRet, evRet, evC, evV, evMk, evOp, evCmp, evTest, evTup, evLst, evE1, evDct, evAnd, evOr, evNot, evIf, evSlc, evCall, evApp, evExt, evPop, evPopAt, evRng, evSeq, evLrng, evCmp2, MP.get, MP.put, nameE, look, looks, pvs, pvOf, args, items, ents, optI, asB, asBl, notR, tru, truSem, noneR, eAnds, eOrs, tAnds, tOrs, asgT, asgTs, asgEs, argE, argEs, slotsOf, putOuts, isOwnE, toD, seqOf, lstOf, fBin, fNeg, fCmp, fIdx, fRev, fIsi, binSem, intBin, cmpSem, cmpI, idxSem, slcSem, revSem, bltSem, lenSem, absSem, intSem, isD, isN, keyOf, rng1, rng2, setSem, onInt2, onSeq, bv, outsOf, start', eq_ii, eq_bb, eq_ni, eq_in, eq_ss, eq_ll0, Option.map_some, Option.map_none, and_self, decide_true, decide_false, Bool.not_true, Bool.not_false, List.nodup_cons, List.not_mem_nil, not_false_eq_true, List.nodup_nil, isi_int_n, isi_int_i, isi_int_b, isi_int_t, isi_int_s, isi_int_l, isi_int_L, isi_bool_n, isi_bool_i, isi_bool_b, isi_bool_t, isi_bool_s, isi_bool_l, isi_bool_L, isi_str_n, isi_str_i, isi_str_b, isi_str_t, isi_str_s, isi_str_l, isi_str_L, isi_tuple_n, isi_tuple_i, isi_tuple_b, isi_tuple_t, isi_tuple_s, isi_tuple_l, isi_tuple_L, isi_list_n, isi_list_i, isi_list_b, isi_list_t, isi_list_s, isi_list_l, isi_list_L]
  refine wp_for (ds := rngL 0 1000) (ρ1 := [iv a, iv b, iv m, none, some (.dctT []), iv 0, iv (1 % m), iv 0]) ?_ (fun i ρ => ∃ (x : Option Ent) (met : List Pr) (u v : Int) (n : Int), ρ = [iv a, iv b, iv m, x, some (.dctT (metD met)), iv u, iv v, iv n] ∧ lrankM a b m (1000 - i) met (u, v) n = some r ∧ met.length = i ∧ 0 ≤ u ∧ u < m ∧ 0 ≤ v ∧ v < m) ?_ ?_ ?_
  · have hb : inB 1000 = true := inB_s (by decide)
    simp only [hb, wp_nil, wp_asg, wp_asgs, wp_setIx, wp_aug, wp_augIx, wp_ex, wp_ret, wp_retN, wp_brk, wp_ct, wp_pass, wp_ite, k1_some, cont_nx, cont_ret, cont_brk, cont_ct, kT_true, kT_false, kT_dec, den_v, den_int, den_bl, den_non, den_str, den_bin, den_neg, den_cmp, den_cmp2, den_band, den_bor, den_bnot, den_ife, den_tup, den_lst, den_dnewK, den_dnewT, den_dct, den_idx, den_slc, den_rev, den_blt, den_isi, den_call, den_app, den_ext, den_pop, den_popAt, den_lrng, den_comp_nm, denI_seq, denI_rng, dens_nil, dens_cons, sAsg, sAsgs, sSetIx, sAug, sAugIx, sEx, sRet, evRet, evC, evV, evMk, evOp, evCmp, evTest, evTup, evLst, evE1, evDct, evAnd, evOr, evNot, evIf, evSlc, evCall, evApp, evExt, evPop, evPopAt, evRng, evSeq, evLrng, evCmp2, MP.get, MP.put, nameE, look, looks, pvs, pvOf, args, items, ents, optI, asB, asBl, notR, tru, truSem, noneR, eAnds, eOrs, tAnds, tOrs, asgT, asgTs, asgEs, argE, argEs, slotsOf, putOuts, isOwnE, toD, seqOf, lstOf, fBin, fNeg, fCmp, fIdx, fRev, fIsi, binSem, intBin, cmpSem, cmpI, idxSem, slcSem, revSem, bltSem, lenSem, absSem, intSem, isD, isN, keyOf, rng1, rng2, setSem, onInt2, onSeq, bv, outsOf, start', eq_ii, eq_bb, eq_ni, eq_in, eq_ss, eq_ll0, Option.map_some, Option.map_none, and_self, decide_true, decide_false, Bool.not_true, Bool.not_false, List.nodup_cons, List.not_mem_nil, not_false_eq_true, List.nodup_nil, isi_int_n, isi_int_i, isi_int_b, isi_int_t, isi_int_s, isi_int_l, isi_int_L, isi_bool_n, isi_bool_i, isi_bool_b, isi_bool_t, isi_bool_s, isi_bool_l, isi_bool_L, isi_str_n, isi_str_i, isi_str_b, isi_str_t, isi_str_s, isi_str_l, isi_str_L, isi_tuple_n, isi_tuple_i, isi_tuple_b, isi_tuple_t, isi_tuple_s, isi_tuple_l, isi_tuple_L, isi_list_n, isi_list_i, isi_list_b, isi_list_t, isi_list_s, isi_list_l, isi_list_L]
    rfl
  · exact ⟨none, [], 0, 1 % m, 0, rfl, h, rfl, by omega, by omega, (bd _).1, (bd _).2⟩
  · rintro i ρ d hd ⟨x, met, u, v, n, rfl, hr, hl, p0, p1, p2, p3⟩
    obtain ⟨hi, rfl⟩ := rngL_get hd
    refine ⟨_, rfl, ?_⟩
    obtain ⟨f, hf⟩ : ∃ f, 1000 - i = f + 1 := ⟨999 - i, by omega⟩
    have hf2 : 1000 - (i + 1) = f := by omega
    have ml : (metD met).length < LIM := by rw [met_len]; unfold LIM; omega
    have o1 : mulOk a v = true := mul_s (by omega) (by omega)
    have o2 : mulOk b u = true := mul_s (by omega) (by omega)
    rw [hf] at hr
    simp only [lrankM] at hr
    by_cases h0 : 0 < n ∧ u = 0
    · rw [if_pos h0] at hr
      cases hr
      obtain ⟨h0, rfl⟩ := h0
      simp only [h0, if_true, iv, optD, wp_nil, wp_asg, wp_asgs, wp_setIx, wp_aug, wp_augIx, wp_ex, wp_ret, wp_retN, wp_brk, wp_ct, wp_pass, wp_ite, k1_some, cont_nx, cont_ret, cont_brk, cont_ct, kT_true, kT_false, kT_dec, den_v, den_int, den_bl, den_non, den_str, den_bin, den_neg, den_cmp, den_cmp2, den_band, den_bor, den_bnot, den_ife, den_tup, den_lst, den_dnewK, den_dnewT, den_dct, den_idx, den_slc, den_rev, den_blt, den_isi, den_call, den_app, den_ext, den_pop, den_popAt, den_lrng, den_comp_nm, denI_seq, denI_rng, dens_nil, dens_cons, sAsg, sAsgs, sSetIx, sAug, sAugIx, sEx, sRet, evRet, evC, evV, evMk, evOp, evCmp, evTest, evTup, evLst, evE1, evDct, evAnd, evOr, evNot, evIf, evSlc, evCall, evApp, evExt, evPop, evPopAt, evRng, evSeq, evLrng, evCmp2, MP.get, MP.put, nameE, look, looks, pvs, pvOf, args, items, ents, optI, asB, asBl, notR, tru, truSem, noneR, eAnds, eOrs, tAnds, tOrs, asgT, asgTs, asgEs, argE, argEs, slotsOf, putOuts, isOwnE, toD, seqOf, lstOf, fBin, fNeg, fCmp, fIdx, fRev, fIsi, binSem, intBin, cmpSem, cmpI, idxSem, slcSem, revSem, bltSem, lenSem, absSem, intSem, isD, isN, keyOf, rng1, rng2, setSem, onInt2, onSeq, bv, outsOf, start', eq_ii, eq_bb, eq_ni, eq_in, eq_ss, eq_ll0, Option.map_some, Option.map_none, and_self, decide_true, decide_false, Bool.not_true, Bool.not_false, List.nodup_cons, List.not_mem_nil, not_false_eq_true, List.nodup_nil, isi_int_n, isi_int_i, isi_int_b, isi_int_t, isi_int_s, isi_int_l, isi_int_L, isi_bool_n, isi_bool_i, isi_bool_b, isi_bool_t, isi_bool_s, isi_bool_l, isi_bool_L, isi_str_n, isi_str_i, isi_str_b, isi_str_t, isi_str_s, isi_str_l, isi_str_L, isi_tuple_n, isi_tuple_i, isi_tuple_b, isi_tuple_t, isi_tuple_s, isi_tuple_l, isi_tuple_L, isi_list_n, isi_list_i, isi_list_b, isi_list_t, isi_list_s, isi_list_l, isi_list_L]
    · rw [if_neg h0] at hr
      have h56 : (0 < n ∧ ¬ u = 0) ∨ ¬ 0 < n := by
        by_cases h5 : 0 < n
        · exact .inl ⟨h5, fun e => h0 ⟨h5, e⟩⟩
        · exact .inr h5
      rcases h56 with ⟨h5, h6⟩ | h5
      · skip
        by_cases h1 : (u, v) ∈ met
        · rw [if_pos h1] at hr
          cases hr
          simp only [h5, h6, inSem, keyT_kp, met_in, h1, List.length_cons, List.length_nil, Nat.reduceAdd, Nat.zero_le, l2, if_true, iv, optD, wp_nil, wp_asg, wp_asgs, wp_setIx, wp_aug, wp_augIx, wp_ex, wp_ret, wp_retN, wp_brk, wp_ct, wp_pass, wp_ite, k1_some, cont_nx, cont_ret, cont_brk, cont_ct, kT_true, kT_false, kT_dec, den_v, den_int, den_bl, den_non, den_str, den_bin, den_neg, den_cmp, den_cmp2, den_band, den_bor, den_bnot, den_ife, den_tup, den_lst, den_dnewK, den_dnewT, den_dct, den_idx, den_slc, den_rev, den_blt, den_isi, den_call, den_app, den_ext, den_pop, den_popAt, den_lrng, den_comp_nm, denI_seq, denI_rng, dens_nil, dens_cons, sAsg, sAsgs, sSetIx, sAug, sAugIx, sEx, sRet, evRet, evC, evV, evMk, evOp, evCmp, evTest, evTup, evLst, evE1, evDct, evAnd, evOr, evNot, evIf, evSlc, evCall, evApp, evExt, evPop, evPopAt, evRng, evSeq, evLrng, evCmp2, MP.get, MP.put, nameE, look, looks, pvs, pvOf, args, items, ents, optI, asB, asBl, notR, tru, truSem, noneR, eAnds, eOrs, tAnds, tOrs, asgT, asgTs, asgEs, argE, argEs, slotsOf, putOuts, isOwnE, toD, seqOf, lstOf, fBin, fNeg, fCmp, fIdx, fRev, fIsi, binSem, intBin, cmpSem, cmpI, idxSem, slcSem, revSem, bltSem, lenSem, absSem, intSem, isD, isN, keyOf, rng1, rng2, setSem, onInt2, onSeq, bv, outsOf, start', eq_ii, eq_bb, eq_ni, eq_in, eq_ss, eq_ll0, Option.map_some, Option.map_none, and_self, decide_true, decide_false, Bool.not_true, Bool.not_false, List.nodup_cons, List.not_mem_nil, not_false_eq_true, List.nodup_nil, isi_int_n, isi_int_i, isi_int_b, isi_int_t, isi_int_s, isi_int_l, isi_int_L, isi_bool_n, isi_bool_i, isi_bool_b, isi_bool_t, isi_bool_s, isi_bool_l, isi_bool_L, isi_str_n, isi_str_i, isi_str_b, isi_str_t, isi_str_s, isi_str_l, isi_str_L, isi_tuple_n, isi_tuple_i, isi_tuple_b, isi_tuple_t, isi_tuple_s, isi_tuple_l, isi_tuple_L, isi_list_n, isi_list_i, isi_list_b, isi_list_t, isi_list_s, isi_list_l, isi_list_L]
        · rw [if_neg h1] at hr
          simp only [h5, h6, inSem, keyT_kp, met_in, h1, met_put h1, ml, o1, o2, m0, List.length_cons, List.length_nil, Nat.reduceAdd, Nat.zero_le, l2, if_true, if_false, iv, wp_nil, wp_asg, wp_asgs, wp_setIx, wp_aug, wp_augIx, wp_ex, wp_ret, wp_retN, wp_brk, wp_ct, wp_pass, wp_ite, k1_some, cont_nx, cont_ret, cont_brk, cont_ct, kT_true, kT_false, kT_dec, den_v, den_int, den_bl, den_non, den_str, den_bin, den_neg, den_cmp, den_cmp2, den_band, den_bor, den_bnot, den_ife, den_tup, den_lst, den_dnewK, den_dnewT, den_dct, den_idx, den_slc, den_rev, den_blt, den_isi, den_call, den_app, den_ext, den_pop, den_popAt, den_lrng, den_comp_nm, denI_seq, denI_rng, dens_nil, dens_cons, sAsg, sAsgs, sSetIx, sAug, sAugIx, sEx, sRet, evRet, evC, evV, evMk, evOp, evCmp, evTest, evTup, evLst, evE1, evDct, evAnd, evOr, evNot, evIf, evSlc, evCall, evApp, evExt, evPop, evPopAt, evRng, evSeq, evLrng, evCmp2, MP.get, MP.put, nameE, look, looks, pvs, pvOf, args, items, ents, optI, asB, asBl, notR, tru, truSem, noneR, eAnds, eOrs, tAnds, tOrs, asgT, asgTs, asgEs, argE, argEs, slotsOf, putOuts, isOwnE, toD, seqOf, lstOf, fBin, fNeg, fCmp, fIdx, fRev, fIsi, binSem, intBin, cmpSem, cmpI, idxSem, slcSem, revSem, bltSem, lenSem, absSem, intSem, isD, isN, keyOf, rng1, rng2, setSem, onInt2, onSeq, bv, outsOf, start', eq_ii, eq_bb, eq_ni, eq_in, eq_ss, eq_ll0, Option.map_some, Option.map_none, and_self, decide_true, decide_false, Bool.not_true, Bool.not_false, List.nodup_cons, List.not_mem_nil, not_false_eq_true, List.nodup_nil, isi_int_n, isi_int_i, isi_int_b, isi_int_t, isi_int_s, isi_int_l, isi_int_L, isi_bool_n, isi_bool_i, isi_bool_b, isi_bool_t, isi_bool_s, isi_bool_l, isi_bool_L, isi_str_n, isi_str_i, isi_str_b, isi_str_t, isi_str_s, isi_str_l, isi_str_L, isi_tuple_n, isi_tuple_i, isi_tuple_b, isi_tuple_t, isi_tuple_s, isi_tuple_l, isi_tuple_L, isi_list_n, isi_list_i, isi_list_b, isi_list_t, isi_list_s, isi_list_l, isi_list_L]
          exact ⟨_, met ++ [(u, v)], _, _, n + 1, rfl, hf2 ▸ hr, by rw [List.length_append, List.length_singleton, hl], p2, p3, (bd _).1, (bd _).2⟩
      · skip
        by_cases h1 : (u, v) ∈ met
        · rw [if_pos h1] at hr
          cases hr
          simp only [h5, inSem, keyT_kp, met_in, h1, List.length_cons, List.length_nil, Nat.reduceAdd, Nat.zero_le, l2, if_true, iv, optD, wp_nil, wp_asg, wp_asgs, wp_setIx, wp_aug, wp_augIx, wp_ex, wp_ret, wp_retN, wp_brk, wp_ct, wp_pass, wp_ite, k1_some, cont_nx, cont_ret, cont_brk, cont_ct, kT_true, kT_false, kT_dec, den_v, den_int, den_bl, den_non, den_str, den_bin, den_neg, den_cmp, den_cmp2, den_band, den_bor, den_bnot, den_ife, den_tup, den_lst, den_dnewK, den_dnewT, den_dct, den_idx, den_slc, den_rev, den_blt, den_isi, den_call, den_app, den_ext, den_pop, den_popAt, den_lrng, den_comp_nm, denI_seq, denI_rng, dens_nil, dens_cons, sAsg, sAsgs, sSetIx, sAug, sAugIx, sEx, sRet, evRet, evC, evV, evMk, evOp, evCmp, evTest, evTup, evLst, evE1, evDct, evAnd, evOr, evNot, evIf, evSlc, evCall, evApp, evExt, evPop, evPopAt, evRng, evSeq, evLrng, evCmp2, MP.get, MP.put, nameE, look, looks, pvs, pvOf, args, items, ents, optI, asB, asBl, notR, tru, truSem, noneR, eAnds, eOrs, tAnds, tOrs, asgT, asgTs, asgEs, argE, argEs, slotsOf, putOuts, isOwnE, toD, seqOf, lstOf, fBin, fNeg, fCmp, fIdx, fRev, fIsi, binSem, intBin, cmpSem, cmpI, idxSem, slcSem, revSem, bltSem, lenSem, absSem, intSem, isD, isN, keyOf, rng1, rng2, setSem, onInt2, onSeq, bv, outsOf, start', eq_ii, eq_bb, eq_ni, eq_in, eq_ss, eq_ll0, Option.map_some, Option.map_none, and_self, decide_true, decide_false, Bool.not_true, Bool.not_false, List.nodup_cons, List.not_mem_nil, not_false_eq_true, List.nodup_nil, isi_int_n, isi_int_i, isi_int_b, isi_int_t, isi_int_s, isi_int_l, isi_int_L, isi_bool_n, isi_bool_i, isi_bool_b, isi_bool_t, isi_bool_s, isi_bool_l, isi_bool_L, isi_str_n, isi_str_i, isi_str_b, isi_str_t, isi_str_s, isi_str_l, isi_str_L, isi_tuple_n, isi_tuple_i, isi_tuple_b, isi_tuple_t, isi_tuple_s, isi_tuple_l, isi_tuple_L, isi_list_n, isi_list_i, isi_list_b, isi_list_t, isi_list_s, isi_list_l, isi_list_L]
        · rw [if_neg h1] at hr
          simp only [h5, inSem, keyT_kp, met_in, h1, met_put h1, ml, o1, o2, m0, List.length_cons, List.length_nil, Nat.reduceAdd, Nat.zero_le, l2, if_true, if_false, iv, wp_nil, wp_asg, wp_asgs, wp_setIx, wp_aug, wp_augIx, wp_ex, wp_ret, wp_retN, wp_brk, wp_ct, wp_pass, wp_ite, k1_some, cont_nx, cont_ret, cont_brk, cont_ct, kT_true, kT_false, kT_dec, den_v, den_int, den_bl, den_non, den_str, den_bin, den_neg, den_cmp, den_cmp2, den_band, den_bor, den_bnot, den_ife, den_tup, den_lst, den_dnewK, den_dnewT, den_dct, den_idx, den_slc, den_rev, den_blt, den_isi, den_call, den_app, den_ext, den_pop, den_popAt, den_lrng, den_comp_nm, denI_seq, denI_rng, dens_nil, dens_cons, sAsg, sAsgs, sSetIx, sAug, sAugIx, sEx, sRet, evRet, evC, evV, evMk, evOp, evCmp, evTest, evTup, evLst, evE1, evDct, evAnd, evOr, evNot, evIf, evSlc, evCall, evApp, evExt, evPop, evPopAt, evRng, evSeq, evLrng, evCmp2, MP.get, MP.put, nameE, look, looks, pvs, pvOf, args, items, ents, optI, asB, asBl, notR, tru, truSem, noneR, eAnds, eOrs, tAnds, tOrs, asgT, asgTs, asgEs, argE, argEs, slotsOf, putOuts, isOwnE, toD, seqOf, lstOf, fBin, fNeg, fCmp, fIdx, fRev, fIsi, binSem, intBin, cmpSem, cmpI, idxSem, slcSem, revSem, bltSem, lenSem, absSem, intSem, isD, isN, keyOf, rng1, rng2, setSem, onInt2, onSeq, bv, outsOf, start', eq_ii, eq_bb, eq_ni, eq_in, eq_ss, eq_ll0, Option.map_some, Option.map_none, and_self, decide_true, decide_false, Bool.not_true, Bool.not_false, List.nodup_cons, List.not_mem_nil, not_false_eq_true, List.nodup_nil, isi_int_n, isi_int_i, isi_int_b, isi_int_t, isi_int_s, isi_int_l, isi_int_L, isi_bool_n, isi_bool_i, isi_bool_b, isi_bool_t, isi_bool_s, isi_bool_l, isi_bool_L, isi_str_n, isi_str_i, isi_str_b, isi_str_t, isi_str_s, isi_str_l, isi_str_L, isi_tuple_n, isi_tuple_i, isi_tuple_b, isi_tuple_t, isi_tuple_s, isi_tuple_l, isi_tuple_L, isi_list_n, isi_list_i, isi_list_b, isi_list_t, isi_list_s, isi_list_l, isi_list_L]
          exact ⟨_, met ++ [(u, v)], _, _, n + 1, rfl, hf2 ▸ hr, by rw [List.length_append, List.length_singleton, hl], p2, p3, (bd _).1, (bd _).2⟩
  · rintro ρ ⟨x, met, u, v, n, rfl, hr, _⟩
    rw [rngL_len] at hr
    cases hr
theorem isnum_run {k : Int} : runD F a__law_is_number [.val (.int k)] = some (.val (.bool true), []) := by
  apply runD_of
  simp only [a__law_is_number, List.cons_append, List.nil_append, List.map_cons, List.map_nil, List.length_cons, List.length_nil, List.replicate, Nat.reduceAdd, Nat.reduceSub, Nat.zero_le, if_true, wp_nil, wp_asg, wp_asgs, wp_setIx, wp_aug, wp_augIx, wp_ex, wp_ret, wp_retN, wp_brk, wp_ct, wp_pass, wp_ite, k1_some, cont_nx, cont_ret, cont_brk, cont_ct, kT_true, kT_false, kT_dec, den_v, den_int, den_bl, den_non, den_str, den_bin, den_neg, den_cmp, den_cmp2, den_band, den_bor, den_bnot, den_ife, den_tup, den_lst, den_dnewK, den_dnewT, den_dct, den_idx, den_slc, den_rev, den_blt, den_isi, den_call, den_app, den_ext, den_pop, den_popAt, den_lrng, den_comp_nm, denI_seq, denI_rng, dens_nil, dens_cons, sAsg, sAsgs, sSetIx, sAug, sAugIx, sEx, sRet, evRet, evC, evV, evMk, evOp, evCmp, evTest, evTup, evLst, evE1, evDct, evAnd, evOr, evNot, evIf, evSlc, evCall, evApp, evExt, evPop, evPopAt, evRng, evSeq, evLrng, evCmp2, MP.get, MP.put, nameE, look, looks, pvs, pvOf, args, items, ents, optI, asB, asBl, notR, tru, truSem, noneR, eAnds, eOrs, tAnds, tOrs, asgT, asgTs, asgEs, argE, argEs, slotsOf, putOuts, isOwnE, toD, seqOf, lstOf, fBin, fNeg, fCmp, fIdx, fRev, fIsi, binSem, intBin, cmpSem, cmpI, idxSem, slcSem, revSem, bltSem, lenSem, absSem, intSem, isD, isN, keyOf, rng1, rng2, setSem, onInt2, onSeq, bv, outsOf, start', eq_ii, eq_bb, eq_ni, eq_in, eq_ss, eq_ll0, Option.map_some, Option.map_none, and_self, decide_true, decide_false, Bool.not_true, Bool.not_false, List.nodup_cons, List.not_mem_nil, not_false_eq_true, List.nodup_nil, isi_int_n, isi_int_i, isi_int_b, isi_int_t, isi_int_s, isi_int_l, isi_int_L, isi_bool_n, isi_bool_i, isi_bool_b, isi_bool_t, isi_bool_s, isi_bool_l, isi_bool_L, isi_str_n, isi_str_i, isi_str_b, isi_str_t, isi_str_s, isi_str_l, isi_str_L, isi_tuple_n, isi_tuple_i, isi_tuple_b, isi_tuple_t, isi_tuple_s, isi_tuple_l, isi_tuple_L, isi_list_n, isi_list_i, isi_list_b, isi_list_t, isi_list_s, isi_list_l, isi_list_L]
def cm : Nat → Int → Int → Int
  | 0, a, _ => a
  | f + 1, a, b => if b = 0 then a else cm f b (a % b)
theorem common_run {a b : Int} : runD F a__law_common [.val (.int a), .val (.int b)] = some (.val (.int (cm 999 (if a < 0 then -a else a) (if b < 0 then -b else b))), []) := by
  apply runD_of
  simp only [a__law_common, List.cons_append, List.nil_append, List.map_cons, List.map_nil, List.length_cons, List.length_nil, List.replicate, Nat.reduceAdd, Nat.reduceSub, Nat.zero_le, if_true, wp_nil, wp_asg, wp_asgs, wp_setIx, wp_aug, wp_augIx, wp_ex, wp_ret, wp_retN, wp_brk, wp_ct, wp_pass, wp_ite, k1_some, cont_nx, cont_ret, cont_brk, cont_ct, kT_true, kT_false, kT_dec, den_v, den_int, den_bl, den_non, den_str, den_bin, den_neg, den_cmp, den_cmp2, den_band, den_bor, den_bnot, den_ife, den_tup, den_lst, den_dnewK, den_dnewT, den_dct, den_idx, den_slc, den_rev, den_blt, den_isi, den_call, den_app, den_ext, den_pop, den_popAt, den_lrng, den_comp_nm, denI_seq, denI_rng, dens_nil, dens_cons, sAsg, sAsgs, sSetIx, sAug, sAugIx, sEx, sRet, evRet, evC, evV, evMk, evOp, evCmp, evTest, evTup, evLst, evE1, evDct, evAnd, evOr, evNot, evIf, evSlc, evCall, evApp, evExt, evPop, evPopAt, evRng, evSeq, evLrng, evCmp2, MP.get, MP.put, nameE, look, looks, pvs, pvOf, args, items, ents, optI, asB, asBl, notR, tru, truSem, noneR, eAnds, eOrs, tAnds, tOrs, asgT, asgTs, asgEs, argE, argEs, slotsOf, putOuts, isOwnE, toD, seqOf, lstOf, fBin, fNeg, fCmp, fIdx, fRev, fIsi, binSem, intBin, cmpSem, cmpI, idxSem, slcSem, revSem, bltSem, lenSem, absSem, intSem, isD, isN, keyOf, rng1, rng2, setSem, onInt2, onSeq, bv, outsOf, start', eq_ii, eq_bb, eq_ni, eq_in, eq_ss, eq_ll0, Option.map_some, Option.map_none, and_self, decide_true, decide_false, Bool.not_true, Bool.not_false, List.nodup_cons, List.not_mem_nil, not_false_eq_true, List.nodup_nil, isi_int_n, isi_int_i, isi_int_b, isi_int_t, isi_int_s, isi_int_l, isi_int_L, isi_bool_n, isi_bool_i, isi_bool_b, isi_bool_t, isi_bool_s, isi_bool_l, isi_bool_L, isi_str_n, isi_str_i, isi_str_b, isi_str_t, isi_str_s, isi_str_l, isi_str_L, isi_tuple_n, isi_tuple_i, isi_tuple_b, isi_tuple_t, isi_tuple_s, isi_tuple_l, isi_tuple_L, isi_list_n, isi_list_i, isi_list_b, isi_list_t, isi_list_s, isi_list_l, isi_list_L]
  generalize hA : (if a < 0 then -a else a) = A
  generalize hB : (if b < 0 then -b else b) = B
  have B0 : 0 ≤ B := by subst hB; split <;> omega
  generalize hG : cm 999 A B = G
  refine wp_for (ds := rngL 0 999) (ρ1 := [iv A, iv B, none]) ?_ (fun i ρ => ∃ (x : Option Ent) (u v : Int), ρ = [iv u, iv v, x] ∧ cm (999 - i) u v = G ∧ 0 ≤ v) ?_ ?_ ?_
  · have hb : inB 999 = true := inB_s (by decide)
    simp only [hb, wp_nil, wp_asg, wp_asgs, wp_setIx, wp_aug, wp_augIx, wp_ex, wp_ret, wp_retN, wp_brk, wp_ct, wp_pass, wp_ite, k1_some, cont_nx, cont_ret, cont_brk, cont_ct, kT_true, kT_false, kT_dec, den_v, den_int, den_bl, den_non, den_str, den_bin, den_neg, den_cmp, den_cmp2, den_band, den_bor, den_bnot, den_ife, den_tup, den_lst, den_dnewK, den_dnewT, den_dct, den_idx, den_slc, den_rev, den_blt, den_isi, den_call, den_app, den_ext, den_pop, den_popAt, den_lrng, den_comp_nm, denI_seq, denI_rng, dens_nil, dens_cons, sAsg, sAsgs, sSetIx, sAug, sAugIx, sEx, sRet, evRet, evC, evV, evMk, evOp, evCmp, evTest, evTup, evLst, evE1, evDct, evAnd, evOr, evNot, evIf, evSlc, evCall, evApp, evExt, evPop, evPopAt, evRng, evSeq, evLrng, evCmp2, MP.get, MP.put, nameE, look, looks, pvs, pvOf, args, items, ents, optI, asB, asBl, notR, tru, truSem, noneR, eAnds, eOrs, tAnds, tOrs, asgT, asgTs, asgEs, argE, argEs, slotsOf, putOuts, isOwnE, toD, seqOf, lstOf, fBin, fNeg, fCmp, fIdx, fRev, fIsi, binSem, intBin, cmpSem, cmpI, idxSem, slcSem, revSem, bltSem, lenSem, absSem, intSem, isD, isN, keyOf, rng1, rng2, setSem, onInt2, onSeq, bv, outsOf, start', eq_ii, eq_bb, eq_ni, eq_in, eq_ss, eq_ll0, Option.map_some, Option.map_none, and_self, decide_true, decide_false, Bool.not_true, Bool.not_false, List.nodup_cons, List.not_mem_nil, not_false_eq_true, List.nodup_nil, isi_int_n, isi_int_i, isi_int_b, isi_int_t, isi_int_s, isi_int_l, isi_int_L, isi_bool_n, isi_bool_i, isi_bool_b, isi_bool_t, isi_bool_s, isi_bool_l, isi_bool_L, isi_str_n, isi_str_i, isi_str_b, isi_str_t, isi_str_s, isi_str_l, isi_str_L, isi_tuple_n, isi_tuple_i, isi_tuple_b, isi_tuple_t, isi_tuple_s, isi_tuple_l, isi_tuple_L, isi_list_n, isi_list_i, isi_list_b, isi_list_t, isi_list_s, isi_list_l, isi_list_L]
    rfl
  · exact ⟨none, A, B, rfl, hG, B0⟩
  · rintro i ρ d hd ⟨x, u, v, rfl, hr, hv⟩
    obtain ⟨hi, rfl⟩ := rngL_get hd
    refine ⟨_, rfl, ?_⟩
    obtain ⟨f, hf⟩ : ∃ f, 999 - i = f + 1 := ⟨998 - i, by omega⟩
    have hf2 : 999 - (i + 1) = f := by omega
    rw [hf] at hr
    simp only [cm] at hr
    by_cases h : v = 0
    · rw [if_pos h] at hr
      subst h
      simp only [if_true, iv, hr, wp_nil, wp_asg, wp_asgs, wp_setIx, wp_aug, wp_augIx, wp_ex, wp_ret, wp_retN, wp_brk, wp_ct, wp_pass, wp_ite, k1_some, cont_nx, cont_ret, cont_brk, cont_ct, kT_true, kT_false, kT_dec, den_v, den_int, den_bl, den_non, den_str, den_bin, den_neg, den_cmp, den_cmp2, den_band, den_bor, den_bnot, den_ife, den_tup, den_lst, den_dnewK, den_dnewT, den_dct, den_idx, den_slc, den_rev, den_blt, den_isi, den_call, den_app, den_ext, den_pop, den_popAt, den_lrng, den_comp_nm, denI_seq, denI_rng, dens_nil, dens_cons, sAsg, sAsgs, sSetIx, sAug, sAugIx, sEx, sRet, evRet, evC, evV, evMk, evOp, evCmp, evTest, evTup, evLst, evE1, evDct, evAnd, evOr, evNot, evIf, evSlc, evCall, evApp, evExt, evPop, evPopAt, evRng, evSeq, evLrng, evCmp2, MP.get, MP.put, nameE, look, looks, pvs, pvOf, args, items, ents, optI, asB, asBl, notR, tru, truSem, noneR, eAnds, eOrs, tAnds, tOrs, asgT, asgTs, asgEs, argE, argEs, slotsOf, putOuts, isOwnE, toD, seqOf, lstOf, fBin, fNeg, fCmp, fIdx, fRev, fIsi, binSem, intBin, cmpSem, cmpI, idxSem, slcSem, revSem, bltSem, lenSem, absSem, intSem, isD, isN, keyOf, rng1, rng2, setSem, onInt2, onSeq, bv, outsOf, start', eq_ii, eq_bb, eq_ni, eq_in, eq_ss, eq_ll0, Option.map_some, Option.map_none, and_self, decide_true, decide_false, Bool.not_true, Bool.not_false, List.nodup_cons, List.not_mem_nil, not_false_eq_true, List.nodup_nil, isi_int_n, isi_int_i, isi_int_b, isi_int_t, isi_int_s, isi_int_l, isi_int_L, isi_bool_n, isi_bool_i, isi_bool_b, isi_bool_t, isi_bool_s, isi_bool_l, isi_bool_L, isi_str_n, isi_str_i, isi_str_b, isi_str_t, isi_str_s, isi_str_l, isi_str_L, isi_tuple_n, isi_tuple_i, isi_tuple_b, isi_tuple_t, isi_tuple_s, isi_tuple_l, isi_tuple_L, isi_list_n, isi_list_i, isi_list_b, isi_list_t, isi_list_s, isi_list_l, isi_list_L]
    · rw [if_neg h] at hr
      have hv' : 0 < v := by omega
      simp only [h, hv', if_true, if_false, iv, wp_nil, wp_asg, wp_asgs, wp_setIx, wp_aug, wp_augIx, wp_ex, wp_ret, wp_retN, wp_brk, wp_ct, wp_pass, wp_ite, k1_some, cont_nx, cont_ret, cont_brk, cont_ct, kT_true, kT_false, kT_dec, den_v, den_int, den_bl, den_non, den_str, den_bin, den_neg, den_cmp, den_cmp2, den_band, den_bor, den_bnot, den_ife, den_tup, den_lst, den_dnewK, den_dnewT, den_dct, den_idx, den_slc, den_rev, den_blt, den_isi, den_call, den_app, den_ext, den_pop, den_popAt, den_lrng, den_comp_nm, denI_seq, denI_rng, dens_nil, dens_cons, sAsg, sAsgs, sSetIx, sAug, sAugIx, sEx, sRet, evRet, evC, evV, evMk, evOp, evCmp, evTest, evTup, evLst, evE1, evDct, evAnd, evOr, evNot, evIf, evSlc, evCall, evApp, evExt, evPop, evPopAt, evRng, evSeq, evLrng, evCmp2, MP.get, MP.put, nameE, look, looks, pvs, pvOf, args, items, ents, optI, asB, asBl, notR, tru, truSem, noneR, eAnds, eOrs, tAnds, tOrs, asgT, asgTs, asgEs, argE, argEs, slotsOf, putOuts, isOwnE, toD, seqOf, lstOf, fBin, fNeg, fCmp, fIdx, fRev, fIsi, binSem, intBin, cmpSem, cmpI, idxSem, slcSem, revSem, bltSem, lenSem, absSem, intSem, isD, isN, keyOf, rng1, rng2, setSem, onInt2, onSeq, bv, outsOf, start', eq_ii, eq_bb, eq_ni, eq_in, eq_ss, eq_ll0, Option.map_some, Option.map_none, and_self, decide_true, decide_false, Bool.not_true, Bool.not_false, List.nodup_cons, List.not_mem_nil, not_false_eq_true, List.nodup_nil, isi_int_n, isi_int_i, isi_int_b, isi_int_t, isi_int_s, isi_int_l, isi_int_L, isi_bool_n, isi_bool_i, isi_bool_b, isi_bool_t, isi_bool_s, isi_bool_l, isi_bool_L, isi_str_n, isi_str_i, isi_str_b, isi_str_t, isi_str_s, isi_str_l, isi_str_L, isi_tuple_n, isi_tuple_i, isi_tuple_b, isi_tuple_t, isi_tuple_s, isi_tuple_l, isi_tuple_L, isi_list_n, isi_list_i, isi_list_b, isi_list_t, isi_list_s, isi_list_l, isi_list_L]
      exact ⟨_, _, _, rfl, hf2 ▸ hr, Int.emod_nonneg _ h⟩
  · rintro ρ ⟨x, u, v, rfl, hr, hv⟩
    rw [rngL_len] at hr
    simp only [cm, Nat.sub_self] at hr
    simp only [hr, iv, wp_nil, wp_asg, wp_asgs, wp_setIx, wp_aug, wp_augIx, wp_ex, wp_ret, wp_retN, wp_brk, wp_ct, wp_pass, wp_ite, k1_some, cont_nx, cont_ret, cont_brk, cont_ct, kT_true, kT_false, kT_dec, den_v, den_int, den_bl, den_non, den_str, den_bin, den_neg, den_cmp, den_cmp2, den_band, den_bor, den_bnot, den_ife, den_tup, den_lst, den_dnewK, den_dnewT, den_dct, den_idx, den_slc, den_rev, den_blt, den_isi, den_call, den_app, den_ext, den_pop, den_popAt, den_lrng, den_comp_nm, denI_seq, denI_rng, dens_nil, dens_cons, sAsg, sAsgs, sSetIx, sAug, sAugIx, sEx, sRet, evRet, evC, evV, evMk, evOp, evCmp, evTest, evTup, evLst, evE1, evDct, evAnd, evOr, evNot, evIf, evSlc, evCall, evApp, evExt, evPop, evPopAt, evRng, evSeq, evLrng, evCmp2, MP.get, MP.put, nameE, look, looks, pvs, pvOf, args, items, ents, optI, asB, asBl, notR, tru, truSem, noneR, eAnds, eOrs, tAnds, tOrs, asgT, asgTs, asgEs, argE, argEs, slotsOf, putOuts, isOwnE, toD, seqOf, lstOf, fBin, fNeg, fCmp, fIdx, fRev, fIsi, binSem, intBin, cmpSem, cmpI, idxSem, slcSem, revSem, bltSem, lenSem, absSem, intSem, isD, isN, keyOf, rng1, rng2, setSem, onInt2, onSeq, bv, outsOf, start', eq_ii, eq_bb, eq_ni, eq_in, eq_ss, eq_ll0, Option.map_some, Option.map_none, and_self, decide_true, decide_false, Bool.not_true, Bool.not_false, List.nodup_cons, List.not_mem_nil, not_false_eq_true, List.nodup_nil, isi_int_n, isi_int_i, isi_int_b, isi_int_t, isi_int_s, isi_int_l, isi_int_L, isi_bool_n, isi_bool_i, isi_bool_b, isi_bool_t, isi_bool_s, isi_bool_l, isi_bool_L, isi_str_n, isi_str_i, isi_str_b, isi_str_t, isi_str_s, isi_str_l, isi_str_L, isi_tuple_n, isi_tuple_i, isi_tuple_b, isi_tuple_t, isi_tuple_s, isi_tuple_l, isi_tuple_L, isi_list_n, isi_list_i, isi_list_b, isi_list_t, isi_list_s, isi_list_l, isi_list_L]
end W89
set_option Elab.async false
set_option linter.all false
set_option maxRecDepth 100000
/-! W89b: steps_of_two, the law's mathematics -/
namespace W89
open PySem PySem.Spec PyProof.Rows L2 MP
/-! ### the states -/
def S (a b m : Int) : Nat → Pr
  | 0 => (0, 1 % m)
  | n + 1 => nxt a b m (S a b m n)
theorem S_uu {a b m : Int} (n : Nat) : S a b m n = ((uu a b n).1 % m, (uu a b n).2 % m) := by
  induction n with
  | zero => simp [S, uu]
  | succ n ih =>
    simp only [S, ih, nxt, uu]
    congr 1
    simp [Int.add_emod, Int.mul_emod]
theorem S_one {a b m : Int} : S a b m 1 = (1 % m, a % m) := by
  rw [S_uu]
  simp [uu]
theorem S_bd {a b m : Int} (hm : 0 < m) (n : Nat) : 0 ≤ (S a b m n).1 ∧ (S a b m n).1 < m ∧ 0 ≤ (S a b m n).2 ∧ (S a b m n).2 < m := by
  rw [S_uu]
  exact ⟨Int.emod_nonneg _ (by omega), Int.emod_lt_of_pos _ hm, Int.emod_nonneg _ (by omega), Int.emod_lt_of_pos _ hm⟩
theorem nd_len : ∀ (l r : List Nat), l.Nodup → (∀ x ∈ l, x ∈ r) → l.length ≤ r.length
  | [], r, _, _ => Nat.zero_le _
  | x :: t, r, hn, hs => by
    rw [List.nodup_cons] at hn
    have h1 := hs x List.mem_cons_self
    have h2 := nd_len t (r.erase x) hn.2 fun y hy => (List.mem_erase_of_ne (fun e => by subst e; exact hn.1 hy)).mpr (hs y (List.mem_cons_of_mem _ hy))
    rw [List.length_erase_of_mem h1] at h2
    have h3 := List.length_pos_of_mem h1
    simp only [List.length_cons]
    omega
def key (p : Pr) : Nat := p.1.toNat * 30 + p.2.toNat
def metS (a b m : Int) (j : Nat) : List Pr := (List.range j).map fun i => S a b m (i + 1)
theorem metS_succ {a b m : Int} {j : Nat} : metS a b m (j + 1) = metS a b m j ++ [S a b m (j + 1)] := by
  unfold metS
  rw [List.range_succ, List.map_append]
  rfl
def First (a b m : Int) : Option Int → Prop
  | none => True
  | some d => ∃ n : Nat, d = n ∧ 0 < n ∧ (S a b m n).1 = 0 ∧ ∀ k, 0 < k → k < n → (S a b m k).1 ≠ 0
theorem ranks {a b m : Int} (hm : 0 < m ∧ m ≤ 30) : ∀ (f j : Nat), f + j = 999 → ((metS a b m j).map key).Nodup → (∀ p ∈ metS a b m j, p.1 ≠ 0) →
    ∃ r, rankM a b m (f + 1) (metS a b m j) (S a b m (j + 1)) ((j : Int) + 1) = some r ∧ lrankM a b m f (S a b m 0 :: metS a b m j) (S a b m (j + 1)) ((j : Int) + 1) = some r ∧ First a b m r
  | 0, j, hf, hn, hz => by
    exfalso
    have h := nd_len _ (List.range 900) hn fun x hx => by
      rw [List.mem_map] at hx
      obtain ⟨p, hp, rfl⟩ := hx
      unfold metS at hp
      rw [List.mem_map] at hp
      obtain ⟨i, _, rfl⟩ := hp
      have := S_bd (a := a) (b := b) hm.1 (i + 1)
      rw [List.mem_range]
      unfold key
      omega
    simp [metS] at h
    omega
  | f + 1, j, hf, hn, hz => by
    have bd := S_bd (a := a) (b := b) hm.1
    have mem : ∀ k, 0 < k → k < j + 1 → S a b m k ∈ metS a b m j := fun k h1 h2 => by
      unfold metS
      rw [List.mem_map]
      exact ⟨k - 1, List.mem_range.mpr (by omega), by rw [Nat.sub_add_cancel h1]⟩
    by_cases h1 : S a b m (j + 1) ∈ metS a b m j
    · refine ⟨none, ?_, ?_, trivial⟩
      · rw [rankM, if_pos h1]
      · rw [lrankM, if_neg fun h => hz _ h1 h.2, if_pos (List.mem_cons_of_mem _ h1)]
    · by_cases h2 : (S a b m (j + 1)).1 = 0
      · refine ⟨some ((j : Int) + 1), ?_, ?_, j + 1, by simp, by omega, h2, fun k k0 k1 => hz _ (mem k k0 k1)⟩
        · rw [rankM, if_neg h1, if_pos h2]
        · rw [lrankM, if_pos ⟨by omega, h2⟩]
      · have h3 : S a b m (j + 1) ∉ S a b m 0 :: metS a b m j := by
          rw [List.mem_cons]
          rintro (e | e)
          · rw [e] at h2; exact h2 rfl
          · exact h1 e
        obtain ⟨r, e1, e2, e3⟩ := ranks hm f (j + 1) (by omega) (by
          rw [metS_succ, List.map_append, List.nodup_append]
          refine ⟨hn, by simp, fun x hx y hy e => ?_⟩
          rw [List.map_singleton, List.mem_singleton] at hy
          subst hy
          rw [e, List.mem_map] at hx
          obtain ⟨p, hp, hk⟩ := hx
          have hp2 := hp
          unfold metS at hp2
          rw [List.mem_map] at hp2
          obtain ⟨i, _, rfl⟩ := hp2
          have b1 := bd (i + 1)
          have b2 := bd (j + 1)
          unfold key at hk
          have e4 : (S a b m (i + 1)).1 = (S a b m (j + 1)).1 := by omega
          have e5 : (S a b m (i + 1)).2 = (S a b m (j + 1)).2 := by omega
          exact h1 ((Prod.ext e4 e5 : S a b m (i + 1) = S a b m (j + 1)) ▸ hp)) (fun p hp => by
          rw [metS_succ, List.mem_append, List.mem_singleton] at hp
          rcases hp with hp | hp
          · exact hz p hp
          · rw [hp]; exact h2)
        refine ⟨r, ?_, ?_, e3⟩
        · rw [rankM, if_neg h1, if_neg h2, ← metS_succ]
          have : ((j : Int) + 1 + 1) = ((j + 1 : Nat) : Int) + 1 := by simp
          rw [this]
          exact e1
        · rw [lrankM, if_neg fun h => h2 h.2, if_neg h3, List.cons_append, ← metS_succ]
          have : ((j : Int) + 1 + 1) = ((j + 1 : Nat) : Int) + 1 := by simp
          rw [this]
          exact e2
theorem ranks0 {a b m : Int} (hm : 0 < m ∧ m ≤ 30) : ∃ r, rankM a b m 1000 [] (1 % m, a % m) 1 = some r ∧ lrankM a b m 1000 [] (0, 1 % m) 0 = some r ∧ First a b m r := by
  obtain ⟨r, h1, h2, h3⟩ := ranks (a := a) (b := b) hm 999 0 rfl (by simp [metS]) (by simp [metS])
  rw [S_one] at h1
  refine ⟨r, h1, ?_, h3⟩
  rw [lrankM, if_neg (by simp), if_neg (by simp)]
  exact h2
/-! ### the finite check -/
def ph2 (a b m z : Nat) : Nat → Nat → Nat → Nat → Bool
  | 0, _, _, _ => true
  | f + 1, j, u, v => (Nat.beq u 0 == Nat.beq j 0) && (match (a * v + b * u) % m with
    | 0 => ph2 a b m z f (bif Nat.beq (j + 1) z then 0 else j + 1) v 0
    | w + 1 => ph2 a b m z f (bif Nat.beq (j + 1) z then 0 else j + 1) v (w + 1))
def ph1 (a b m : Nat) : Nat → Nat → Nat → Nat → Bool
  | 0, _, _, _ => true
  | f + 1, k, u, v => bif Nat.beq u 0 then ph2 a b m k (f + 1) 0 u v else (match (a * v + b * u) % m with
    | 0 => ph1 a b m f (k + 1) v 0
    | w + 1 => ph1 a b m f (k + 1) v (w + 1))
def chkN (a b m : Nat) : Bool := bif Nat.beq (Nat.gcd b m) 1 then ph1 a b m 59 1 (1 % m) (a % m) else true
def chkA : Bool := (List.range 10).all fun a => (List.range 10).all fun b => (List.range 30).all fun m => chkN ((a + 4 * (m + 1) - 4) % (m + 1)) ((b + 4 * (m + 1) - 4) % (m + 1)) (m + 1)
end W89
set_option Elab.async false
set_option linter.all false
set_option maxRecDepth 100000
namespace W89
set_option maxHeartbeats 0 in
theorem chk_all : chkA = true := by decide +kernel
end W89
set_option Elab.async false
set_option linter.all false
set_option maxRecDepth 100000
namespace W89
open PySem PySem.Spec PyProof.Rows L2 MP
def T (a b m : Nat) : Nat → Nat × Nat
  | 0 => (0, 1 % m)
  | n + 1 => ((T a b m n).2, (a * (T a b m n).2 + b * (T a b m n).1) % m)
theorem T_cast {a b : Int} {a' b' m : Nat} (ha : (a' : Int) = a % m) (hb : (b' : Int) = b % m) (n : Nat) : S a b m n = (((T a' b' m n).1 : Int), ((T a' b' m n).2 : Int)) := by
  induction n with
  | zero => simp [S, T]
  | succ n ih =>
    simp only [S, nxt, T, ih]
    congr 1
    rw [Int.natCast_emod, Int.natCast_add, Int.natCast_mul, Int.natCast_mul, ha, hb]
    simp [Int.add_emod, Int.mul_emod]
theorem ph2_ok {a b m z : Nat} (hz : 0 < z) : ∀ (f k : Nat), ph2 a b m z f (k % z) (T a b m k).1 (T a b m k).2 = true → ∀ i, k ≤ i → i < k + f → ((T a b m i).1 = 0 ↔ i % z = 0)
  | 0, k, h, i, h1, h2 => by omega
  | f + 1, k, h, i, h1, h2 => by
    rw [ph2, Bool.and_eq_true] at h
    obtain ⟨ha, hb⟩ := h
    have e0 : (T a b m k).1 = 0 ↔ k % z = 0 := by
      have := eq_of_beq ha
      constructor
      · intro e
        rw [e] at this
        exact Nat.eq_of_beq_eq_true (this ▸ rfl)
      · intro e
        rw [e] at this
        exact Nat.eq_of_beq_eq_true (this.trans rfl)
    by_cases hi : i = k
    · subst hi; exact e0
    · have ej : (bif Nat.beq (k % z + 1) z then 0 else k % z + 1) = (k + 1) % z := by
        have hlt := Nat.mod_lt k hz
        by_cases e : k % z + 1 = z
        · rw [show Nat.beq (k % z + 1) z = true by rw [e]; exact Nat.beq_refl z]
          simp only [cond_true]
          rw [← Nat.mod_add_mod, e, Nat.mod_self]
        · rw [show Nat.beq (k % z + 1) z = false by
            cases q : Nat.beq (k % z + 1) z with
            | false => rfl
            | true => exact absurd (Nat.eq_of_beq_eq_true q) e]
          simp only [cond_false]
          rw [← Nat.mod_add_mod]
          exact (Nat.mod_eq_of_lt (by omega)).symm
      have nx : ph2 a b m z f ((k + 1) % z) (T a b m (k + 1)).1 (T a b m (k + 1)).2 = true := by
        rw [← ej]
        show ph2 a b m z f _ (T a b m k).2 ((a * (T a b m k).2 + b * (T a b m k).1) % m) = true
        revert hb
        cases (a * (T a b m k).2 + b * (T a b m k).1) % m <;> exact fun h => h
      exact ph2_ok hz f (k + 1) nx i (by omega) (by omega)
theorem ph1_ok {a b m d : Nat} (hd : 0 < d) (hz : (T a b m d).1 = 0) (hf : ∀ k, 0 < k → k < d → (T a b m k).1 ≠ 0) : ∀ (f k : Nat), f + k = 60 → 0 < k → k ≤ d → ph1 a b m f k (T a b m k).1 (T a b m k).2 = true → ∀ i, i < 60 → ((T a b m i).1 = 0 ↔ i % d = 0)
  | 0, k, hk, k0, kd, h, i, hi => by
    by_cases h0 : i = 0
    · subst h0; exact ⟨fun _ => Nat.zero_mod d, fun _ => rfl⟩
    · rw [Nat.mod_eq_of_lt (by omega)]
      exact ⟨fun e => absurd e (hf i (by omega) (by omega)), fun e => absurd e h0⟩
  | f + 1, k, hk, k0, kd, h, i, hi => by
    by_cases hu : (T a b m k).1 = 0
    · have ek : k = d := by
        by_cases e : k = d
        · exact e
        · exact absurd hu (hf k k0 (by omega))
      subst ek
      rw [ph1, hu] at h
      have h' : ph2 a b m k (f + 1) (k % k) (T a b m k).1 (T a b m k).2 = true := by
        rw [Nat.mod_self, hu]; exact h
      by_cases hik : k ≤ i
      · exact ph2_ok k0 (f + 1) k h' i hik (by omega)
      · by_cases h0 : i = 0
        · subst h0; exact ⟨fun _ => Nat.zero_mod k, fun _ => rfl⟩
        · rw [Nat.mod_eq_of_lt (by omega)]
          exact ⟨fun e => absurd e (hf i (by omega) (by omega)), fun e => absurd e h0⟩
    · have hb : Nat.beq (T a b m k).1 0 = false := by
        cases q : Nat.beq (T a b m k).1 0 with
        | false => rfl
        | true => exact absurd (Nat.eq_of_beq_eq_true q) hu
      rw [ph1, hb] at h
      have nx : ph1 a b m f (k + 1) (T a b m (k + 1)).1 (T a b m (k + 1)).2 = true := by
        show ph1 a b m f (k + 1) (T a b m k).2 ((a * (T a b m k).2 + b * (T a b m k).1) % m) = true
        simp only [cond_false] at h
        revert h
        cases (a * (T a b m k).2 + b * (T a b m k).1) % m <;> exact fun h => h
      have kd2 : k ≠ d := fun e => hu (e ▸ hz)
      exact ph1_ok hd hz hf f (k + 1) (by omega) (by omega) (by omega) nx i hi
theorem chk_at {a b m : Nat} (ha : a < 10) (hb : b < 10) (hm : m < 30) : chkN ((a + 4 * (m + 1) - 4) % (m + 1)) ((b + 4 * (m + 1) - 4) % (m + 1)) (m + 1) = true := by
  have h := chk_all
  unfold chkA at h
  rw [List.all_eq_true] at h
  have h1 := h a (List.mem_range.mpr ha)
  rw [List.all_eq_true] at h1
  have h2 := h1 b (List.mem_range.mpr hb)
  rw [List.all_eq_true] at h2
  exact h2 m (List.mem_range.mpr hm)
theorem res_cast {a m : Nat} : (((a + 4 * (m + 1) - 4) % (m + 1) : Nat) : Int) = ((a : Int) - 4) % ((m : Int) + 1) := by
  rw [Int.natCast_emod]
  have : ((a + 4 * (m + 1) - 4 : Nat) : Int) = ((a : Int) - 4) + ((m : Int) + 1) * 4 := by omega
  rw [this]
  have e : ((m + 1 : Nat) : Int) = (m : Int) + 1 := by simp
  rw [e, Int.add_mul_emod_self_left]
theorem cm_gcd : ∀ (f : Nat) (u v : Nat), v < f → cm f u v = (Nat.gcd u v : Int)
  | 0, u, v, h => by omega
  | f + 1, u, v, h => by
    rw [cm]
    by_cases e : v = 0
    · subst e; simp
    · rw [if_neg (by omega)]
      have : ((u : Int) % (v : Int)) = ((u % v : Nat) : Int) := by simp
      rw [this, cm_gcd f v (u % v) (by have := Nat.mod_lt u (Nat.pos_of_ne_zero e); omega)]
      congr 1
      rw [Nat.gcd_comm u v, Nat.gcd_rec v u, Nat.gcd_comm]
theorem gcd_res {b m : Int} {b' m' : Nat} (hb : (b' : Int) = b % m) (hm : (m' : Int) = m) (h : Nat.gcd b.natAbs m' = 1) : Nat.gcd b' m' = 1 := by
  apply Nat.eq_one_of_dvd_one
  rw [← h]
  refine Nat.dvd_gcd ?_ (Nat.gcd_dvd_right _ _)
  have h1 : ((Nat.gcd b' m' : Nat) : Int) ∣ (b' : Int) := Int.natCast_dvd_natCast.mpr (Nat.gcd_dvd_left _ _)
  have h2 : ((Nat.gcd b' m' : Nat) : Int) ∣ m := hm ▸ Int.natCast_dvd_natCast.mpr (Nat.gcd_dvd_right _ _)
  rw [hb] at h1
  have h3 : ((Nat.gcd b' m' : Nat) : Int) ∣ b := by
    rw [← Int.emod_add_mul_ediv b m]
    exact Int.dvd_add h1 (Int.dvd_trans h2 ⟨_, rfl⟩)
  exact (by simpa using Int.natAbs_dvd_natAbs.mpr h3)
theorem zeros {a b m : Nat} (ha : a < 10) (hb : b < 10) (hm : m < 30) {r : Option Int} (hr : First ((a : Int) - 4) ((b : Int) - 4) (1 + (m : Int)) r) {d : Int} (e : r = some d)
    (hg : cm 999 (if (b : Int) - 4 < 0 then -((b : Int) - 4) else (b : Int) - 4) (if 1 + (m : Int) < 0 then -(1 + (m : Int)) else 1 + (m : Int)) = 1) {k : Nat} (hk : k < 60) :
    decide ((uu ((a : Int) - 4) ((b : Int) - 4) k).1 % (1 + (m : Int)) = 0) = decide ((k : Int) % d = 0) := by
  subst e
  obtain ⟨n, rfl, n0, hz, hf⟩ := hr
  have em : (1 + (m : Int)) = (m : Int) + 1 := by omega
  have C := chk_at ha hb hm
  have ca := res_cast (a := a) (m := m)
  have cb := res_cast (a := b) (m := m)
  rw [← em] at ca cb
  generalize hA : (a + 4 * (m + 1) - 4) % (m + 1) = A at *
  generalize hB : (b + 4 * (m + 1) - 4) % (m + 1) = B at *
  have mc : ((m + 1 : Nat) : Int) = 1 + (m : Int) := by omega
  rw [← mc] at ca cb hz hf hg ⊢
  have g1 : Nat.gcd ((b : Int) - 4).natAbs (m + 1) = 1 := by
    have e1 : (if (b : Int) - 4 < 0 then -((b : Int) - 4) else (b : Int) - 4) = (((b : Int) - 4).natAbs : Int) := by split <;> omega
    have e2 : (if ((m + 1 : Nat) : Int) < 0 then -((m + 1 : Nat) : Int) else ((m + 1 : Nat) : Int)) = ((m + 1 : Nat) : Int) := if_neg (by omega)
    rw [e1, e2, cm_gcd 999 _ _ (by omega)] at hg
    exact Int.ofNat.inj hg
  have g2 := gcd_res (b' := B) (m' := m + 1) cb rfl g1
  unfold chkN at C
  rw [g2] at C
  have C : ph1 A B (m + 1) 59 1 (1 % (m + 1)) (A % (m + 1)) = true := C
  have T1 : T A B (m + 1) 1 = (1 % (m + 1), A % (m + 1)) := by
    simp [T, Nat.mul_mod_mod]
  have tc := T_cast (a := (a : Int) - 4) (b := (b : Int) - 4) (m := m + 1) ca cb
  have main := ph1_ok (a := A) (b := B) (m := m + 1) n0 (by have := hz; rw [tc] at this; exact Int.ofNat.inj this) (fun k k0 k1 e => hf k k0 k1 (by rw [tc]; show ((T A B (m + 1) k).1 : Int) = 0; rw [e]; rfl)) 59 1 rfl (by omega) n0 (by rw [T1]; exact C) k hk
  rw [decide_eq_decide]
  have q : (uu ((a : Int) - 4) ((b : Int) - 4) k).1 % ((m + 1 : Nat) : Int) = ((T A B (m + 1) k).1 : Int) := by
    have := S_uu (a := (a : Int) - 4) (b := (b : Int) - 4) (m := ((m + 1 : Nat) : Int)) k
    rw [tc] at this
    exact (Prod.mk.inj this).1.symm
  rw [q]
  have e3 : ((k : Int) % (n : Int)) = ((k % n : Nat) : Int) := by simp
  rw [e3]
  omega
end W89
set_option Elab.async false
set_option linter.all false
set_option maxRecDepth 100000
namespace W89
open PySem PySem.Spec PyProof.Rows L2 MP
/-! ### the law runs -/
def T0 : FT := ftOf []
noncomputable def g (d : MD) : Fn := ⟨d.io, runD T0 d⟩
structure Has (F : FT) : Prop where
  dr : F "_law_draws" = some ⟨[false, false], runD T0 a__law_draws⟩
  nx : F "_law_next" = some ⟨[true, false], runD T0 a__law_next⟩
  nu : F "_law_is_number" = some ⟨[false], runD T0 a__law_is_number⟩
  co : F "_law_common" = some ⟨[false, false], runD T0 a__law_common⟩
  st : F "_law_steps" = some ⟨[false, false, false], runD T0 a__law_steps⟩
  rk : F "_law_rank" = some ⟨[false, false, false], runD T0 a__law_rank⟩
  so : F "steps_of_two" = some ⟨[false, false, false], runD T0 a_steps_of_two⟩
  ro : F "rank_of_two" = some ⟨[false, false, false], runD T0 a_rank_of_two⟩
set_option maxHeartbeats 4000000 in
theorem law_run {F : FT} (hF : Has F) {ns : List Int} (hn : ns.length ≤ 63) : runD F a_law [.ro (ns.map .int)] = some (.val (.bool true), []) := by
  obtain ⟨L, hL, hl, hD⟩ := draws_runs (F := T0) (many := 300) hn (by decide)
  apply runD_of
  have hL' : runD T0 a__law_draws [.ro (ns.map .int), .val (.int 300)] = some (.lst (L.map .int), []) := hL
  have e15 : (2:Nat) ≤ 15 := by decide
  have nd : ([Sum.inr (Str.ofString "draws"), Sum.inr (Str.ofString "at")] : List Key).Nodup := by decide
  simp only [a_law, hF.dr, hL', nd, List.zip, List.zipWith, List.cons_append, List.nil_append, List.map_cons, List.map_nil, List.length_cons, List.length_nil, List.replicate, Nat.reduceAdd, Nat.reduceSub, Nat.zero_le, Nat.reduceLeDiff, if_true, wp_nil, wp_asg, wp_asgs, wp_setIx, wp_aug, wp_augIx, wp_ex, wp_ret, wp_retN, wp_brk, wp_ct, wp_pass, wp_ite, k1_some, cont_nx, cont_ret, cont_brk, cont_ct, kT_true, kT_false, kT_dec, den_v, den_int, den_bl, den_non, den_str, den_bin, den_neg, den_cmp, den_cmp2, den_band, den_bor, den_bnot, den_ife, den_tup, den_lst, den_dnewK, den_dnewT, den_dct, den_idx, den_slc, den_rev, den_blt, den_isi, den_call, den_app, den_ext, den_pop, den_popAt, den_lrng, den_comp_nm, denI_seq, denI_rng, dens_nil, dens_cons, sAsg, sAsgs, sSetIx, sAug, sAugIx, sEx, sRet, evRet, evC, evV, evMk, evOp, evCmp, evTest, evTup, evLst, evE1, evDct, evAnd, evOr, evNot, evIf, evSlc, evCall, evApp, evExt, evPop, evPopAt, evRng, evSeq, evLrng, evCmp2, MP.get, MP.put, nameE, look, looks, pvs, pvOf, args, items, ents, optI, asB, asBl, notR, tru, truSem, noneR, eAnds, eOrs, tAnds, tOrs, asgT, asgTs, asgEs, argE, argEs, slotsOf, putOuts, isOwnE, toD, seqOf, lstOf, fBin, fNeg, fCmp, fIdx, fRev, fIsi, binSem, intBin, cmpSem, cmpI, idxSem, slcSem, revSem, bltSem, lenSem, absSem, intSem, isD, isN, keyOf, rng1, rng2, setSem, onInt2, onSeq, bv, outsOf, start', eq_ii, eq_bb, eq_ni, eq_in, eq_ss, eq_ll0, Option.map_some, Option.map_none, and_self, decide_true, decide_false, Bool.not_true, Bool.not_false, List.nodup_cons, List.not_mem_nil, not_false_eq_true, List.nodup_nil, isi_int_n, isi_int_i, isi_int_b, isi_int_t, isi_int_s, isi_int_l, isi_int_L, isi_bool_n, isi_bool_i, isi_bool_b, isi_bool_t, isi_bool_s, isi_bool_l, isi_bool_L, isi_str_n, isi_str_i, isi_str_b, isi_str_t, isi_str_s, isi_str_l, isi_str_L, isi_tuple_n, isi_tuple_i, isi_tuple_b, isi_tuple_t, isi_tuple_s, isi_tuple_l, isi_tuple_L, isi_list_n, isi_list_i, isi_list_b, isi_list_t, isi_list_s, isi_list_l, isi_list_L]
  refine wp_for (ds := rngL 0 5) (ρ1 := [some (.ro (ns.map .int)), some (wd L 0), none, none, none, none, none, none, none, none, none]) ?_ (fun i ρ => ∃ (x2 x3 x4 x5 x6 x7 x8 x9 x10 : Option Ent), ρ = [some (.ro (ns.map .int)), some (wd L (4 * i)), x2, x3, x4, x5, x6, x7, x8, x9, x10]) ?_ ?_ ?_
  · have hb : inB 5 = true := inB_s (by decide)
    simp only [hb, wp_nil, wp_asg, wp_asgs, wp_setIx, wp_aug, wp_augIx, wp_ex, wp_ret, wp_retN, wp_brk, wp_ct, wp_pass, wp_ite, k1_some, cont_nx, cont_ret, cont_brk, cont_ct, kT_true, kT_false, kT_dec, den_v, den_int, den_bl, den_non, den_str, den_bin, den_neg, den_cmp, den_cmp2, den_band, den_bor, den_bnot, den_ife, den_tup, den_lst, den_dnewK, den_dnewT, den_dct, den_idx, den_slc, den_rev, den_blt, den_isi, den_call, den_app, den_ext, den_pop, den_popAt, den_lrng, den_comp_nm, denI_seq, denI_rng, dens_nil, dens_cons, sAsg, sAsgs, sSetIx, sAug, sAugIx, sEx, sRet, evRet, evC, evV, evMk, evOp, evCmp, evTest, evTup, evLst, evE1, evDct, evAnd, evOr, evNot, evIf, evSlc, evCall, evApp, evExt, evPop, evPopAt, evRng, evSeq, evLrng, evCmp2, MP.get, MP.put, nameE, look, looks, pvs, pvOf, args, items, ents, optI, asB, asBl, notR, tru, truSem, noneR, eAnds, eOrs, tAnds, tOrs, asgT, asgTs, asgEs, argE, argEs, slotsOf, putOuts, isOwnE, toD, seqOf, lstOf, fBin, fNeg, fCmp, fIdx, fRev, fIsi, binSem, intBin, cmpSem, cmpI, idxSem, slcSem, revSem, bltSem, lenSem, absSem, intSem, isD, isN, keyOf, rng1, rng2, setSem, onInt2, onSeq, bv, outsOf, start', eq_ii, eq_bb, eq_ni, eq_in, eq_ss, eq_ll0, Option.map_some, Option.map_none, and_self, decide_true, decide_false, Bool.not_true, Bool.not_false, List.nodup_cons, List.not_mem_nil, not_false_eq_true, List.nodup_nil, isi_int_n, isi_int_i, isi_int_b, isi_int_t, isi_int_s, isi_int_l, isi_int_L, isi_bool_n, isi_bool_i, isi_bool_b, isi_bool_t, isi_bool_s, isi_bool_l, isi_bool_L, isi_str_n, isi_str_i, isi_str_b, isi_str_t, isi_str_s, isi_str_l, isi_str_L, isi_tuple_n, isi_tuple_i, isi_tuple_b, isi_tuple_t, isi_tuple_s, isi_tuple_l, isi_tuple_L, isi_list_n, isi_list_i, isi_list_b, isi_list_t, isi_list_s, isi_list_l, isi_list_L]
    rfl
  · exact ⟨_, _, _, _, _, _, _, _, _, rfl⟩
  · rintro i ρ d hd ⟨x2, x3, x4, x5, x6, x7, x8, x9, x10, rfl⟩
    obtain ⟨hi, rfl⟩ := rngL_get hd
    refine ⟨_, rfl, ?_⟩
    obtain ⟨a, ea, a0, a1⟩ := next_runs (F := T0) hD (k := 4 * i) (m := 10) (by omega) (by decide)
    obtain ⟨b, eb, b0, b1⟩ := next_runs (F := T0) hD (k := 4 * i + 1) (m := 10) (by omega) (by decide)
    obtain ⟨n, en, n0, n1⟩ := next_runs (F := T0) hD (k := 4 * i + 1 + 1) (m := 40) (by omega) (by decide)
    obtain ⟨m, em, m0, m1⟩ := next_runs (F := T0) hD (k := 4 * i + 1 + 1 + 1) (m := 30) (by omega) (by decide)
    obtain ⟨a, rfl⟩ := Int.eq_ofNat_of_zero_le a0
    obtain ⟨b, rfl⟩ := Int.eq_ofNat_of_zero_le b0
    obtain ⟨n, rfl⟩ := Int.eq_ofNat_of_zero_le n0
    obtain ⟨m, rfl⟩ := Int.eq_ofNat_of_zero_le m0
    have A5 : ((a : Int) - 4).natAbs ≤ 5 := by omega
    have B5 : ((b : Int) - 4).natAbs ≤ 5 := by omega
    have M30 : 0 < 1 + (m : Int) ∧ 1 + (m : Int) ≤ 30 := by omega
    obtain ⟨r, r1, r2, r3⟩ := ranks0 (a := (a : Int) - 4) (b := (b : Int) - 4) M30
    have R1 := rank_run (F := T0) A5 B5 M30 r1
    have R2 := lrank_run (F := T0) A5 B5 M30 r2
    have S1 := steps_run (F := T0) A5 B5 (n := n) (by omega)
    have S2 := lsteps_run (F := T0) A5 B5
    have hrow : atI ((rowsL ((a : Int) - 4) ((b : Int) - 4) 62).map PyData.int) (n : Int) = some (.int (uu ((a : Int) - 4) ((b : Int) - 4) n).1) := atI_nat (rows_get (by omega))
    have I1 := fun k => isnum_run (F := T0) (k := k)
    have C1 := common_run (F := T0) (a := (b : Int) - 4) (b := 1 + (m : Int))
    have z1 := fun d (e : r = some d) => zeros (a := a) (b := b) (m := m) (by omega) (by omega) (by omega) r3 e
    generalize hc : cm 999 (if (b : Int) - 4 < 0 then -((b : Int) - 4) else (b : Int) - 4) (if 1 + (m : Int) < 0 then -(1 + (m : Int)) else 1 + (m : Int)) = c at C1 z1
    have fin : ∀ x2 x3 x4 x5 x6 x7 x8 x9 x10 : Option Ent, ∃ (y2 y3 y4 y5 y6 y7 y8 y9 y10 : Option Ent), [some (Ent.ro (ns.map .int)), some (wd L (4 * i + 1 + 1 + 1 + 1)), x2, x3, x4, x5, x6, x7, x8, x9, x10] = [some (Ent.ro (ns.map .int)), some (wd L (4 * (i + 1))), y2, y3, y4, y5, y6, y7, y8, y9, y10] := fun x2 x3 x4 x5 x6 x7 x8 x9 x10 => by
      rw [show 4 * (i + 1) = 4 * i + 1 + 1 + 1 + 1 by omega]
      exact ⟨_, _, _, _, _, _, _, _, _, rfl⟩
    cases r with
    | none =>
      simp only [hF.nx, hF.so, hF.ro, hF.st, hF.rk, hF.nu, hF.co, ea, eb, en, em, R1, R2, S1, S2, I1, C1, hrow, iv, optD, if_true, wp_nil, wp_asg, wp_asgs, wp_setIx, wp_aug, wp_augIx, wp_ex, wp_ret, wp_retN, wp_brk, wp_ct, wp_pass, wp_ite, k1_some, cont_nx, cont_ret, cont_brk, cont_ct, kT_true, kT_false, kT_dec, den_v, den_int, den_bl, den_non, den_str, den_bin, den_neg, den_cmp, den_cmp2, den_band, den_bor, den_bnot, den_ife, den_tup, den_lst, den_dnewK, den_dnewT, den_dct, den_idx, den_slc, den_rev, den_blt, den_isi, den_call, den_app, den_ext, den_pop, den_popAt, den_lrng, den_comp_nm, denI_seq, denI_rng, dens_nil, dens_cons, sAsg, sAsgs, sSetIx, sAug, sAugIx, sEx, sRet, evRet, evC, evV, evMk, evOp, evCmp, evTest, evTup, evLst, evE1, evDct, evAnd, evOr, evNot, evIf, evSlc, evCall, evApp, evExt, evPop, evPopAt, evRng, evSeq, evLrng, evCmp2, MP.get, MP.put, nameE, look, looks, pvs, pvOf, args, items, ents, optI, asB, asBl, notR, tru, truSem, noneR, eAnds, eOrs, tAnds, tOrs, asgT, asgTs, asgEs, argE, argEs, slotsOf, putOuts, isOwnE, toD, seqOf, lstOf, fBin, fNeg, fCmp, fIdx, fRev, fIsi, binSem, intBin, cmpSem, cmpI, idxSem, slcSem, revSem, bltSem, lenSem, absSem, intSem, isD, isN, keyOf, rng1, rng2, setSem, onInt2, onSeq, bv, outsOf, start', eq_ii, eq_bb, eq_ni, eq_in, eq_ss, eq_ll0, Option.map_some, Option.map_none, and_self, decide_true, decide_false, Bool.not_true, Bool.not_false, List.nodup_cons, List.not_mem_nil, not_false_eq_true, List.nodup_nil, isi_int_n, isi_int_i, isi_int_b, isi_int_t, isi_int_s, isi_int_l, isi_int_L, isi_bool_n, isi_bool_i, isi_bool_b, isi_bool_t, isi_bool_s, isi_bool_l, isi_bool_L, isi_str_n, isi_str_i, isi_str_b, isi_str_t, isi_str_s, isi_str_l, isi_str_L, isi_tuple_n, isi_tuple_i, isi_tuple_b, isi_tuple_t, isi_tuple_s, isi_tuple_l, isi_tuple_L, isi_list_n, isi_list_i, isi_list_b, isi_list_t, isi_list_s, isi_list_l, isi_list_L]
      exact fin _ _ _ _ _ _ _ _ _
    | some d =>
      obtain ⟨n', rfl, n0', _⟩ := id r3
      have dp : (0 : Int) < (n' : Int) := by omega
      have mp := M30.1
      by_cases hc1 : c = 1
      · have z2 := fun k hk => z1 (n' : Int) rfl hc1 (k := k) hk
        have hcmp : ∀ x10, (den F (.comp (.nm 10) (.rng [.int 60]) [.cmp .NotEq (.cmp .Eq (.bin .Mod (.blt .int [.idx (.v 3) (.v 10)]) (.v 9)) (.int 0)) (.cmp .Eq (.bin .Mod (.blt .int [.v 10]) (.v 5)) (.int 0))] (.v 10) [10])).e
            [some (Ent.ro (ns.map .int)), some (wd L (4 * i + 1 + 1 + 1 + 1)), iv (0 + (i : Int)), some (.lst ((rowsL ((a : Int) - 4) ((b : Int) - 4) 62).map .int)), iv n', iv n', iv ((a : Int) - 4), iv ((b : Int) - 4), iv n, iv (1 + (m : Int)), x10] =
            some (.lst [], [some (Ent.ro (ns.map .int)), some (wd L (4 * i + 1 + 1 + 1 + 1)), iv (0 + (i : Int)), some (.lst ((rowsL ((a : Int) - 4) ((b : Int) - 4) 62).map .int)), iv n', iv n', iv ((a : Int) - 4), iv ((b : Int) - 4), iv n, iv (1 + (m : Int)), x10]) := fun x10 => by
          obtain ⟨ys, ρ2, e1, e2, x, e3⟩ := comp_run (F := F) (t := .nm 10) (it := .rng [.int 60]) (ifs := [.cmp .NotEq (.cmp .Eq (.bin .Mod (.blt .int [.idx (.v 3) (.v 10)]) (.v 9)) (.int 0)) (.cmp .Eq (.bin .Mod (.blt .int [.v 10]) (.v 5)) (.int 0))]) (e := .v 10) (own := [10]) (ds := rngL 0 60)
            (ρ := [some (Ent.ro (ns.map .int)), some (wd L (4 * i + 1 + 1 + 1 + 1)), iv (0 + (i : Int)), some (.lst ((rowsL ((a : Int) - 4) ((b : Int) - 4) 62).map .int)), iv n', iv n', iv ((a : Int) - 4), iv ((b : Int) - 4), iv n, iv (1 + (m : Int)), x10])
            (ρ1 := [some (Ent.ro (ns.map .int)), some (wd L (4 * i + 1 + 1 + 1 + 1)), iv (0 + (i : Int)), some (.lst ((rowsL ((a : Int) - 4) ((b : Int) - 4) 62).map .int)), iv n', iv n', iv ((a : Int) - 4), iv ((b : Int) - 4), iv n, iv (1 + (m : Int)), x10])
            (by
              have hb : inB 60 = true := inB_s (by decide)
              simp only [hb, wp_nil, wp_asg, wp_asgs, wp_setIx, wp_aug, wp_augIx, wp_ex, wp_ret, wp_retN, wp_brk, wp_ct, wp_pass, wp_ite, k1_some, cont_nx, cont_ret, cont_brk, cont_ct, kT_true, kT_false, kT_dec, den_v, den_int, den_bl, den_non, den_str, den_bin, den_neg, den_cmp, den_cmp2, den_band, den_bor, den_bnot, den_ife, den_tup, den_lst, den_dnewK, den_dnewT, den_dct, den_idx, den_slc, den_rev, den_blt, den_isi, den_call, den_app, den_ext, den_pop, den_popAt, den_lrng, den_comp_nm, denI_seq, denI_rng, dens_nil, dens_cons, sAsg, sAsgs, sSetIx, sAug, sAugIx, sEx, sRet, evRet, evC, evV, evMk, evOp, evCmp, evTest, evTup, evLst, evE1, evDct, evAnd, evOr, evNot, evIf, evSlc, evCall, evApp, evExt, evPop, evPopAt, evRng, evSeq, evLrng, evCmp2, MP.get, MP.put, nameE, look, looks, pvs, pvOf, args, items, ents, optI, asB, asBl, notR, tru, truSem, noneR, eAnds, eOrs, tAnds, tOrs, asgT, asgTs, asgEs, argE, argEs, slotsOf, putOuts, isOwnE, toD, seqOf, lstOf, fBin, fNeg, fCmp, fIdx, fRev, fIsi, binSem, intBin, cmpSem, cmpI, idxSem, slcSem, revSem, bltSem, lenSem, absSem, intSem, isD, isN, keyOf, rng1, rng2, setSem, onInt2, onSeq, bv, outsOf, start', eq_ii, eq_bb, eq_ni, eq_in, eq_ss, eq_ll0, Option.map_some, Option.map_none, and_self, decide_true, decide_false, Bool.not_true, Bool.not_false, List.nodup_cons, List.not_mem_nil, not_false_eq_true, List.nodup_nil, isi_int_n, isi_int_i, isi_int_b, isi_int_t, isi_int_s, isi_int_l, isi_int_L, isi_bool_n, isi_bool_i, isi_bool_b, isi_bool_t, isi_bool_s, isi_bool_l, isi_bool_L, isi_str_n, isi_str_i, isi_str_b, isi_str_t, isi_str_s, isi_str_l, isi_str_L, isi_tuple_n, isi_tuple_i, isi_tuple_b, isi_tuple_t, isi_tuple_s, isi_tuple_l, isi_tuple_L, isi_list_n, isi_list_i, isi_list_b, isi_list_t, isi_list_s, isi_list_l, isi_list_L]
              rfl)
            (fun k acc ρ => acc = [] ∧ ∃ x, ρ = [some (Ent.ro (ns.map .int)), some (wd L (4 * i + 1 + 1 + 1 + 1)), iv (0 + (i : Int)), some (.lst ((rowsL ((a : Int) - 4) ((b : Int) - 4) 62).map .int)), iv n', iv n', iv ((a : Int) - 4), iv ((b : Int) - 4), iv n, iv (1 + (m : Int)), x])
            ⟨rfl, x10, rfl⟩ (by
              rintro k ρ acc d hd ⟨rfl, x, rfl⟩
              obtain ⟨hk, rfl⟩ := rngL_get hd
              refine ⟨_, rfl, .inl ⟨[some (Ent.ro (ns.map .int)), some (wd L (4 * i + 1 + 1 + 1 + 1)), iv (0 + (i : Int)), some (.lst ((rowsL ((a : Int) - 4) ((b : Int) - 4) 62).map .int)), iv n', iv n', iv ((a : Int) - 4), iv ((b : Int) - 4), iv n, iv (1 + (m : Int)), iv (0 + (k : Int))], ?_, rfl, _, rfl⟩⟩
              have h1 : atI ((rowsL ((a : Int) - 4) ((b : Int) - 4) 62).map PyData.int) (0 + (k : Int)) = some (.int (uu ((a : Int) - 4) ((b : Int) - 4) k).1) := by
                rw [Int.zero_add]
                exact atI_nat (rows_get (by omega))
              have h2 := z2 k hk
              simp only [wipeE, iv, h1, mp, dp, if_true, wp_nil, wp_asg, wp_asgs, wp_setIx, wp_aug, wp_augIx, wp_ex, wp_ret, wp_retN, wp_brk, wp_ct, wp_pass, wp_ite, k1_some, cont_nx, cont_ret, cont_brk, cont_ct, kT_true, kT_false, kT_dec, den_v, den_int, den_bl, den_non, den_str, den_bin, den_neg, den_cmp, den_cmp2, den_band, den_bor, den_bnot, den_ife, den_tup, den_lst, den_dnewK, den_dnewT, den_dct, den_idx, den_slc, den_rev, den_blt, den_isi, den_call, den_app, den_ext, den_pop, den_popAt, den_lrng, den_comp_nm, denI_seq, denI_rng, dens_nil, dens_cons, sAsg, sAsgs, sSetIx, sAug, sAugIx, sEx, sRet, evRet, evC, evV, evMk, evOp, evCmp, evTest, evTup, evLst, evE1, evDct, evAnd, evOr, evNot, evIf, evSlc, evCall, evApp, evExt, evPop, evPopAt, evRng, evSeq, evLrng, evCmp2, MP.get, MP.put, nameE, look, looks, pvs, pvOf, args, items, ents, optI, asB, asBl, notR, tru, truSem, noneR, eAnds, eOrs, tAnds, tOrs, asgT, asgTs, asgEs, argE, argEs, slotsOf, putOuts, isOwnE, toD, seqOf, lstOf, fBin, fNeg, fCmp, fIdx, fRev, fIsi, binSem, intBin, cmpSem, cmpI, idxSem, slcSem, revSem, bltSem, lenSem, absSem, intSem, isD, isN, keyOf, rng1, rng2, setSem, onInt2, onSeq, bv, outsOf, start', eq_ii, eq_bb, eq_ni, eq_in, eq_ss, eq_ll0, Option.map_some, Option.map_none, and_self, decide_true, decide_false, Bool.not_true, Bool.not_false, List.nodup_cons, List.not_mem_nil, not_false_eq_true, List.nodup_nil, isi_int_n, isi_int_i, isi_int_b, isi_int_t, isi_int_s, isi_int_l, isi_int_L, isi_bool_n, isi_bool_i, isi_bool_b, isi_bool_t, isi_bool_s, isi_bool_l, isi_bool_L, isi_str_n, isi_str_i, isi_str_b, isi_str_t, isi_str_s, isi_str_l, isi_str_L, isi_tuple_n, isi_tuple_i, isi_tuple_b, isi_tuple_t, isi_tuple_s, isi_tuple_l, isi_tuple_L, isi_list_n, isi_list_i, isi_list_b, isi_list_t, isi_list_s, isi_list_l, isi_list_L]
              rw [Int.zero_add, h2]
              simp)
          subst e2
          subst e3
          exact e1
        subst hc1
        simp only [iv] at hcmp
        simp only [hF.nx, hF.so, hF.ro, hF.st, hF.rk, hF.nu, hF.co, ea, eb, en, em, R1, R2, S1, S2, I1, C1, hrow, iv, optD, if_true, hcmp, wp_nil, wp_asg, wp_asgs, wp_setIx, wp_aug, wp_augIx, wp_ex, wp_ret, wp_retN, wp_brk, wp_ct, wp_pass, wp_ite, k1_some, cont_nx, cont_ret, cont_brk, cont_ct, kT_true, kT_false, kT_dec, den_v, den_int, den_bl, den_non, den_str, den_bin, den_neg, den_cmp, den_cmp2, den_band, den_bor, den_bnot, den_ife, den_tup, den_lst, den_dnewK, den_dnewT, den_dct, den_idx, den_slc, den_rev, den_blt, den_isi, den_call, den_app, den_ext, den_pop, den_popAt, den_lrng, den_comp_nm, denI_seq, denI_rng, dens_nil, dens_cons, sAsg, sAsgs, sSetIx, sAug, sAugIx, sEx, sRet, evRet, evC, evV, evMk, evOp, evCmp, evTest, evTup, evLst, evE1, evDct, evAnd, evOr, evNot, evIf, evSlc, evCall, evApp, evExt, evPop, evPopAt, evRng, evSeq, evLrng, evCmp2, MP.get, MP.put, nameE, look, looks, pvs, pvOf, args, items, ents, optI, asB, asBl, notR, tru, truSem, noneR, eAnds, eOrs, tAnds, tOrs, asgT, asgTs, asgEs, argE, argEs, slotsOf, putOuts, isOwnE, toD, seqOf, lstOf, fBin, fNeg, fCmp, fIdx, fRev, fIsi, binSem, intBin, cmpSem, cmpI, idxSem, slcSem, revSem, bltSem, lenSem, absSem, intSem, isD, isN, keyOf, rng1, rng2, setSem, onInt2, onSeq, bv, outsOf, start', eq_ii, eq_bb, eq_ni, eq_in, eq_ss, eq_ll0, Option.map_some, Option.map_none, and_self, decide_true, decide_false, Bool.not_true, Bool.not_false, List.nodup_cons, List.not_mem_nil, not_false_eq_true, List.nodup_nil, isi_int_n, isi_int_i, isi_int_b, isi_int_t, isi_int_s, isi_int_l, isi_int_L, isi_bool_n, isi_bool_i, isi_bool_b, isi_bool_t, isi_bool_s, isi_bool_l, isi_bool_L, isi_str_n, isi_str_i, isi_str_b, isi_str_t, isi_str_s, isi_str_l, isi_str_L, isi_tuple_n, isi_tuple_i, isi_tuple_b, isi_tuple_t, isi_tuple_s, isi_tuple_l, isi_tuple_L, isi_list_n, isi_list_i, isi_list_b, isi_list_t, isi_list_s, isi_list_l, isi_list_L]
        exact fin _ _ _ _ _ _ _ _ _
      · simp only [hF.nx, hF.so, hF.ro, hF.st, hF.rk, hF.nu, hF.co, ea, eb, en, em, R1, R2, S1, S2, I1, C1, hrow, iv, optD, if_true, hc1, wp_nil, wp_asg, wp_asgs, wp_setIx, wp_aug, wp_augIx, wp_ex, wp_ret, wp_retN, wp_brk, wp_ct, wp_pass, wp_ite, k1_some, cont_nx, cont_ret, cont_brk, cont_ct, kT_true, kT_false, kT_dec, den_v, den_int, den_bl, den_non, den_str, den_bin, den_neg, den_cmp, den_cmp2, den_band, den_bor, den_bnot, den_ife, den_tup, den_lst, den_dnewK, den_dnewT, den_dct, den_idx, den_slc, den_rev, den_blt, den_isi, den_call, den_app, den_ext, den_pop, den_popAt, den_lrng, den_comp_nm, denI_seq, denI_rng, dens_nil, dens_cons, sAsg, sAsgs, sSetIx, sAug, sAugIx, sEx, sRet, evRet, evC, evV, evMk, evOp, evCmp, evTest, evTup, evLst, evE1, evDct, evAnd, evOr, evNot, evIf, evSlc, evCall, evApp, evExt, evPop, evPopAt, evRng, evSeq, evLrng, evCmp2, MP.get, MP.put, nameE, look, looks, pvs, pvOf, args, items, ents, optI, asB, asBl, notR, tru, truSem, noneR, eAnds, eOrs, tAnds, tOrs, asgT, asgTs, asgEs, argE, argEs, slotsOf, putOuts, isOwnE, toD, seqOf, lstOf, fBin, fNeg, fCmp, fIdx, fRev, fIsi, binSem, intBin, cmpSem, cmpI, idxSem, slcSem, revSem, bltSem, lenSem, absSem, intSem, isD, isN, keyOf, rng1, rng2, setSem, onInt2, onSeq, bv, outsOf, start', eq_ii, eq_bb, eq_ni, eq_in, eq_ss, eq_ll0, Option.map_some, Option.map_none, and_self, decide_true, decide_false, Bool.not_true, Bool.not_false, List.nodup_cons, List.not_mem_nil, not_false_eq_true, List.nodup_nil, isi_int_n, isi_int_i, isi_int_b, isi_int_t, isi_int_s, isi_int_l, isi_int_L, isi_bool_n, isi_bool_i, isi_bool_b, isi_bool_t, isi_bool_s, isi_bool_l, isi_bool_L, isi_str_n, isi_str_i, isi_str_b, isi_str_t, isi_str_s, isi_str_l, isi_str_L, isi_tuple_n, isi_tuple_i, isi_tuple_b, isi_tuple_t, isi_tuple_s, isi_tuple_l, isi_tuple_L, isi_list_n, isi_list_i, isi_list_b, isi_list_t, isi_list_s, isi_list_l, isi_list_L]
        exact fin _ _ _ _ _ _ _ _ _
  · rintro ρ ⟨x2, x3, x4, x5, x6, x7, x8, x9, x10, rfl⟩
    simp only [wp_nil, wp_asg, wp_asgs, wp_setIx, wp_aug, wp_augIx, wp_ex, wp_ret, wp_retN, wp_brk, wp_ct, wp_pass, wp_ite, k1_some, cont_nx, cont_ret, cont_brk, cont_ct, kT_true, kT_false, kT_dec, den_v, den_int, den_bl, den_non, den_str, den_bin, den_neg, den_cmp, den_cmp2, den_band, den_bor, den_bnot, den_ife, den_tup, den_lst, den_dnewK, den_dnewT, den_dct, den_idx, den_slc, den_rev, den_blt, den_isi, den_call, den_app, den_ext, den_pop, den_popAt, den_lrng, den_comp_nm, denI_seq, denI_rng, dens_nil, dens_cons, sAsg, sAsgs, sSetIx, sAug, sAugIx, sEx, sRet, evRet, evC, evV, evMk, evOp, evCmp, evTest, evTup, evLst, evE1, evDct, evAnd, evOr, evNot, evIf, evSlc, evCall, evApp, evExt, evPop, evPopAt, evRng, evSeq, evLrng, evCmp2, MP.get, MP.put, nameE, look, looks, pvs, pvOf, args, items, ents, optI, asB, asBl, notR, tru, truSem, noneR, eAnds, eOrs, tAnds, tOrs, asgT, asgTs, asgEs, argE, argEs, slotsOf, putOuts, isOwnE, toD, seqOf, lstOf, fBin, fNeg, fCmp, fIdx, fRev, fIsi, binSem, intBin, cmpSem, cmpI, idxSem, slcSem, revSem, bltSem, lenSem, absSem, intSem, isD, isN, keyOf, rng1, rng2, setSem, onInt2, onSeq, bv, outsOf, start', eq_ii, eq_bb, eq_ni, eq_in, eq_ss, eq_ll0, Option.map_some, Option.map_none, and_self, decide_true, decide_false, Bool.not_true, Bool.not_false, List.nodup_cons, List.not_mem_nil, not_false_eq_true, List.nodup_nil, isi_int_n, isi_int_i, isi_int_b, isi_int_t, isi_int_s, isi_int_l, isi_int_L, isi_bool_n, isi_bool_i, isi_bool_b, isi_bool_t, isi_bool_s, isi_bool_l, isi_bool_L, isi_str_n, isi_str_i, isi_str_b, isi_str_t, isi_str_s, isi_str_l, isi_str_L, isi_tuple_n, isi_tuple_i, isi_tuple_b, isi_tuple_t, isi_tuple_s, isi_tuple_l, isi_tuple_L, isi_list_n, isi_list_i, isi_list_b, isi_list_t, isi_list_s, isi_list_l, isi_list_L]
end W89
set_option Elab.async false
set_option linter.all false
set_option maxRecDepth 100000
namespace W89
open PySem PySem.Spec PyProof.Rows L2 MP
/-! ### the text -/
def topS (i : Nat) : Stmt := PySem.Challenge.pw_numberstead_k89_steps_of_two.main.body.getD i (.Pass ⟨0, 0, 0, 0⟩)
abbrev s_steps_of_two : Stmt := topS 1
theorem c_steps_of_two : defC a_steps_of_two ["a", "b", "n", "_", "u", "v"] ["a", "b", "n"] s_steps_of_two = true := by decide +kernel
abbrev s_rank_of_two : Stmt := topS 2
theorem c_rank_of_two : defC a_rank_of_two ["a", "b", "m", "met", "n", "u", "v"] ["a", "b", "m"] s_rank_of_two = true := by decide +kernel
abbrev s__law_draws : Stmt := topS 4
theorem c__law_draws : defC a__law_draws ["script", "many", "draws", "mixed", "k", "cell", "rest", "turn"] ["script", "many"] s__law_draws = true := by decide +kernel
abbrev s__law_next : Stmt := topS 5
theorem c__law_next : defC a__law_next ["w", "many"] ["w", "many"] s__law_next = true := by decide +kernel
abbrev s__law_is_number : Stmt := topS 6
theorem c__law_is_number : defC a__law_is_number ["thing"] ["thing"] s__law_is_number = true := by decide +kernel
abbrev s__law_common : Stmt := topS 8
theorem c__law_common : defC a__law_common ["a", "b", "turn"] ["a", "b"] s__law_common = true := by decide +kernel
abbrev s__law_steps : Stmt := topS 9
theorem c__law_steps : defC a__law_steps ["a", "b", "many", "found", "turn"] ["a", "b", "many"] s__law_steps = true := by decide +kernel
abbrev s__law_rank : Stmt := topS 10
theorem c__law_rank : defC a__law_rank ["a", "b", "m", "turn", "seen", "x", "y", "n"] ["a", "b", "m"] s__law_rank = true := by decide +kernel
abbrev s_law : Stmt := topS 11
theorem c_law : defC a_law ["script", "w", "turn", "rows", "told", "due", "a", "b", "n", "m", "k"] ["script"] s_law = true := by decide +kernel
/-- what steps_of_two may call -/
noncomputable def l_steps_of_two : FL := []
/-- what rank_of_two may call -/
noncomputable def l_rank_of_two : FL := []
/-- what _law_draws may call -/
noncomputable def l__law_draws : FL := []
/-- what _law_next may call -/
noncomputable def l__law_next : FL := []
/-- what _law_is_number may call -/
noncomputable def l__law_is_number : FL := []
/-- what _law_common may call -/
noncomputable def l__law_common : FL := []
/-- what _law_steps may call -/
noncomputable def l__law_steps : FL := []
/-- what _law_rank may call -/
noncomputable def l__law_rank : FL := []
/-- what law may call -/
noncomputable def l_law : FL := [("steps_of_two", fnD l_steps_of_two a_steps_of_two), ("rank_of_two", fnD l_rank_of_two a_rank_of_two), ("_law_draws", fnD l__law_draws a__law_draws), ("_law_next", fnD l__law_next a__law_next), ("_law_is_number", fnD l__law_is_number a__law_is_number), ("_law_common", fnD l__law_common a__law_common), ("_law_steps", fnD l__law_steps a__law_steps), ("_law_rank", fnD l__law_rank a__law_rank)]
theorem law_holds {ns : List Int} (h : ns.length ≤ 63) : runD (ftOf l_law) a_law [.ro (ns.map .int)] = some (.val (.bool true), []) := law_run ⟨rfl, rfl, rfl, rfl, rfl, rfl, rfl, rfl⟩ h
section
variable {P : Program} {w : World} {K : PySem.W.Frag} {mg : Str → Option Value} {base : Heap}
theorem ok_law {f : Addr} {fd : FuncData} (bn : ∀ x ∈ bltL, mg x = none) (Fu : Fun K "law" "law" s_law f fd) {f_steps_of_two : Addr} {d_steps_of_two : FuncData} (F_steps_of_two : Fun K "steps_of_two" "steps_of_two" s_steps_of_two f_steps_of_two d_steps_of_two) (m_steps_of_two : mg "steps_of_two" = some (.ref f_steps_of_two)) {f_rank_of_two : Addr} {d_rank_of_two : FuncData} (F_rank_of_two : Fun K "rank_of_two" "rank_of_two" s_rank_of_two f_rank_of_two d_rank_of_two) (m_rank_of_two : mg "rank_of_two" = some (.ref f_rank_of_two)) {f__law_draws : Addr} {d__law_draws : FuncData} (F__law_draws : Fun K "_law_draws" "_law_draws" s__law_draws f__law_draws d__law_draws) (m__law_draws : mg "_law_draws" = some (.ref f__law_draws)) {f__law_next : Addr} {d__law_next : FuncData} (F__law_next : Fun K "_law_next" "_law_next" s__law_next f__law_next d__law_next) (m__law_next : mg "_law_next" = some (.ref f__law_next)) {f__law_is_number : Addr} {d__law_is_number : FuncData} (F__law_is_number : Fun K "_law_is_number" "_law_is_number" s__law_is_number f__law_is_number d__law_is_number) (m__law_is_number : mg "_law_is_number" = some (.ref f__law_is_number)) {f__law_common : Addr} {d__law_common : FuncData} (F__law_common : Fun K "_law_common" "_law_common" s__law_common f__law_common d__law_common) (m__law_common : mg "_law_common" = some (.ref f__law_common)) {f__law_steps : Addr} {d__law_steps : FuncData} (F__law_steps : Fun K "_law_steps" "_law_steps" s__law_steps f__law_steps d__law_steps) (m__law_steps : mg "_law_steps" = some (.ref f__law_steps)) {f__law_rank : Addr} {d__law_rank : FuncData} (F__law_rank : Fun K "_law_rank" "_law_rank" s__law_rank f__law_rank d__law_rank) (m__law_rank : mg "_law_rank" = some (.ref f__law_rank)) : FnOk P w K mg base CX0 2 f fd ["script"] (spL K 63) := by
  have i_steps_of_two : Is P w K mg base (cst0 K) 1 "steps_of_two" (fnD l_steps_of_two a_steps_of_two) := def_run (ps := ["a", "b", "n"]) cst0_ok bn F_steps_of_two m_steps_of_two (fun _ _ _ _ _ _ us hl => match us, hl with | [_, _, _], _ => rfl) c_steps_of_two tab_nil
  have i_rank_of_two : Is P w K mg base (cst0 K) 1 "rank_of_two" (fnD l_rank_of_two a_rank_of_two) := def_run (ps := ["a", "b", "m"]) cst0_ok bn F_rank_of_two m_rank_of_two (fun _ _ _ _ _ _ us hl => match us, hl with | [_, _, _], _ => rfl) c_rank_of_two tab_nil
  have i__law_draws : Is P w K mg base (cst0 K) 1 "_law_draws" (fnD l__law_draws a__law_draws) := def_run (ps := ["script", "many"]) cst0_ok bn F__law_draws m__law_draws (fun _ _ _ _ _ _ us hl => match us, hl with | [_, _], _ => rfl) c__law_draws tab_nil
  have i__law_next : Is P w K mg base (cst0 K) 1 "_law_next" (fnD l__law_next a__law_next) := def_run (ps := ["w", "many"]) cst0_ok bn F__law_next m__law_next (fun _ _ _ _ _ _ us hl => match us, hl with | [_, _], _ => rfl) c__law_next tab_nil
  have i__law_is_number : Is P w K mg base (cst0 K) 1 "_law_is_number" (fnD l__law_is_number a__law_is_number) := def_run (ps := ["thing"]) cst0_ok bn F__law_is_number m__law_is_number (fun _ _ _ _ _ _ us hl => match us, hl with | [_], _ => rfl) c__law_is_number tab_nil
  have i__law_common : Is P w K mg base (cst0 K) 1 "_law_common" (fnD l__law_common a__law_common) := def_run (ps := ["a", "b"]) cst0_ok bn F__law_common m__law_common (fun _ _ _ _ _ _ us hl => match us, hl with | [_, _], _ => rfl) c__law_common tab_nil
  have i__law_steps : Is P w K mg base (cst0 K) 1 "_law_steps" (fnD l__law_steps a__law_steps) := def_run (ps := ["a", "b", "many"]) cst0_ok bn F__law_steps m__law_steps (fun _ _ _ _ _ _ us hl => match us, hl with | [_, _, _], _ => rfl) c__law_steps tab_nil
  have i__law_rank : Is P w K mg base (cst0 K) 1 "_law_rank" (fnD l__law_rank a__law_rank) := def_run (ps := ["a", "b", "m"]) cst0_ok bn F__law_rank m__law_rank (fun _ _ _ _ _ _ us hl => match us, hl with | [_, _, _], _ => rfl) c__law_rank tab_nil
  exact law_fn (k := 1) bn Fu c_law rfl (tab_cons i_steps_of_two (by decide) (tab_cons i_rank_of_two (by decide) (tab_cons i__law_draws (by decide) (tab_cons i__law_next (by decide) (tab_cons i__law_is_number (by decide) (tab_cons i__law_common (by decide) (tab_cons i__law_steps (by decide) (tab_cons i__law_rank (by decide) tab_nil)))))))) fun ns h => law_holds h
end
/-! ### what the top has written; the law's own head -/
theorem all_mk {l : PySem.W.OpenLaw} {w : World} {K : PySem.W.Frag} {h : Heap} {mg : Str → Option Value} {fa : Addr} (X : K.In h) (G : h.Ns mainGlobals mg) (hfa : mg "law" = some (.ref fa))
    {f0 f1 f2 f3 f4 f5 f6 f7 f8 : Addr} {od_0 an_0 od_1 an_1 od_2 an_2 od_3 an_3 od_4 an_4 od_5 an_5 od_6 an_6 od_7 an_7 od_8 an_8 : Option Addr} {sl_0 sl_1 sl_2 sl_3 sl_4 sl_5 sl_6 sl_7 sl_8 : Array (Option Value)} {oc_0 kV_0 dc_0 pm_0 cd_0 ct_0 oc_1 kV_1 dc_1 pm_1 cd_1 ct_1 oc_2 kV_2 dc_2 pm_2 cd_2 ct_2 oc_3 kV_3 dc_3 pm_3 cd_3 ct_3 oc_4 kV_4 dc_4 pm_4 cd_4 ct_4 oc_5 kV_5 dc_5 pm_5 cd_5 ct_5 oc_6 kV_6 dc_6 pm_6 cd_6 ct_6 oc_7 kV_7 dc_7 pm_7 cd_7 ct_7 oc_8 kV_8 dc_8 pm_8 cd_8 ct_8 : Value}
    (a0 : PySem.W.nsIn K mainGlobals "steps_of_two" = some (some (.ref f0))) (l0 : K.lookup f0 = some ⟨oc_0, od_0, .func (PySem.W.fnOf "steps_of_two" "steps_of_two" (defArgs s_steps_of_two) (defBody s_steps_of_two) (defScope s_steps_of_two) .none kV_0 dc_0 pm_0 an_0 cd_0 ct_0), sl_0⟩) (c0 : PySem.W.codeIn K cd_0 "steps_of_two" = true) (k0 : PySem.W.keepIn K (.ref f0) = true)
    (a1 : PySem.W.nsIn K mainGlobals "rank_of_two" = some (some (.ref f1))) (l1 : K.lookup f1 = some ⟨oc_1, od_1, .func (PySem.W.fnOf "rank_of_two" "rank_of_two" (defArgs s_rank_of_two) (defBody s_rank_of_two) (defScope s_rank_of_two) .none kV_1 dc_1 pm_1 an_1 cd_1 ct_1), sl_1⟩) (c1 : PySem.W.codeIn K cd_1 "rank_of_two" = true) (k1 : PySem.W.keepIn K (.ref f1) = true)
    (a2 : PySem.W.nsIn K mainGlobals "_law_draws" = some (some (.ref f2))) (l2 : K.lookup f2 = some ⟨oc_2, od_2, .func (PySem.W.fnOf "_law_draws" "_law_draws" (defArgs s__law_draws) (defBody s__law_draws) (defScope s__law_draws) .none kV_2 dc_2 pm_2 an_2 cd_2 ct_2), sl_2⟩) (c2 : PySem.W.codeIn K cd_2 "_law_draws" = true) (k2 : PySem.W.keepIn K (.ref f2) = true)
    (a3 : PySem.W.nsIn K mainGlobals "_law_next" = some (some (.ref f3))) (l3 : K.lookup f3 = some ⟨oc_3, od_3, .func (PySem.W.fnOf "_law_next" "_law_next" (defArgs s__law_next) (defBody s__law_next) (defScope s__law_next) .none kV_3 dc_3 pm_3 an_3 cd_3 ct_3), sl_3⟩) (c3 : PySem.W.codeIn K cd_3 "_law_next" = true) (k3 : PySem.W.keepIn K (.ref f3) = true)
    (a4 : PySem.W.nsIn K mainGlobals "_law_is_number" = some (some (.ref f4))) (l4 : K.lookup f4 = some ⟨oc_4, od_4, .func (PySem.W.fnOf "_law_is_number" "_law_is_number" (defArgs s__law_is_number) (defBody s__law_is_number) (defScope s__law_is_number) .none kV_4 dc_4 pm_4 an_4 cd_4 ct_4), sl_4⟩) (c4 : PySem.W.codeIn K cd_4 "_law_is_number" = true) (k4 : PySem.W.keepIn K (.ref f4) = true)
    (a5 : PySem.W.nsIn K mainGlobals "_law_common" = some (some (.ref f5))) (l5 : K.lookup f5 = some ⟨oc_5, od_5, .func (PySem.W.fnOf "_law_common" "_law_common" (defArgs s__law_common) (defBody s__law_common) (defScope s__law_common) .none kV_5 dc_5 pm_5 an_5 cd_5 ct_5), sl_5⟩) (c5 : PySem.W.codeIn K cd_5 "_law_common" = true) (k5 : PySem.W.keepIn K (.ref f5) = true)
    (a6 : PySem.W.nsIn K mainGlobals "_law_steps" = some (some (.ref f6))) (l6 : K.lookup f6 = some ⟨oc_6, od_6, .func (PySem.W.fnOf "_law_steps" "_law_steps" (defArgs s__law_steps) (defBody s__law_steps) (defScope s__law_steps) .none kV_6 dc_6 pm_6 an_6 cd_6 ct_6), sl_6⟩) (c6 : PySem.W.codeIn K cd_6 "_law_steps" = true) (k6 : PySem.W.keepIn K (.ref f6) = true)
    (a7 : PySem.W.nsIn K mainGlobals "_law_rank" = some (some (.ref f7))) (l7 : K.lookup f7 = some ⟨oc_7, od_7, .func (PySem.W.fnOf "_law_rank" "_law_rank" (defArgs s__law_rank) (defBody s__law_rank) (defScope s__law_rank) .none kV_7 dc_7 pm_7 an_7 cd_7 ct_7), sl_7⟩) (c7 : PySem.W.codeIn K cd_7 "_law_rank" = true) (k7 : PySem.W.keepIn K (.ref f7) = true)
    (a8 : PySem.W.nsIn K mainGlobals "law" = some (some (.ref f8))) (l8 : K.lookup f8 = some ⟨oc_8, od_8, .func (PySem.W.fnOf "law" "law" (defArgs s_law) (defBody s_law) (defScope s_law) .none kV_8 dc_8 pm_8 an_8 cd_8 ct_8), sl_8⟩) (c8 : PySem.W.codeIn K cd_8 "law" = true) (k8 : PySem.W.keepIn K (.ref f8) = true)
    (z0 : PySem.W.nsIn K mainGlobals "len" = some none)
    (z1 : PySem.W.nsIn K mainGlobals "abs" = some none)
    (z2 : PySem.W.nsIn K mainGlobals "int" = some none)
    (z3 : PySem.W.nsIn K mainGlobals "sum" = some none)
    (z4 : PySem.W.nsIn K mainGlobals "max" = some none)
    (z5 : PySem.W.nsIn K mainGlobals "min" = some none)
    (z6 : PySem.W.nsIn K mainGlobals "sorted" = some none)
    (z7 : PySem.W.nsIn K mainGlobals "list" = some none)
    (z8 : PySem.W.nsIn K mainGlobals "tuple" = some none)
    (z9 : PySem.W.nsIn K mainGlobals "all" = some none)
    (z10 : PySem.W.nsIn K mainGlobals "any" = some none)
    (z11 : PySem.W.nsIn K mainGlobals "isinstance" = some none)
    (z12 : PySem.W.nsIn K mainGlobals "range" = some none)
    (z13 : PySem.W.nsIn K mainGlobals "bool" = some none)
    (z14 : PySem.W.nsIn K mainGlobals "str" = some none)
    (z15 : PySem.W.nsIn K mainGlobals "zip" = some none)
    (z16 : PySem.W.nsIn K mainGlobals "set" = some none)
    (z17 : PySem.W.nsIn K mainGlobals "dict" = some none)
    (z18 : PySem.W.nsIn K mainGlobals "enumerate" = some none)
    (z19 : PySem.W.nsIn K mainGlobals "reversed" = some none)
    : ∃ fd : FuncData, (∀ (s : Shared) (v : Value), BindsTo s fd ⟨[v], []⟩ [("script", v)]) ∧ ∀ base : Heap, K.In base → base.Ns mainGlobals mg → FnOk l.prog w K mg base CX0 2 fa fd ["script"] (spL K 63) := by
  have e := hfa.symm.trans (PySem.W.mg_of X G a8)
  cases e
  have bn : ∀ x ∈ bltL, mg x = none := fun x hx => by
    simp only [bltL, List.mem_cons, List.not_mem_nil, or_false] at hx
    rcases hx with rfl | rfl | rfl | rfl | rfl | rfl | rfl | rfl | rfl | rfl | rfl | rfl | rfl | rfl | rfl | rfl | rfl | rfl | rfl | rfl
    · exact PySem.W.mg_none_of X G z0
    · exact PySem.W.mg_none_of X G z1
    · exact PySem.W.mg_none_of X G z2
    · exact PySem.W.mg_none_of X G z3
    · exact PySem.W.mg_none_of X G z4
    · exact PySem.W.mg_none_of X G z5
    · exact PySem.W.mg_none_of X G z6
    · exact PySem.W.mg_none_of X G z7
    · exact PySem.W.mg_none_of X G z8
    · exact PySem.W.mg_none_of X G z9
    · exact PySem.W.mg_none_of X G z10
    · exact PySem.W.mg_none_of X G z11
    · exact PySem.W.mg_none_of X G z12
    · exact PySem.W.mg_none_of X G z13
    · exact PySem.W.mg_none_of X G z14
    · exact PySem.W.mg_none_of X G z15
    · exact PySem.W.mg_none_of X G z16
    · exact PySem.W.mg_none_of X G z17
    · exact PySem.W.mg_none_of X G z18
    · exact PySem.W.mg_none_of X G z19
  have F0 := fun_mk (st := s_steps_of_two) l0 c0 k0
  have F1 := fun_mk (st := s_rank_of_two) l1 c1 k1
  have F2 := fun_mk (st := s__law_draws) l2 c2 k2
  have F3 := fun_mk (st := s__law_next) l3 c3 k3
  have F4 := fun_mk (st := s__law_is_number) l4 c4 k4
  have F5 := fun_mk (st := s__law_common) l5 c5 k5
  have F6 := fun_mk (st := s__law_steps) l6 c6 k6
  have F7 := fun_mk (st := s__law_rank) l7 c7 k7
  have F8 := fun_mk (st := s_law) l8 c8 k8
  exact ⟨PySem.W.fnOf "law" "law" (defArgs s_law) (defBody s_law) (defScope s_law) .none kV_8 dc_8 pm_8 an_8 cd_8 ct_8, fun s v => .of_eq rfl, fun base _ _ => ok_law bn F8 F0 (PySem.W.mg_of X G a0) F1 (PySem.W.mg_of X G a1) F2 (PySem.W.mg_of X G a2) F3 (PySem.W.mg_of X G a3) F4 (PySem.W.mg_of X G a4) F5 (PySem.W.mg_of X G a5) F6 (PySem.W.mg_of X G a6) F7 (PySem.W.mg_of X G a7)⟩
end W89
open PySem PySem.W PyProof.Rows
set_option maxHeartbeats 0 in
theorem PySem.Challenge.cw_numberstead_k89_steps_of_two_holds : PySem.Challenge.rw_numberstead_k89_steps_of_two.Holds := by
  w_on; o_law; k_head; (case hw => w_witness2)
  k_fill
  refine L2.walk_of (l := PySem.Challenge.rw_numberstead_k89_steps_of_two) (n := 63) (k := 2) (x := "script") (CX := fun _ => L2.CX0) (sp := fun w => MP.spL _ 63) rfl (by decide) rfl ⟨rfl, by decide, by decide⟩ (fun w h Y => PySem.W.kIn_of Y) ?F (fun _ _ a ns hl _ hS => ⟨a, ns, rfl, hS, hl, fun _ => rfl⟩) (fun _ _ _ _ _ h => h)
  case F =>
    intro w mg fa h KX G hmg
    refine' W89.all_mk KX G hmg ?a0 ?l0 ?c0 ?k0 ?a1 ?l1 ?c1 ?k1 ?a2 ?l2 ?c2 ?k2 ?a3 ?l3 ?c3 ?k3 ?a4 ?l4 ?c4 ?k4 ?a5 ?l5 ?c5 ?k5 ?a6 ?l6 ?c6 ?k6 ?a7 ?l7 ?c7 ?k7 ?a8 ?l8 ?c8 ?k8 ?z0 ?z1 ?z2 ?z3 ?z4 ?z5 ?z6 ?z7 ?z8 ?z9 ?z10 ?z11 ?z12 ?z13 ?z14 ?z15 ?z16 ?z17 ?z18 ?z19
    (case a0 => k_is)
    (case l0 => k_is)
    (case c0 => k_is)
    (case k0 => k_is)
    (case a1 => k_is)
    (case l1 => k_is)
    (case c1 => k_is)
    (case k1 => k_is)
    (case a2 => k_is)
    (case l2 => k_is)
    (case c2 => k_is)
    (case k2 => k_is)
    (case a3 => k_is)
    (case l3 => k_is)
    (case c3 => k_is)
    (case k3 => k_is)
    (case a4 => k_is)
    (case l4 => k_is)
    (case c4 => k_is)
    (case k4 => k_is)
    (case a5 => k_is)
    (case l5 => k_is)
    (case c5 => k_is)
    (case k5 => k_is)
    (case a6 => k_is)
    (case l6 => k_is)
    (case c6 => k_is)
    (case k6 => k_is)
    (case a7 => k_is)
    (case l7 => k_is)
    (case c7 => k_is)
    (case k7 => k_is)
    (case a8 => k_is)
    (case l8 => k_is)
    (case c8 => k_is)
    (case k8 => k_is)
    (case z0 => k_is)
    (case z1 => k_is)
    (case z2 => k_is)
    (case z3 => k_is)
    (case z4 => k_is)
    (case z5 => k_is)
    (case z6 => k_is)
    (case z7 => k_is)
    (case z8 => k_is)
    (case z9 => k_is)
    (case z10 => k_is)
    (case z11 => k_is)
    (case z12 => k_is)
    (case z13 => k_is)
    (case z14 => k_is)
    (case z15 => k_is)
    (case z16 => k_is)
    (case z17 => k_is)
    (case z18 => k_is)
    (case z19 => k_is)

