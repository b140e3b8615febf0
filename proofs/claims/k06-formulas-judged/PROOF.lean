import PyProof.Rows.All
import Wide.All
import OpenK.AllK
import Wide.FinOn
import HandS.ForMost
import HandS.Flow
import HandS.Wide
import HandS.Deep
import HandS.TupAny
import HandS.TupMul
import HandS.Style
import HandS.IsInst
import PyProof.P3In
import HandS.TupLen
import HandS.MakeKwOnly
import HandS.Defaults
import HandS.More
import HandS.Head0
import HandS.Head1
import HandS.Head2
import HandS.HeadEnd
import HandS.HeadHook1
import HandS.HeadHook2
import PySem.Challenge.RW_frontpace_k06_formulas_judged
set_option Elab.async false
set_option linter.all false
/-! MpA: deep values, the small language, its evaluator. -/
namespace Mp
open PySem

/-- a value as a tree; own, odct: new and named by nothing else -/
inductive D where
  | unb
  | non
  | bl (b : Bool)
  | int (i : Int)
  | str (s : Str)
  | tup (xs : List D)
  | lst (xs : List D)
  | own (xs : List D)
  | scr (xs : List D)
  | dct (ks vs : List D)
  | odct (ks vs : List D)
  | set (xs : List D)
  | itr (xs : List D)
  | obj (c : Nat) (ns : List Str) (vs : List D)
  | exc (c : Nat) (ns : List Str) (vs : List D)
  | ref (l : Nat)
  | clo (f : Nat) (ls : List Nat)
  deriving Inhabited

inductive Cell where
  | lst (xs : List D)
  | inst (c : Nat) (ns : List Str) (vs : List D)
  | var (d : D)
abbrev Mem := List Cell
abbrev Loc := List D

inductive Res (α : Type) where
  | ok (a : α) (m : Mem)
  | exc (x : D) (m : Mem)
  | bad

@[inline] def Res.bind {α β : Type} (r : Res α) (k : α → Mem → Res β) : Res β := match r with
  | .ok a m => k a m
  | .exc x m => .exc x m
  | .bad => .bad
@[simp] theorem Res.bind_ok {α β : Type} (a : α) (m : Mem) (k : α → Mem → Res β) : (Res.ok a m).bind k = k a m := rfl
@[simp] theorem Res.bind_exc {α β : Type} (x : D) (m : Mem) (k : α → Mem → Res β) : (Res.exc x m : Res α).bind k = .exc x m := rfl
@[simp] theorem Res.bind_bad {α β : Type} (k : α → Mem → Res β) : (Res.bad : Res α).bind k = .bad := rfl
/-- a partial pure value -/
@[inline] def opt {α : Type} (o : Option α) (m : Mem) : Res α := match o with
  | some a => .ok a m
  | none => .bad
@[simp] theorem opt_some {α : Type} (a : α) (m : Mem) : opt (some a) m = .ok a m := rfl
@[simp] theorem opt_none {α : Type} (m : Mem) : opt (none : Option α) m = .bad := rfl

/-- shared from now on -/
def frz : D → D
  | .own xs => .lst xs
  | .odct ks vs => .dct ks vs
  | d => d

/-- the most items of a list or tuple -/
def LIM : Nat := 1000000
def sz {α : Type} (xs : List α) : Bool := Nat.ble xs.length LIM

/-! ### equality of plain data -/
mutual
def eqv : D → D → Bool
  | .non, .non => true
  | .bl a, .bl b => a == b
  | .bl a, .int j => (if a then 1 else 0) == j
  | .int i, .bl b => i == (if b then 1 else 0)
  | .int i, .int j => i == j
  | .str x, .str y => x == y
  | .tup xs, .tup ys => eqvs xs ys
  | .lst xs, .lst ys => eqvs xs ys
  | .own xs, .lst ys => eqvs xs ys
  | .lst xs, .own ys => eqvs xs ys
  | .own xs, .own ys => eqvs xs ys
  | _, _ => false
def eqvs : List D → List D → Bool
  | [], [] => true
  | x :: xs, y :: ys => eqv x y && eqvs xs ys
  | _, _ => false
end
-- None, bools, ints, texts, lists and tuples of these, at most n deep
mutual
def plain : Nat → D → Bool
  | _, .non => true
  | _, .bl _ => true
  | _, .int _ => true
  | _, .str x => PyData.strOk x
  | 0, _ => false
  | n + 1, .tup xs => plains n xs
  | n + 1, .lst xs => plains n xs
  | n + 1, .own xs => plains n xs
  | _, _ => false
def plains : Nat → List D → Bool
  | _, [] => true
  | n, x :: xs => plain n x && plains n xs
end
/-- the deepest data that == is asked of -/
def DEEP : Nat := 40

def truth : D → Option Bool
  | .non => some false
  | .bl b => some b
  | .int i => some (i != 0)
  | .str s => if Nat.ble s.length LIM then some (s.length != 0) else none
  | .tup xs => some (!xs.isEmpty)
  | .lst xs => some (!xs.isEmpty)
  | .own xs => some (!xs.isEmpty)
  | _ => none

inductive BOp where
  | add | sub | mul | fdiv | mod | pow
inductive COp where
  | eq | ne | lt | le | gt | ge | is | isnot | inn | notin

def mulOk (i j : Int) : Bool := Nat.blt (i.natAbs.log2 + j.natAbs.log2) 1000000
def divOk (j : Int) : Bool := j != 0 && Nat.blt j.natAbs.log2 9000
def powOk (i j : Int) : Bool := decide (0 ≤ j) && decide (j ≤ 1000000) && decide (i.natAbs < 2 ^ 64)
def rep (k : Int) (xs : List D) : List D := (List.replicate k.toNat xs).flatten
def repOk (k : Int) (xs : List D) : Bool := decide (2 ≤ k) && decide (k ≤ 1000) && Nat.ble xs.length 1000 && !xs.isEmpty

def binop : BOp → D → D → Option D
  | .add, .int i, .int j => some (.int (i + j))
  | .add, .str x, .str y => if Nat.ble (x.length + y.length) LIM then some (.str (x ++ y)) else none
  | .add, .tup xs, .tup ys => if Nat.ble (xs.length + ys.length) LIM then some (.tup (xs ++ ys)) else none
  | .add, .lst xs, .lst ys => if Nat.ble (xs.length + ys.length) LIM then some (.own (xs ++ ys)) else none
  | .add, .own xs, .lst ys => if Nat.ble (xs.length + ys.length) LIM then some (.own (xs ++ ys)) else none
  | .add, .lst xs, .own ys => if Nat.ble (xs.length + ys.length) LIM then some (.own (xs ++ ys)) else none
  | .add, .own xs, .own ys => if Nat.ble (xs.length + ys.length) LIM then some (.own (xs ++ ys)) else none
  | .sub, .int i, .int j => some (.int (i - j))
  | .mul, .int i, .int j => if mulOk i j then some (.int (i * j)) else none
  | .mul, .tup xs, .int k => if repOk k xs then some (.tup (rep k xs)) else none
  | .mul, .lst xs, .int k => if repOk k xs then some (.own (rep k xs)) else none
  | .mul, .own xs, .int k => if repOk k xs then some (.own (rep k xs)) else none
  | .fdiv, .int i, .int j => if divOk j then some (.int (i.fdiv j)) else none
  | .mod, .int i, .int j => if j != 0 then some (.int (i.fmod j)) else none
  | .pow, .int i, .int j => if powOk i j then some (.int (i ^ j.toNat)) else none
  | _, _, _ => none

def items : D → Option (List D)
  | .tup xs => some xs
  | .lst xs => some xs
  | .own xs => some xs
  | .scr xs => some xs
  | .itr xs => some xs
  | _ => none
/-- the items of what can be a list or tuple -/
def seqItems : D → Option (List D)
  | .tup xs => some xs
  | .lst xs => some xs
  | .own xs => some xs
  | _ => none

def isNon : D → Bool
  | .non => true
  | _ => false
def isConst : D → D → Option Bool
  | x, .non => some (isNon x)
  | x, .bl c => match x with | .bl b => some (b == c) | _ => none
  | _, _ => none

/-- a tuple of ints and texts -/
def isKey : D → Bool
  | .int _ => true
  | .str _ => true
  | _ => false
def isTK : D → Bool
  | .tup xs => xs.all isKey
  | _ => false
def cmpop : COp → D → D → Option D
  | .eq, a, b => if plain DEEP a && plain DEEP b then some (.bl (eqv a b)) else none
  | .ne, a, b => if plain DEEP a && plain DEEP b then some (.bl (!eqv a b)) else none
  | .lt, .int i, .int j => some (.bl (decide (i < j)))
  | .le, .int i, .int j => some (.bl (decide (i ≤ j)))
  | .gt, .int i, .int j => some (.bl (decide (j < i)))
  | .ge, .int i, .int j => some (.bl (decide (j ≤ i)))
  | .is, a, b => (isConst a b).map .bl
  | .isnot, a, b => (isConst a b).map fun c => .bl (!c)
  | .inn, a, .dct ks _ => if isTK a then some (.bl (ks.any fun k => eqv k a)) else none
  | .inn, a, .odct ks _ => if isTK a then some (.bl (ks.any fun k => eqv k a)) else none
  | .inn, a, b => match seqItems b with
    | some ys => if plain DEEP a && plains DEEP ys then some (.bl (ys.any fun y => eqv y a)) else none
    | none => none
  | .notin, a, .dct ks _ => if isTK a then some (.bl (!ks.any fun k => eqv k a)) else none
  | .notin, a, .odct ks _ => if isTK a then some (.bl (!ks.any fun k => eqv k a)) else none
  | .notin, a, b => match seqItems b with
    | some ys => if plain DEEP a && plains DEEP ys then some (.bl (!ys.any fun y => eqv y a)) else none
    | none => none
  | _, _, _ => none

def ixAt (i : Int) (n : Nat) : Option Nat := L2.ixN n i
def nth (xs : List D) (i : Int) : Option D := L2.atI xs i
/-- a slice -/
def cut {α : Type} (lo hi : Option Int) (xs : List α) : List α := (xs.drop (HT.sIx xs.length 0 lo)).take (HT.sIx xs.length xs.length hi - HT.sIx xs.length 0 lo)

inductive Ty where
  | int | bool | str | tuple | list
  deriving DecidableEq
def isTy : Ty → D → Option Bool
  | .int, .int _ => some true
  | .int, .bl _ => some true
  | .bool, .bl _ => some true
  | .str, .str _ => some true
  | .tuple, .tup _ => some true
  | .list, .lst _ => some true
  | .list, .own _ => some true
  | _, .non => some false
  | _, .int _ => some false
  | _, .bl _ => some false
  | _, .str _ => some false
  | _, .tup _ => some false
  | _, .lst _ => some false
  | _, .own _ => some false
  | _, _ => none

inductive Prim where
  | len | abs | toInt | toList | toTuple | all | any | isinst (t : Ty) | range
  deriving DecidableEq

def bools : List D → Option (List Bool)
  | [] => some []
  | .bl b :: r => match bools r with
    | some bs => some (b :: bs)
    | none => none
  | _ => none
/-- lo, lo + 1, .. n of them -/
def upTo (lo : Int) : Nat → List D
  | 0 => []
  | n + 1 => .int lo :: upTo (lo + 1) n

def prim : Prim → List D → Option D
  | .len, [x] => match x with
    | .str s => if Nat.ble s.length LIM then some (.int s.length) else none
    | .dct ks _ => some (.int ks.length)
    | .odct ks _ => some (.int ks.length)
    | x => (seqItems x).map fun xs => .int xs.length
  | .abs, [.int i] => some (.int (if i < 0 then -i else i))
  | .toInt, [.int i] => some (.int i)
  | .toInt, [.bl b] => some (.int (if b then 1 else 0))
  | .toList, [x] => (seqItems x).map .own
  | .toTuple, [x] => (seqItems x).map .tup
  | .all, [.lst xs] => (bools xs).map fun bs => .bl (bs.all id)
  | .all, [.own xs] => (bools xs).map fun bs => .bl (bs.all id)
  | .any, [.lst xs] => (bools xs).map fun bs => .bl (bs.any id)
  | .any, [.own xs] => (bools xs).map fun bs => .bl (bs.any id)
  | .isinst t, [x] => (isTy t x).map .bl
  | .range, [.int n] => if decide (-(2 ^ 60) ≤ n) && decide (n < 2 ^ 60) then some (.itr (upTo 0 n.toNat)) else none
  | .range, [.int a, .int b] => if decide (-(2 ^ 60) ≤ a) && decide (a < 2 ^ 60) && decide (-(2 ^ 60) ≤ b) && decide (b < 2 ^ 60) then some (.itr (upTo a (b - a).toNat)) else none
  | _, _ => none

/-- a target of names -/
inductive Tg where
  | nm (i : Nat)
  | tp (is : List Nat)
def setAll : List Nat → List D → Loc → Option Loc
  | [], [], l => some l
  | i :: is, x :: xs, l => setAll is xs (l.set i x)
  | _, _, _ => none
def Tg.put : Tg → D → Loc → Option Loc
  | .nm i, x, l => some (l.set i x)
  | .tp is, .tup xs, l => setAll is xs l
  | _, _, _ => none

/-- the names of a target, forgotten -/
def clearAll : List Nat → Loc → Loc
  | [], l => l
  | i :: is, l => (clearAll is l).set i .unb
def Tg.slots : Tg → List Nat
  | .nm i => [i]
  | .tp is => is
def Tg.clear (t : Tg) (l : Loc) : Loc := clearAll t.slots l

inductive E where
  | lit (d : D)
  | var (i : Nat)
  | bor (i : Nat)
  | neg (a : E)
  | not (a : E)
  | and (a b : E)
  | or (a b : E)
  | ite (c a b : E)
  | bin (o : BOp) (a b : E)
  | cmp (o : COp) (a b : E)
  | chain (o o' : COp) (a b c : E)
  | tup (es : List E)
  | lst (es : List E)
  | dnew
  | idx (a b : E)
  | slc (a lo hi : E)
  | call (f : Nat) (es ks : List E) (dfl : List D)
  | prim (p : Prim) (es : List E)
  | comp (elt : E) (t : Tg) (src c : E)

abbrev CallS := Nat → List D → Mem → Res D

def get1 (d : D) (m : Mem) : Res D := match d with
  | .own _ => .bad
  | .odct _ _ => .bad
  | .unb => .bad
  | d => .ok d m
def bor1 (d : D) (m : Mem) : Res D := match d with
  | .own xs => .ok (.lst xs) m
  | .odct ks vs => .ok (.dct ks vs) m
  | .unb => .bad
  | d => .ok d m
def getV (i : Nat) (l : Loc) (m : Mem) : Res D := match l[i]? with
  | some d => get1 d m
  | none => .bad
def borV (i : Nat) (l : Loc) (m : Mem) : Res D := match l[i]? with
  | some d => bor1 d m
  | none => .bad
/-- shared, and bound -/
def fro : D → Bool
  | .own _ => false
  | .odct _ _ => false
  | .unb => false
  | _ => true
theorem get1_fro {d : D} {m : Mem} (h : fro d = true) : get1 d m = .ok d m := by
  cases d <;> first | rfl | cases h
theorem bor1_fro {d : D} {m : Mem} (h : fro d = true) : bor1 d m = .ok d m := by
  cases d <;> first | rfl | cases h
theorem frz_fro {d : D} (h : fro d = true) : frz d = d := by
  cases d <;> first | rfl | cases h
def index (a b : D) (m : Mem) : Res D := match a, b with
  | .tup xs, .int i => opt (nth xs i) m
  | .lst xs, .int i => opt (nth xs i) m
  | .own xs, .int i => opt (nth xs i) m
  | .ref l, .int i => match m[l]? with
    | some (.lst xs) => opt (nth xs i) m
    | _ => .bad
  | _, _ => .bad
def part : D → Option (Option Int)
  | .unb => some none
  | .int i => some (some i)
  | _ => none
def sliced (a lo hi : D) : Option D := match part lo, part hi with
  | some lo, some hi => (match a with
    | .tup xs => some (.tup (cut lo hi xs))
    | .lst xs => some (.own (cut lo hi xs))
    | .own xs => some (.own (cut lo hi xs))
    | .scr xs => some (.own (cut lo hi xs))
    | _ => none)
  | _, _ => none
def compGo (f : D → Mem → Res (Option D)) : List D → List D → Mem → Res (List D)
  | [], acc, m => .ok acc m
  | x :: xs, acc, m => (f x m).bind fun o m1 => match o with
    | some v => if Nat.blt acc.length LIM then compGo f xs (acc ++ [frz v]) m1 else .bad
    | none => compGo f xs acc m1

mutual
/-- b: whether a list of a name may be looked at as it is -/
def evE (cs : CallS) (b : Bool) : E → Loc → Mem → Res D
  | .lit d, _, m => .ok d m
  | .var i, l, m => getV i l m
  | .bor i, l, m => if b then borV i l m else .bad
  | .neg a, l, m => (evE cs true a l m).bind fun x m1 => match x with
    | .int i => .ok (.int (-i)) m1
    | _ => .bad
  | .not a, l, m => (evE cs true a l m).bind fun x m1 => match truth x with
    | some c => .ok (.bl (!c)) m1
    | none => .bad
  | .and x y, l, m => (evE cs b x l m).bind fun v m1 => match truth v with
    | some true => evE cs b y l m1
    | some false => .ok v m1
    | none => .bad
  | .or x y, l, m => (evE cs b x l m).bind fun v m1 => match truth v with
    | some true => .ok v m1
    | some false => evE cs b y l m1
    | none => .bad
  | .ite c x y, l, m => (evE cs true c l m).bind fun v m1 => match truth v with
    | some true => evE cs b x l m1
    | some false => evE cs b y l m1
    | none => .bad
  | .bin o x y, l, m => (evE cs true x l m).bind fun v m1 => (evE cs true y l m1).bind fun w m2 => opt (binop o v w) m2
  | .cmp o x y, l, m => (evE cs true x l m).bind fun v m1 => (evE cs true y l m1).bind fun w m2 => opt (cmpop o v w) m2
  | .chain o o' x y z, l, m => (evE cs true x l m).bind fun v m1 => (evE cs true y l m1).bind fun w m2 => (opt (cmpop o v w) m2).bind fun r m3 => match r with
    | .bl true => (evE cs true z l m3).bind fun u m4 => opt (cmpop o' w u) m4
    | .bl false => .ok (.bl false) m3
    | _ => .bad
  | .tup es, l, m => (evEs cs es l m).bind fun xs m1 => if sz xs then .ok (.tup xs) m1 else .bad
  | .lst es, l, m => (evEs cs es l m).bind fun xs m1 => if sz xs then .ok (.own xs) m1 else .bad
  | .dnew, _, m => .ok (.odct [] []) m
  | .idx x y, l, m => (evE cs true x l m).bind fun v m1 => (evE cs true y l m1).bind fun w m2 => index v w m2
  | .slc x lo hi, l, m => (evE cs true x l m).bind fun v m1 => (evE cs true lo l m1).bind fun y m2 => (evE cs true hi l m2).bind fun z m3 => opt (sliced v y z) m3
  | .call f es ks dfl, l, m => (evEs cs es l m).bind fun xs m1 => (evEs cs ks l m1).bind fun ys m2 => cs f (xs ++ ys ++ dfl) m2
  | .prim p es, l, m => (evEb cs es l m).bind fun xs m1 => opt (Mp.prim p xs) m1
  | .comp elt t src c, l, m => (evE cs true src l m).bind fun s m1 => match items s with
    | none => .bad
    | some xs => (compGo (fun x m => match t.put x (t.clear l) with
        | none => .bad
        | some l1 => (evE cs true c l1 m).bind fun v m2 => match truth v with
          | some true => (evE cs false elt l1 m2).bind fun v m3 => .ok (some v) m3
          | some false => .ok none m2
          | none => .bad) xs [] m1).bind fun ys m2 => .ok (.own ys) m2
/-- values that are kept: shared from now on -/
def evEs (cs : CallS) : List E → Loc → Mem → Res (List D)
  | [], _, m => .ok [] m
  | e :: es, l, m => (evE cs false e l m).bind fun x m1 => (evEs cs es l m1).bind fun xs m2 => .ok (frz x :: xs) m2
/-- values that stay one's own -/
def evEo (cs : CallS) : List E → Loc → Mem → Res (List D)
  | [], _, m => .ok [] m
  | e :: es, l, m => (evE cs false e l m).bind fun x m1 => (evEo cs es l m1).bind fun xs m2 => .ok (x :: xs) m2
/-- values that are only looked at -/
def evEb (cs : CallS) : List E → Loc → Mem → Res (List D)
  | [], _, m => .ok [] m
  | e :: es, l, m => (evE cs true e l m).bind fun x m1 => (evEb cs es l m1).bind fun xs m2 => .ok (x :: xs) m2
end

inductive S where
  | pass
  | expr (e : E)
  | set (i : Nat) (e : E)
  | seto (i : Nat) (e : E)
  | unp (t : Tg) (e : E)
  | par (is : List Nat) (es : List E)
  | cell (i : Nat) (e : E)
  | frz (i : Nat)
  | ret (e : E)
  | reto (i : Nat)
  | ite (c : E) (a b : List S)
  | loop (t : Tg) (src : E) (body : List S)
  | whil (c : E) (body : List S)
  | cont
  | brk
  | app (i : Nat) (e : E)
  | ext (i : Nat) (e : E)
  | pop (i : Nat)
  | popto (t : Tg) (i : Nat)
  | ins (i : Nat) (a e : E)
  | seti (i : Nat) (a e : E)
  | setr (r a e : E)
  | dput (i : Nat) (a e : E)
  | aug (i : Nat) (o : BOp) (e : E)

inductive ResS where
  | nxt (l : Loc) (m : Mem)
  | ret (v : D) (m : Mem)
  | brk (l : Loc) (m : Mem)
  | cnt (l : Loc) (m : Mem)
  | exc (x : D) (m : Mem)
  | bad
@[inline] def Res.stm {α : Type} (r : Res α) (k : α → Mem → ResS) : ResS := match r with
  | .ok a m => k a m
  | .exc x m => .exc x m
  | .bad => .bad
@[simp] theorem Res.stm_ok {α : Type} (a : α) (m : Mem) (k : α → Mem → ResS) : (Res.ok a m).stm k = k a m := rfl
@[simp] theorem Res.stm_exc {α : Type} (x : D) (m : Mem) (k : α → Mem → ResS) : (Res.exc x m : Res α).stm k = .exc x m := rfl
@[simp] theorem Res.stm_bad {α : Type} (k : α → Mem → ResS) : (Res.bad : Res α).stm k = .bad := rfl
@[inline] def ResS.then (r : ResS) (k : Loc → Mem → ResS) : ResS := match r with
  | .nxt l m => k l m
  | r => r
@[simp] theorem ResS.then_nxt (l : Loc) (m : Mem) (k : Loc → Mem → ResS) : (ResS.nxt l m).then k = k l m := rfl
@[simp] theorem ResS.then_ret (v : D) (m : Mem) (k : Loc → Mem → ResS) : (ResS.ret v m).then k = .ret v m := rfl
@[simp] theorem ResS.then_brk (l : Loc) (m : Mem) (k : Loc → Mem → ResS) : (ResS.brk l m).then k = .brk l m := rfl
@[simp] theorem ResS.then_cnt (l : Loc) (m : Mem) (k : Loc → Mem → ResS) : (ResS.cnt l m).then k = .cnt l m := rfl
@[simp] theorem ResS.then_exc (x : D) (m : Mem) (k : Loc → Mem → ResS) : (ResS.exc x m).then k = .exc x m := rfl
@[simp] theorem ResS.then_bad (k : Loc → Mem → ResS) : ResS.bad.then k = .bad := rfl
/-- behind a turn of a loop -/
@[inline] def ResS.turn (r : ResS) (k : Loc → Mem → ResS) : ResS := match r with
  | .nxt l m => k l m
  | .cnt l m => k l m
  | .brk l m => .nxt l m
  | r => r
@[simp] theorem ResS.turn_nxt (l : Loc) (m : Mem) (k : Loc → Mem → ResS) : (ResS.nxt l m).turn k = k l m := rfl
@[simp] theorem ResS.turn_cnt (l : Loc) (m : Mem) (k : Loc → Mem → ResS) : (ResS.cnt l m).turn k = k l m := rfl
@[simp] theorem ResS.turn_brk (l : Loc) (m : Mem) (k : Loc → Mem → ResS) : (ResS.brk l m).turn k = .nxt l m := rfl
@[simp] theorem ResS.turn_ret (v : D) (m : Mem) (k : Loc → Mem → ResS) : (ResS.ret v m).turn k = .ret v m := rfl
@[simp] theorem ResS.turn_exc (x : D) (m : Mem) (k : Loc → Mem → ResS) : (ResS.exc x m).turn k = .exc x m := rfl
@[simp] theorem ResS.turn_bad (k : Loc → Mem → ResS) : ResS.bad.turn k = .bad := rfl

def forGo (f : D → Loc → Mem → ResS) : List D → Loc → Mem → ResS
  | [], l, m => .nxt l m
  | x :: xs, l, m => (f x l m).turn (forGo f xs)
def whileGo (c : Loc → Mem → Res D) (f : Loc → Mem → ResS) : Nat → Loc → Mem → ResS
  | 0, _, _ => .bad
  | n + 1, l, m => (c l m).stm fun x m1 => match truth x with
    | some true => (f l m1).turn (whileGo c f n)
    | some false => .nxt l m1
    | none => .bad
def ownAt (i : Nat) (l : Loc) : Option (List D) := match l[i]? with
  | some (.own xs) => some xs
  | _ => none
def listOf : D → Option (List D)
  | .lst xs => some xs
  | .own xs => some xs
  | _ => none
def intOf : D → Option Int
  | .int i => some i
  | _ => none
/-- the list of a cell -/
def cellAt (d : D) (m : Mem) : Option (Nat × List D) := match d with
  | .ref c => match m[c]? with
    | some (.lst xs) => some (c, xs)
    | _ => none
  | _ => none
/-- d[k] = v -/
def dictPut (k v : D) (ks vs : List D) : List D × List D :=
  if ks.any (fun x => eqv x k) then (ks, List.zipWith (fun x y => if eqv x k then v else y) ks vs) else (ks ++ [k], vs ++ [v])

mutual
def evS (cs : CallS) (w : Nat) : S → Loc → Mem → ResS
  | .pass, l, m => .nxt l m
  | .expr e, l, m => (evE cs true e l m).stm fun _ m1 => .nxt l m1
  | .set i e, l, m => (evE cs false e l m).stm fun x m1 => .nxt (l.set i (frz x)) m1
  | .seto i e, l, m => (evE cs false e l m).stm fun x m1 => .nxt (l.set i x) m1
  | .unp t e, l, m => (evE cs true e l m).stm fun x m1 => match t.put x l with
    | some l1 => .nxt l1 m1
    | none => .bad
  | .par is es, l, m => (evEo cs es l m).stm fun xs m1 => match setAll is xs l with
    | some l1 => .nxt l1 m1
    | none => .bad
  | .cell i e, l, m => (evE cs false e l m).stm fun x m1 => match x with
    | .own xs => .nxt (l.set i (.ref m1.length)) (m1 ++ [.lst xs])
    | _ => .bad
  | .frz i, l, m => match l[i]? with
    | some d => .nxt (l.set i (Mp.frz d)) m
    | none => .bad
  | .ret e, l, m => (evE cs false e l m).stm fun x m1 => .ret x m1
  | .reto i, l, m => match l[i]? with
    | some .unb => .bad
    | some d => .ret d m
    | none => .bad
  | .ite c a b, l, m => (evE cs true c l m).stm fun x m1 => match truth x with
    | some true => evSs cs w a l m1
    | some false => evSs cs w b l m1
    | none => .bad
  | .loop t src body, l, m => (evE cs false src l m).stm fun s m1 => match items (Mp.frz s) with
    | none => .bad
    | some xs => forGo (fun x l m => match t.put x l with
      | some l1 => evSs cs w body l1 m
      | none => .bad) xs l m1
  | .whil c body, l, m => whileGo (fun l m => evE cs true c l m) (fun l m => evSs cs w body l m) w l m
  | .cont, l, m => .cnt l m
  | .brk, l, m => .brk l m
  | .app i e, l, m => (evE cs false e l m).stm fun x m1 => match ownAt i l with
    | some xs => if Nat.blt xs.length LIM then .nxt (l.set i (.own (xs ++ [Mp.frz x]))) m1 else .bad
    | none => .bad
  | .ext i e, l, m => (evE cs true e l m).stm fun x m1 => match ownAt i l, listOf x with
    | some xs, some ys => if Nat.ble (xs.length + ys.length) LIM then .nxt (l.set i (.own (xs ++ ys))) m1 else .bad
    | _, _ => .bad
  | .pop i, l, m => match ownAt i l with
    | some xs => match xs[xs.length - 1]? with
      | some _ => .nxt (l.set i (.own xs.dropLast)) m
      | none => .bad
    | none => .bad
  | .popto t i, l, m => match ownAt i l with
    | some xs => match xs[xs.length - 1]? with
      | some x => match t.put x (l.set i (.own xs.dropLast)) with
        | some l1 => .nxt l1 m
        | none => .bad
      | none => .bad
    | none => .bad
  | .ins i a e, l, m => (evE cs true a l m).stm fun x m1 => (evE cs false e l m1).stm fun v m2 => match ownAt i l, intOf x with
    | some xs, some k => if decide (0 ≤ k) && decide (k ≤ xs.length) && Nat.blt xs.length LIM then .nxt (l.set i (.own (xs.take k.toNat ++ Mp.frz v :: xs.drop k.toNat))) m2 else .bad
    | _, _ => .bad
  | .seti i a e, l, m => (evE cs false e l m).stm fun v m1 => (evE cs true a l m1).stm fun x m2 => match ownAt i l, intOf x with
    | some xs, some k => match ixAt k xs.length with
      | some j => .nxt (l.set i (.own (xs.set j (Mp.frz v)))) m2
      | none => .bad
    | _, _ => .bad
  | .setr r a e, l, m => (evE cs false e l m).stm fun v m1 => (evE cs true r l m1).stm fun o m2 => (evE cs true a l m2).stm fun x m3 => match cellAt o m3, intOf x with
    | some (c, xs), some k => match ixAt k xs.length with
      | some j => .nxt l (m3.set c (.lst (xs.set j (Mp.frz v))))
      | none => .bad
    | _, _ => .bad
  | .dput i a e, l, m => (evE cs false e l m).stm fun v m1 => (evE cs true a l m1).stm fun k m2 => match l[i]? with
    | some (.odct ks vs) => if isTK k && Nat.blt ks.length LIM then .nxt (l.set i (.odct (dictPut k (Mp.frz v) ks vs).1 (dictPut k (Mp.frz v) ks vs).2)) m2 else .bad
    | _ => .bad
  | .aug i o e, l, m => (getV i l m).stm fun x m0 => (evE cs true e l m0).stm fun y m1 => match intOf x, intOf y with
    | some a, some b => (opt (binop o (.int a) (.int b)) m1).stm fun z m2 => .nxt (l.set i z) m2
    | _, _ => .bad
def evSs (cs : CallS) (w : Nat) : List S → Loc → Mem → ResS
  | [], l, m => .nxt l m
  | s :: ss, l, m => (evS cs w s l m).then fun l1 m1 => evSs cs w ss l1 m1
end

/-- a def: how many parameters, how many names, its body -/
structure Fn where
  np : Nat
  ns : Nat
  body : List S
def runB (cs : CallS) (w : Nat) (f : Fn) (xs : List D) (m : Mem) : Res D :=
  if xs.length == f.np then
    match evSs cs w f.body (xs ++ List.replicate (f.ns - f.np) .unb) m with
    | .nxt _ m1 => .ok .non m1
    | .ret v m1 => .ok v m1
    | .exc x m1 => .exc x m1
    | _ => .bad
  else .bad
abbrev Tab := Nat → Option Fn
def callI (T : Tab) (w : Nat) : Nat → CallS
  | 0, _, _, _ => .bad
  | n + 1, f, xs, m => match T f with
    | some fn => runB (callI T w n) w fn xs m
    | none => .bad
end Mp

set_option Elab.async false
set_option linter.all false
set_option maxRecDepth 100000
/-! MpB: how values, cells and names of the small language stand in a heap. -/
namespace Mp
open PySem L2

def Exh (H H' : Hp) : Prop := ∀ a o, H a = some o → H' a = some o
theorem Exh.refl (H : Hp) : Exh H H := fun _ _ h => h
theorem Exh.trans {H H1 H2 : Hp} (a : Exh H H1) (b : Exh H1 H2) : Exh H H2 := fun x o h => b x o (a x o h)
theorem Exh.new {H : Hp} {p : Addr} {o : HO} (h : H p = none) : Exh H (upd H p o) := fun a u e => by
  rw [upd_ne (ne_of_none e h)]; exact e
theorem rd_ex {H H' : Hp} {a : Addr} {u : HO} (e : Exh H H') (h : Rd H a u) : Rd H' a u := by
  rcases h with h | ⟨o, h⟩
  · exact .inl (e a _ h)
  · exact .inr ⟨o, e a _ h⟩
section
variable {K : PySem.W.Frag}
theorem sql_ex {H H' : Hp} {a : Addr} {xs : List V} (e : Exh H H') (h : SqL K H a xs) : SqL K H' a xs := by
  rcases h with h | h
  · exact .inl (rd_ex e h)
  · exact .inr h
theorem sqt_ex {H H' : Hp} {a : Addr} {xs : List V} (e : Exh H H') (h : SqT K H a xs) : SqT K H' a xs := by
  rcases h with h | h
  · exact .inl (rd_ex e h)
  · exact .inr h
end

/-! ### a value that stands -/
def keyD : Key → D
  | .inl i => .int i
  | .inr x => .str x
/-- a tuple key -/
def tkD (k : List Key) : D := .tup (k.map keyD)
mutual
inductive Rep (K : PySem.W.Frag) (F : Hp) (io : List Addr) : V → D → Prop
  | non : Rep K F io .non .non
  | bl (b : Bool) : Rep K F io (.bl b) (.bl b)
  | int (i : Int) : Rep K F io (.int i) (.int i)
  | str (x : Str) : Rep K F io (.str x) (.str x)
  | lst {a : Addr} {xs : List V} {ds : List D} : F a = some (.lst xs) → Reps K F io xs ds → Rep K F io (.ref a) (.lst ds)
  | scr {a : Addr} {xs : List V} {ds : List D} : SqL K F a xs → Reps K F io xs ds → Rep K F io (.ref a) (.scr ds)
  | tup {a : Addr} {xs : List V} {ds : List D} : F a = some (.tup xs) → Reps K F io xs ds → Rep K F io (.ref a) (.tup ds)
  | dct {a : Addr} {kvs : List (List Key × V)} {ds : List D} : F a = some (.dT kvs) → Reps K F io (kvs.map (·.2)) ds → Rep K F io (.ref a) (.dct (kvs.map fun p => tkD p.1) ds)
  | ref {a : Addr} {l : Nat} : io[l]? = some a → Rep K F io (.ref a) (.ref l)
inductive Reps (K : PySem.W.Frag) (F : Hp) (io : List Addr) : List V → List D → Prop
  | nil : Reps K F io [] []
  | cons {v : V} {vs : List V} {d : D} {ds : List D} : Rep K F io v d → Reps K F io vs ds → Reps K F io (v :: vs) (d :: ds)
end
section
variable {K : PySem.W.Frag} {F F' : Hp} {io io' : List Addr}
theorem pre_get {α : Type} {l l' : List α} {i : Nat} {a : α} (h : l <+: l') (e : l[i]? = some a) : l'[i]? = some a := by
  obtain ⟨t, rfl⟩ := h
  have := (List.getElem?_eq_some_iff.mp e).1
  rw [List.getElem?_append_left this]; exact e
mutual
theorem Rep.mono (e : Exh F F') (p : io <+: io') : ∀ {v : V} {d : D}, Rep K F io v d → Rep K F' io' v d
  | _, _, .non => .non
  | _, _, .bl b => .bl b
  | _, _, .int i => .int i
  | _, _, .str x => .str x
  | _, _, .lst h r => .lst (e _ _ h) (Reps.mono e p r)
  | _, _, .scr h r => .scr (sql_ex e h) (Reps.mono e p r)
  | _, _, .tup h r => .tup (e _ _ h) (Reps.mono e p r)
  | _, _, .dct h r => .dct (e _ _ h) (Reps.mono e p r)
  | _, _, .ref h => .ref (pre_get p h)
theorem Reps.mono (e : Exh F F') (p : io <+: io') : ∀ {v : List V} {d : List D}, Reps K F io v d → Reps K F' io' v d
  | _, _, .nil => .nil
  | _, _, .cons a b => .cons (Rep.mono e p a) (Reps.mono e p b)
end
theorem Reps.len : ∀ {v : List V} {d : List D}, Reps K F io v d → v.length = d.length
  | _, _, .nil => rfl
  | _, _, .cons _ r => congrArg (· + 1) r.len
theorem Reps.get : ∀ {v : List V} {d : List D} {i : Nat} {y : D}, Reps K F io v d → d[i]? = some y → ∃ x, v[i]? = some x ∧ Rep K F io x y
  | _, _, _, _, .nil, e => by simp at e
  | _, _, 0, _, .cons a _, e => by simp at e; subst e; exact ⟨_, rfl, a⟩
  | _, _, i + 1, y, .cons _ b, e => by
    obtain ⟨x, h1, h2⟩ := Reps.get (i := i) (y := y) b (by simpa using e)
    exact ⟨x, by simpa using h1, h2⟩
theorem Reps.append : ∀ {v w : List V} {d e : List D}, Reps K F io v d → Reps K F io w e → Reps K F io (v ++ w) (d ++ e)
  | _, _, _, _, .nil, s => s
  | _, _, _, _, .cons a b, s => .cons a (Reps.append b s)
theorem Reps.take : ∀ {v : List V} {d : List D} (n : Nat), Reps K F io v d → Reps K F io (v.take n) (d.take n)
  | _, _, 0, _ => .nil
  | _, _, _ + 1, .nil => .nil
  | _, _, n + 1, .cons a b => .cons a (Reps.take n b)
theorem Reps.drop : ∀ {v : List V} {d : List D} (n : Nat), Reps K F io v d → Reps K F io (v.drop n) (d.drop n)
  | _, _, 0, h => h
  | _, _, _ + 1, .nil => .nil
  | _, _, n + 1, .cons _ b => Reps.drop n b
theorem Reps.set {x : V} {y : D} (r : Rep K F io x y) : ∀ {v : List V} {d : List D} (i : Nat), Reps K F io v d → Reps K F io (v.set i x) (d.set i y)
  | _, _, _, .nil => .nil
  | _, _, 0, .cons _ b => .cons r b
  | _, _, i + 1, .cons a b => .cons a (Reps.set r i b)
theorem Reps.reverse : ∀ {v : List V} {d : List D}, Reps K F io v d → Reps K F io v.reverse d.reverse
  | _, _, .nil => .nil
  | _, _, .cons a b => by
    rw [List.reverse_cons, List.reverse_cons]
    exact b.reverse.append (.cons a .nil)
theorem Reps.empty {v : List V} {d : List D} (r : Reps K F io v d) : v.isEmpty = d.isEmpty := by
  cases r <;> rfl
end

/-! ### from a heap to a later one -/
structure Grow (F : Hp) (io : List Addr) (H : Hp) (F' : Hp) (io' : List Addr) (H' : Hp) : Prop where
  ex : Exh F F'
  pre : io <+: io'
  keep : ∀ a o, H a = some o → a ∉ io → H' a = some o
  nf : ∀ a, F' a ≠ none → F a ≠ none ∨ H a = none
  ni : ∀ a, a ∈ io' → a ∈ io ∨ H a = none
  al : ∀ a, H a ≠ none → H' a ≠ none
section
variable {F F1 F2 : Hp} {io io1 io2 : List Addr} {H H1 H2 : Hp}
theorem Grow.refl (F : Hp) (io : List Addr) (H : Hp) : Grow F io H F io H := ⟨Exh.refl F, List.prefix_refl _, fun _ _ h _ => h, fun _ h => .inl h, fun _ h => .inl h, fun _ h => h⟩
theorem Grow.back (g : Grow F io H F1 io1 H1) {a : Addr} (h : H1 a = none) : H a = none := by
  cases e : H a with
  | none => rfl
  | some o => exact absurd h (g.al a (by rw [e]; exact fun z => nomatch z))
theorem Grow.trans (a : Grow F io H F1 io1 H1) (b : Grow F1 io1 H1 F2 io2 H2) : Grow F io H F2 io2 H2 where
  ex := a.ex.trans b.ex
  pre := a.pre.trans b.pre
  keep := fun x o h n => b.keep x o (a.keep x o h n) fun z => by
    rcases a.ni x z with z | z
    · exact n z
    · rw [h] at z; cases z
  nf := fun x h => by
    rcases b.nf x h with z | z
    · exact a.nf x z
    · exact .inr (a.back z)
  ni := fun x h => by
    rcases b.ni x h with z | z
    · exact a.ni x z
    · exact .inr (a.back z)
  al := fun x h => b.al x (a.al x h)
/-- a new object, of no one's notice -/
theorem Grow.new {p : Addr} {o : HO} (h : H p = none) : Grow F io H F io (upd H p o) where
  ex := Exh.refl F
  pre := List.prefix_refl _
  keep := fun a u e _ => by rw [upd_ne (ne_of_none e h)]; exact e
  nf := fun _ h => .inl h
  ni := fun _ h => .inl h
  al := fun a n => by
    cases e : H a with
    | none => exact absurd e n
    | some u => rw [upd_ne (ne_of_none e h), e]; exact fun z => nomatch z
/-- an object of no one's is frozen -/
theorem Grow.frz {p : Addr} {o : HO} (hf : F p = none) (hp : H p = none) : Grow F io H (upd F p o) io H where
  ex := Exh.new hf
  pre := List.prefix_refl _
  keep := fun _ _ e _ => e
  nf := fun a h => by
    by_cases e : a = p
    · subst e; exact .inr hp
    · rw [upd_ne e] at h; exact .inl h
  ni := fun _ h => .inl h
  al := fun _ h => h
end

/-! ### cells -/
def CellR (K : PySem.W.Frag) (F : Hp) (io : List Addr) (H : Hp) (a : Addr) : Cell → Prop
  | .lst ds => ∃ xs, H a = some (.lst xs) ∧ Reps K F io xs ds
  | .inst _ _ _ => False
  | .var _ => False
structure SimM (K : PySem.W.Frag) (F : Hp) (io : List Addr) (m : Mem) (H : Hp) : Prop where
  ex : Exh F H
  len : io.length = m.length
  nd : io.Nodup
  nf : ∀ a, a ∈ io → F a = none
  cell : ∀ (k : Nat) (a : Addr) (c : Cell), io[k]? = some a → m[k]? = some c → CellR K F io H a c
section
variable {K : PySem.W.Frag} {F F' : Hp} {io io' : List Addr} {m : Mem} {H H' : Hp}
theorem CellR.there {a : Addr} {c : Cell} (h : CellR K F io H a c) : H a ≠ none := by
  cases c with
  | lst ds => obtain ⟨xs, e, _⟩ := h; rw [e]; exact fun z => nomatch z
  | inst _ _ _ => exact h.elim
  | var _ => exact h.elim
theorem SimM.there (s : SimM K F io m H) {a : Addr} (h : a ∈ io) : H a ≠ none := by
  obtain ⟨k, e⟩ := List.mem_iff_getElem?.mp h
  have hk := (List.getElem?_eq_some_iff.mp e).1
  rw [s.len] at hk
  exact (s.cell k a _ e (List.getElem?_eq_getElem hk)).there
theorem SimM.notin (s : SimM K F io m H) {a : Addr} (h : H a = none) : a ∉ io := fun z => s.there z h
theorem SimM.fnone (s : SimM K F io m H) {a : Addr} (h : H a = none) : F a = none := by
  cases e : F a with
  | none => rfl
  | some o => rw [s.ex a o e] at h; cases h
theorem CellR.mono {a : Addr} {c : Cell} (e : Exh F F') (p : io <+: io') (k : ∀ o, H a = some o → H' a = some o) (h : CellR K F io H a c) : CellR K F' io' H' a c := by
  cases c with
  | lst ds => obtain ⟨xs, e1, r⟩ := h; exact ⟨xs, k _ e1, r.mono e p⟩
  | inst _ _ _ => exact h.elim
  | var _ => exact h.elim
/-- a new object beside -/
theorem SimM.new {p : Addr} {o : HO} (s : SimM K F io m H) (h : H p = none) : SimM K F io m (upd H p o) where
  ex := s.ex.trans (Exh.new h)
  len := s.len
  nd := s.nd
  nf := s.nf
  cell := fun k a c e1 e2 => (s.cell k a c e1 e2).mono (Exh.refl F) (List.prefix_refl _) fun u e => Exh.new h a u e
/-- an object is frozen -/
theorem SimM.frz {p : Addr} {o : HO} (s : SimM K F io m H) (hf : F p = none) (hp : H p = some o) (hi : p ∉ io) : SimM K (upd F p o) io m H where
  ex := fun a u e => by
    by_cases z : a = p
    · subst z; rw [upd_same] at e; cases e; exact hp
    · rw [upd_ne z] at e; exact s.ex a u e
  len := s.len
  nd := s.nd
  nf := fun a h => by
    rw [upd_ne (fun z : a = p => hi (by rw [← z]; exact h))]; exact s.nf a h
  cell := fun k a c e1 e2 => (s.cell k a c e1 e2).mono (Exh.new hf) (List.prefix_refl _) fun _ e => e
end

/-! ### what an expression hands back; H0: the heap ahead of it -/
def ResR (K : PySem.W.Frag) (F : Hp) (io : List Addr) (H0 H : Hp) (v : V) (d : D) : Prop :=
  match d with
  | .own ds => ∃ p xs, v = .ref p ∧ H p = some (.lst xs) ∧ Reps K F io xs ds ∧ F p = none ∧ p ∉ io ∧ H0 p = none
  | .odct ks ds => ∃ p kvs, v = .ref p ∧ H p = some (.dT kvs) ∧ (ks = kvs.map fun p => tkD p.1) ∧ Reps K F io (kvs.map (·.2)) ds ∧ F p = none ∧ p ∉ io ∧ H0 p = none
  | d => Rep K F io v d
/-- what may be looked at -/
def Lk (K : PySem.W.Frag) (F : Hp) (io : List Addr) (H : Hp) (v : V) (d : D) : Prop :=
  Rep K F io v d ∨ (∃ p xs ds, (d = .own ds ∨ d = .lst ds) ∧ v = .ref p ∧ H p = some (.lst xs) ∧ Reps K F io xs ds ∧ p ∉ io) ∨
    ∃ p kvs ks ds, (d = .odct ks ds ∨ d = .dct ks ds) ∧ v = .ref p ∧ H p = some (.dT kvs) ∧ (ks = kvs.map fun p => tkD p.1) ∧ Reps K F io (kvs.map (·.2)) ds ∧ p ∉ io
def ResX (b : Bool) (K : PySem.W.Frag) (F : Hp) (io : List Addr) (H0 H : Hp) (v : V) (d : D) : Prop :=
  ResR K F io H0 H v d ∨ (b = true ∧ Lk K F io H v d)
section
variable {K : PySem.W.Frag} {F F' : Hp} {io io' : List Addr} {m : Mem} {H0 H H' : Hp} {v : V} {d : D} {b : Bool}
theorem ResR.lk (h : ResR K F io H0 H v d) : Lk K F io H v d := by
  cases d with
  | own ds => obtain ⟨p, xs, e, hp, r, _, ni, _⟩ := h; exact .inr (.inl ⟨p, xs, ds, .inl rfl, e, hp, r, ni⟩)
  | odct ks ds => obtain ⟨p, kvs, e, hp, ek, r, _, ni, _⟩ := h; exact .inr (.inr ⟨p, kvs, ks, ds, .inl rfl, e, hp, ek, r, ni⟩)
  | _ => exact .inl h
theorem ResX.lk (h : ResX b K F io H0 H v d) : Lk K F io H v d := h.elim (·.lk) (·.2)
theorem fnone_of (g : Grow F io H F' io' H') {p : Addr} {o : HO} (hp : H p = some o) (nf : F p = none) : F' p = none := by
  cases q : F' p with
  | none => rfl
  | some u =>
    rcases g.nf p (by rw [q]; exact fun z => nomatch z) with z | z
    · exact absurd nf z
    · rw [hp] at z; cases z
theorem notin_of (g : Grow F io H F' io' H') {p : Addr} {o : HO} (hp : H p = some o) (ni : p ∉ io) : p ∉ io' := fun z => by
  rcases g.ni p z with z | z
  · exact ni z
  · rw [hp] at z; cases z
theorem Lk.mono (g : Grow F io H F' io' H') (h : Lk K F io H v d) : Lk K F' io' H' v d := by
  rcases h with h | ⟨p, xs, ds, e, ev, hp, r, ni⟩ | ⟨p, kvs, ks, ds, e, ev, hp, ek, r, ni⟩
  · exact .inl (h.mono g.ex g.pre)
  · exact .inr (.inl ⟨p, xs, ds, e, ev, g.keep p _ hp ni, r.mono g.ex g.pre, notin_of g hp ni⟩)
  · exact .inr (.inr ⟨p, kvs, ks, ds, e, ev, g.keep p _ hp ni, ek, r.mono g.ex g.pre, notin_of g hp ni⟩)
theorem ResR.mono (g : Grow F io H F' io' H') (h : ResR K F io H0 H v d) : ResR K F' io' H0 H' v d := by
  cases d with
  | own ds =>
    obtain ⟨p, xs, e, hp, r, nf, ni, n0⟩ := h
    exact ⟨p, xs, e, g.keep p _ hp ni, r.mono g.ex g.pre, fnone_of g hp nf, notin_of g hp ni, n0⟩
  | odct ks ds =>
    obtain ⟨p, kvs, e, hp, ek, r, nf, ni, n0⟩ := h
    exact ⟨p, kvs, e, g.keep p _ hp ni, ek, r.mono g.ex g.pre, fnone_of g hp nf, notin_of g hp ni, n0⟩
  | unb => cases h
  | _ => exact Rep.mono g.ex g.pre h
/-- it was new behind an earlier heap too -/
theorem ResR.earlier {H1 : Hp} (z : ∀ a, H0 a = none → H1 a = none) (h : ResR K F io H0 H v d) : ResR K F io H1 H v d := by
  cases d with
  | own ds => obtain ⟨p, xs, e, hp, r, nf, ni, n0⟩ := h; exact ⟨p, xs, e, hp, r, nf, ni, z p n0⟩
  | odct ks ds => obtain ⟨p, kvs, e, hp, ek, r, nf, ni, n0⟩ := h; exact ⟨p, kvs, e, hp, ek, r, nf, ni, z p n0⟩
  | _ => exact h
theorem ResX.earlier {H1 : Hp} (z : ∀ a, H0 a = none → H1 a = none) (h : ResX b K F io H0 H v d) : ResX b K F io H1 H v d := h.elim (fun h => .inl (h.earlier z)) .inr
theorem frz_grow {F1 : Hp} {io1 : List Addr} {H1 : Hp} {p : Addr} {o : HO} (g : Grow F io H F1 io1 H1) (nf : F1 p = none) (n0 : H p = none) : Grow F io H (upd F1 p o) io1 H1 := ⟨g.ex.trans (Exh.new nf), g.pre, g.keep, fun a h => by
    by_cases z : a = p
    · subst z; exact .inr n0
    · rw [upd_ne z] at h; exact g.nf a h, g.ni, g.al⟩
/-- kept: shared from now on -/
theorem ResR.froze {F1 : Hp} {io1 : List Addr} {H1 : Hp} (g : Grow F io H F1 io1 H1) (s : SimM K F1 io1 m H1) (h : ResR K F1 io1 H H1 v d) : ∃ F2, Grow F io H F2 io1 H1 ∧ SimM K F2 io1 m H1 ∧ Rep K F2 io1 v (frz d) := by
  cases d with
  | own ds =>
    obtain ⟨p, xs, e, hp, r, nf, ni, n0⟩ := h
    refine ⟨upd F1 p (.lst xs), frz_grow g nf n0, s.frz nf hp ni, ?_⟩
    subst e; exact .lst upd_same (r.mono (Exh.new nf) (List.prefix_refl _))
  | odct ks ds =>
    obtain ⟨p, kvs, e, hp, ek, r, nf, ni, n0⟩ := h
    refine ⟨upd F1 p (.dT kvs), frz_grow g nf n0, s.frz nf hp ni, ?_⟩
    subst e ek; exact .dct upd_same (r.mono (Exh.new nf) (List.prefix_refl _))
  | _ => exact ⟨F1, g, s, h⟩
end

/-! ### names -/
def SlotR (K : PySem.W.Frag) (H0 F : Hp) (io : List Addr) (H : Hp) (s : Option (Option V)) (d : D) : Prop :=
  match d with
  | .unb => True
  | .own ds => ∃ p xs, s = some (some (.ref p)) ∧ H p = some (.lst xs) ∧ Reps K F io xs ds ∧ F p = none ∧ p ∉ io ∧ H0 p = none
  | .odct ks ds => ∃ p kvs, s = some (some (.ref p)) ∧ H p = some (.dT kvs) ∧ (ks = kvs.map fun p => tkD p.1) ∧ Reps K F io (kvs.map (·.2)) ds ∧ F p = none ∧ p ∉ io ∧ H0 p = none
  | d => ∃ v, s = some (some v) ∧ Rep K F io v d
def isOwn : D → Bool
  | .own _ => true
  | .odct _ _ => true
  | _ => false
structure Locs (K : PySem.W.Frag) (H0 F : Hp) (io : List Addr) (l : Loc) (st : St) (H : Hp) : Prop where
  len : l.length = st.length
  slot : ∀ (i : Nat) (d : D), l[i]? = some d → SlotR K H0 F io H st[i]? d
  sep : ∀ (i j : Nat) (d e : D) (p : Addr), i ≠ j → l[i]? = some d → l[j]? = some e → isOwn d = true → isOwn e = true → st[i]? = some (some (.ref p)) → st[j]? ≠ some (some (.ref p))
structure Gam where
  F : Hp
  io : List Addr
  H : Hp
structure Sim (K : PySem.W.Frag) (G : Gam) (F : Hp) (io : List Addr) (l : Loc) (m : Mem) (st : St) (H : Hp) : Prop where
  sm : SimM K F io m H
  gr : Grow G.F G.io G.H F io H
  lo : Locs K G.H F io l st H
section
variable {K : PySem.W.Frag} {G : Gam} {F F' : Hp} {io io' : List Addr} {m m' : Mem} {l : Loc} {st : St} {H0 H H' : Hp}
theorem SlotR.grow {s : Option (Option V)} {d : D} (g : Grow F io H F' io' H') (h : SlotR K H0 F io H s d) : SlotR K H0 F' io' H' s d := by
  cases d with
  | unb => trivial
  | own ds =>
    obtain ⟨p, xs, e, hp, r, nf, ni, n0⟩ := h
    exact ⟨p, xs, e, g.keep p _ hp ni, r.mono g.ex g.pre, fnone_of g hp nf, notin_of g hp ni, n0⟩
  | odct ks ds =>
    obtain ⟨p, kvs, e, hp, ek, r, nf, ni, n0⟩ := h
    exact ⟨p, kvs, e, g.keep p _ hp ni, ek, r.mono g.ex g.pre, fnone_of g hp nf, notin_of g hp ni, n0⟩
  | _ => obtain ⟨v, e, r⟩ := h; exact ⟨v, e, r.mono g.ex g.pre⟩
theorem Locs.grow (g : Grow F io H F' io' H') (h : Locs K H0 F io l st H) : Locs K H0 F' io' l st H' := ⟨h.len, fun i d e => (h.slot i d e).grow g, h.sep⟩
theorem Sim.grow (s : Sim K G F io l m st H) (g : Grow F io H F' io' H') (sm : SimM K F' io' m' H') : Sim K G F' io' l m' st H' := ⟨sm, s.gr.trans g, s.lo.grow g⟩
end
end Mp

set_option Elab.async false
set_option linter.all false
set_option maxRecDepth 100000
set_option maxHeartbeats 1000000
/-! MpC: expressions. -/
namespace Mp
open PySem PySem.Spec PyProof.Rows L2

theorem imp_e {X : Cx} {e : Expr} {t t' : TE} (h : PE X e t) (i : ∀ st H Q, t' st H Q → t st H Q) : PE X e t' := ⟨fun pins s st H Q I q => h.run pins s st H Q I (i _ _ _ q)⟩
theorem imp_t {X : Cx} {e : Expr} {t t' : TT} (h : PT X e t) (i : ∀ st H Q, t' st H Q → t st H Q) : PT X e t' := ⟨fun pins s st H Q I q => h.run pins s st H Q I (i _ _ _ q)⟩
theorem imp_a {X : Cx} {es : List Expr} {t t' : TA} (h : PA X es t) (i : ∀ st H Q, t' st H Q → t st H Q) : PA X es t' := ⟨fun pos pins s st H Q I q => h.run pos pins s st H Q I (i _ _ _ q)⟩

abbrev EvL := Loc → Mem → Res D
/-- the reading of an expression that comes to what g says -/
def tE (K : PySem.W.Frag) (G : Gam) (b : Bool) (g : EvL) : TE := fun st H Q => ∃ F io l m, Sim K G F io l m st H ∧ ∃ d m', g l m = .ok d m' ∧
  ∀ v F' io' H', Grow F io H F' io' H' → SimM K F' io' m' H' → ResX b K F' io' H H' v d → Q v H'
def tTt (K : PySem.W.Frag) (G : Gam) (g : EvL) : TT := fun st H Q => ∃ F io l m, Sim K G F io l m st H ∧ ∃ d m' c, g l m = .ok d m' ∧ truth d = some c ∧
  ∀ F' io' H', Grow F io H F' io' H' → SimM K F' io' m' H' → Q c H'
/-- several that are kept -/
def tAs (K : PySem.W.Frag) (G : Gam) (g : Loc → Mem → Res (List D)) : TA := fun st H Q => ∃ F io l m, Sim K G F io l m st H ∧ ∃ ds m', g l m = .ok ds m' ∧
  ∀ vs F' io' H', Grow F io H F' io' H' → SimM K F' io' m' H' → Reps K F' io' vs ds → Q vs H'
inductive Lks (K : PySem.W.Frag) (F : Hp) (io : List Addr) (H : Hp) : List V → List D → Prop
  | nil : Lks K F io H [] []
  | cons {v : V} {vs : List V} {d : D} {ds : List D} : Lk K F io H v d → Lks K F io H vs ds → Lks K F io H (v :: vs) (d :: ds)
/-- several that are looked at -/
def tAb (K : PySem.W.Frag) (G : Gam) (g : Loc → Mem → Res (List D)) : TA := fun st H Q => ∃ F io l m, Sim K G F io l m st H ∧ ∃ ds m', g l m = .ok ds m' ∧
  ∀ vs F' io' H', Grow F io H F' io' H' → SimM K F' io' m' H' → Lks K F' io' H' vs ds → Q vs H'

theorem bind_ok {α β : Type} {r : Res α} {k : α → Mem → Res β} {b : β} {m : Mem} (h : r.bind k = .ok b m) : ∃ a m1, r = .ok a m1 ∧ k a m1 = .ok b m := by
  cases r with
  | ok a m1 => exact ⟨a, m1, rfl, h⟩
  | exc _ _ => cases h
  | bad => cases h
theorem opt_ok {α : Type} {o : Option α} {m m' : Mem} {a : α} (h : opt o m = .ok a m') : o = some a ∧ m' = m := by
  cases o with
  | none => cases h
  | some b => cases h; exact ⟨rfl, rfl⟩

section
variable {X : Cx} {G : Gam} {b : Bool} {pos : Pos}

theorem grow_none {F F' : Hp} {io io' : List Addr} {H H' : Hp} (g : Grow F io H F' io' H') : ∀ a, H' a = none → H a = none := fun _ h => g.back h

/-! ### what is written, names -/
theorem s_lit {e : Expr} {v : V} {d : D} (h : PE X e (tC v)) (r : ∀ F io, Rep X.K F io v d) : PE X e (tE X.K G b fun _ m => .ok d m) := imp_e h fun st H Q q => by
  obtain ⟨F, io, l, m, S, d', m', e1, q⟩ := q
  cases e1
  refine q v F io H (.refl _ _ _) S.sm ?_
  have := r F io
  cases d <;> first | exact .inl this | cases this
theorem slot_get {K : PySem.W.Frag} {H0 F : Hp} {io : List Addr} {H : Hp} {s : Option (Option V)} {d : D} (h : SlotR K H0 F io H s d) (hu : d ≠ .unb) : ∃ v, s = some (some v) ∧ Lk K F io H v d ∧ (isOwn d = false → Rep K F io v d) := by
  cases d with
  | unb => exact absurd rfl hu
  | own ds => obtain ⟨p, xs, e, hp, r, nf, ni, n0⟩ := h; exact ⟨_, e, .inr (.inl ⟨p, xs, ds, .inl rfl, rfl, hp, r, ni⟩), fun z => nomatch z⟩
  | odct ks ds => obtain ⟨p, kvs, e, hp, ek, r, nf, ni, n0⟩ := h; exact ⟨_, e, .inr (.inr ⟨p, kvs, ks, ds, .inl rfl, rfl, hp, ek, r, ni⟩), fun z => nomatch z⟩
  | _ => obtain ⟨v, e, r⟩ := h; exact ⟨v, e, .inl r, fun _ => r⟩
theorem s_var {e : Expr} {i : Nat} (h : PE X e (tVar i)) : PE X e (tE X.K G b (getV i)) := imp_e h fun st H Q q => by
  obtain ⟨F, io, l, m, S, d, m', e1, q⟩ := q
  unfold getV at e1
  cases hd : l[i]? with
  | none => rw [hd] at e1; cases e1
  | some d0 =>
    rw [hd] at e1
    have sl := S.lo.slot i d0 hd
    have key : d0 ≠ .unb → isOwn d0 = false → d0 = d → m' = m → ∃ v, st[i]? = some (some v) ∧ Q v H := fun hu ho z1 z2 => by
      subst z1; subst z2
      obtain ⟨v, e2, _, r⟩ := slot_get sl hu
      refine ⟨v, e2, q v F io H (.refl _ _ _) S.sm (.inl ?_)⟩
      have r := r ho
      cases d0 <;> first | exact r | cases ho
    cases d0 <;> first | cases e1 <;> exact key (fun z => nomatch z) rfl rfl rfl | cases e1
theorem s_bor {e : Expr} {i : Nat} (h : PE X e (tVar i)) : PE X e (tE X.K G b fun l m => if b then borV i l m else .bad) := imp_e h fun st H Q q => by
  obtain ⟨F, io, l, m, S, d, m', e1, q⟩ := q
  cases b with
  | false => cases e1
  | true =>
    have e1 : borV i l m = .ok d m' := e1
    unfold borV at e1
    cases hd : l[i]? with
    | none => rw [hd] at e1; cases e1
    | some d0 =>
      rw [hd] at e1
      have sl := S.lo.slot i d0 hd
      have key : d0 ≠ .unb → isOwn d0 = false → d0 = d → m' = m → ∃ v, st[i]? = some (some v) ∧ Q v H := fun hu ho z1 z2 => by
        subst z1; subst z2
        obtain ⟨v, e2, lk, _⟩ := slot_get sl hu
        exact ⟨v, e2, q v F io H (.refl _ _ _) S.sm (.inr ⟨rfl, lk⟩)⟩
      cases d0 with
      | own ds =>
        cases e1
        obtain ⟨p, xs, e2, hp, r, nf, ni, n0⟩ := sl
        exact ⟨_, e2, q _ F io H (.refl _ _ _) S.sm (.inr ⟨rfl, .inr (.inl ⟨p, xs, ds, .inr rfl, rfl, hp, r, ni⟩)⟩)⟩
      | odct ks ds =>
        cases e1
        obtain ⟨p, kvs, e2, hp, ek, r, nf, ni, n0⟩ := sl
        exact ⟨_, e2, q _ F io H (.refl _ _ _) S.sm (.inr ⟨rfl, .inr (.inr ⟨p, kvs, ks, ds, .inr rfl, rfl, hp, ek, r, ni⟩)⟩)⟩
      | _ => first | cases e1 <;> exact key (fun z => nomatch z) rfl rfl rfl | cases e1

/-! ### operators -/
/-- an operator by values does what op says -/
def OpS (K : PySem.W.Frag) (r : R2) (op : D → D → Option D) : Prop := ∀ x y d, op x y = some d → ∀ F io m H v w, SimM K F io m H → Lk K F io H v x → Lk K F io H w y →
  ∀ Q : VK, (∀ u F' io' H', Grow F io H F' io' H' → SimM K F' io' m H' → ResR K F' io' H H' u d → Q u H') → r v w H Q
theorem s_two {ea eb : Expr} {ga gb : EvL} {e : Expr} {r : R2} {op : D → D → Option D} (ha : PE X ea (tE X.K G true ga)) (hb : PE X eb (tE X.K G true gb))
    (h : ∀ {ta tb : TE}, PE X ea ta → PE X eb tb → PE X e (tOp r ta tb)) (ho : OpS X.K r op) :
    PE X e (tE X.K G b fun l m => (ga l m).bind fun v m1 => (gb l m1).bind fun w m2 => opt (op v w) m2) := imp_e (h ha hb) fun st H Q q => by
  obtain ⟨F, io, l, m, S, d, m', e1, q⟩ := q
  obtain ⟨x, m1, e2, e1⟩ := bind_ok e1
  obtain ⟨y, m2, e3, e1⟩ := bind_ok e1
  obtain ⟨e4, rfl⟩ := opt_ok e1
  refine ⟨F, io, l, m, S, x, m1, e2, fun v F1 io1 H1 G1 S1 R1 => ?_⟩
  refine ⟨F1, io1, l, m1, S.grow G1 S1, y, m', e3, fun w F2 io2 H2 G2 S2 R2 => ?_⟩
  refine ho x y d e4 F2 io2 m' H2 v w S2 (R1.lk.mono G2) R2.lk Q fun u F3 io3 H3 G3 S3 R3 => ?_
  exact q u F3 io3 H3 ((G1.trans G2).trans G3) S3 (.inl (R3.earlier fun a z => (G1.trans G2).back z))

/-- a scalar answer -/
theorem scal_ans {K : PySem.W.Frag} {F : Hp} {io : List Addr} {m : Mem} {H : Hp} {u : V} {d : D} {Q : VK} (S : SimM K F io m H) (r : Rep K F io u d) (ho : isOwn d = false := by rfl)
    (k : ∀ u F' io' H', Grow F io H F' io' H' → SimM K F' io' m H' → ResR K F' io' H H' u d → Q u H') : Q u H := by
  refine k u F io H (.refl _ _ _) S ?_
  cases d <;> first | exact r | cases ho
/-- a new list, a new tuple -/
theorem list_ans {K : PySem.W.Frag} {F : Hp} {io : List Addr} {m : Mem} {H : Hp} {xs : List V} {ds : List D} {Q : VK} {p : Addr} (S : SimM K F io m H) (r : Reps K F io xs ds) (np : H p = none)
    (k : ∀ u F' io' H', Grow F io H F' io' H' → SimM K F' io' m H' → ResR K F' io' H H' u (.own ds) → Q u H') : Q (.ref p) (upd H p (.lst xs)) :=
  k _ F io _ (.new np) (S.new np) ⟨p, xs, rfl, upd_same, r, S.fnone np, S.notin np, np⟩
theorem tup_ans {K : PySem.W.Frag} {F : Hp} {io : List Addr} {m : Mem} {H : Hp} {xs : List V} {ds : List D} {Q : VK} {p : Addr} (S : SimM K F io m H) (r : Reps K F io xs ds) (np : H p = none)
    (k : ∀ u F' io' H', Grow F io H F' io' H' → SimM K F' io' m H' → ResR K F' io' H H' u (.tup ds) → Q u H') : Q (.ref p) (upd H p (.tup xs)) := by
  have S1 := S.new (o := .tup xs) np
  have nf : F p = none := S.fnone np
  refine k _ (upd F p (.tup xs)) io _ ⟨Exh.new nf, List.prefix_refl _, (Grow.new (F := F) (io := io) np).keep, fun a h => ?_, fun _ h => .inl h, (Grow.new (F := F) (io := io) np).al⟩ (S1.frz nf upd_same (S.notin np)) ?_
  · by_cases z : a = p
    · subst z; exact .inr np
    · rw [upd_ne z] at h; exact .inl h
  · exact Rep.tup upd_same (r.mono (Exh.new nf) (List.prefix_refl _))

section
variable {K : PySem.W.Frag} {F : Hp} {io : List Addr} {m : Mem} {H : Hp} {v : V}
def isCol : D → Bool
  | .own _ => true
  | .lst _ => true
  | .odct _ _ => true
  | .dct _ _ => true
  | _ => false
theorem lk_rep {d : D} (h : Lk K F io H v d) (hc : isCol d = false := by rfl) : Rep K F io v d := by
  rcases h with h | ⟨p, xs, ds, e | e, _⟩ | ⟨p, kvs, ks, ds, e | e, _⟩
  · exact h
  all_goals (subst e; cases hc)
theorem lk_int {i : Int} (h : Lk K F io H v (.int i)) : v = .int i := by cases lk_rep h; rfl
theorem lk_str {i : Str} (h : Lk K F io H v (.str i)) : v = .str i := by cases lk_rep h; rfl
theorem lk_bl {i : Bool} (h : Lk K F io H v (.bl i)) : v = .bl i := by cases lk_rep h; rfl
theorem lk_non (h : Lk K F io H v .non) : v = .non := by cases lk_rep h; rfl
theorem lk_tup {ds : List D} (S : SimM K F io m H) (h : Lk K F io H v (.tup ds)) : ∃ a xs, v = .ref a ∧ H a = some (.tup xs) ∧ Reps K F io xs ds := by
  cases lk_rep h with | tup h1 r => exact ⟨_, _, rfl, S.ex _ _ h1, r⟩
theorem lk_lst {ds : List D} (S : SimM K F io m H) (h : Lk K F io H v (.lst ds)) : ∃ a xs, v = .ref a ∧ H a = some (.lst xs) ∧ Reps K F io xs ds := by
  rcases h with h | ⟨p, xs, es, e | e, ev, hp, r, _⟩ | ⟨p, kvs, ks, ds, e | e, _⟩
  · cases h with | lst h r => exact ⟨_, _, rfl, S.ex _ _ h, r⟩
  · cases e
  · cases e; exact ⟨p, xs, ev, hp, r⟩
  · cases e
  · cases e
theorem lk_scr {ds : List D} (S : SimM K F io m H) (h : Lk K F io H v (.scr ds)) : ∃ a xs, v = .ref a ∧ SqL K H a xs ∧ Reps K F io xs ds := by
  cases lk_rep h with | scr h1 r => exact ⟨_, _, rfl, sql_ex S.ex h1, r⟩
theorem lk_own {ds : List D} (h : Lk K F io H v (.own ds)) : ∃ a xs, v = .ref a ∧ H a = some (.lst xs) ∧ Reps K F io xs ds := by
  rcases h with h | ⟨p, xs, es, e | e, ev, hp, r, _⟩ | ⟨p, kvs, ks, ds, e | e, _⟩
  · cases h
  · cases e; exact ⟨p, xs, ev, hp, r⟩
  · cases e
  · cases e
  · cases e
/-- a dict, however it came -/
theorem lk_dict {d : D} {ks ds : List D} (S : SimM K F io m H) (h : Lk K F io H v d) (e : d = .dct ks ds ∨ d = .odct ks ds) : ∃ a kvs, v = .ref a ∧ H a = some (.dT kvs) ∧ (ks = kvs.map fun p => tkD p.1) ∧ Reps K F io (kvs.map (·.2)) ds := by
  rcases h with h | ⟨p, xs, es, e2 | e2, _⟩ | ⟨p, kvs, ks, ds, e2 | e2, ev, hp, ek, r, _⟩
  · rcases e with e | e
    · subst e
      cases h with | dct h r => exact ⟨_, _, rfl, S.ex _ _ h, rfl, r⟩
    · subst e; cases h
  all_goals (subst e2; rcases e with e | e <;> cases e)
  all_goals exact ⟨p, kvs, ev, hp, ek, r⟩
/-- a list, however it came -/
theorem lk_list {d : D} {ds : List D} (S : SimM K F io m H) (h : Lk K F io H v d) (e : d = .lst ds ∨ d = .own ds) : ∃ a xs, v = .ref a ∧ H a = some (.lst xs) ∧ Reps K F io xs ds := by
  rcases e with e | e
  · subst e; exact lk_lst S h
  · subst e; exact lk_own h
theorem lk_seq {d : D} {ds : List D} (S : SimM K F io m H) (h : Lk K F io H v d) (e : seqItems d = some ds) : ∃ a xs, v = .ref a ∧ (H a = some (.lst xs) ∨ H a = some (.tup xs)) ∧ Reps K F io xs ds := by
  cases d <;> first
    | (cases e; obtain ⟨a, xs, e, h, r⟩ := lk_tup S h; exact ⟨a, xs, e, .inr h, r⟩)
    | (cases e; obtain ⟨a, xs, e, h, r⟩ := lk_list S h (.inl rfl); exact ⟨a, xs, e, .inl h, r⟩)
    | (cases e; obtain ⟨a, xs, e, h, r⟩ := lk_list S h (.inr rfl); exact ⟨a, xs, e, .inl h, r⟩)
    | cases e
theorem lk_truth {d : D} {c : Bool} (S : SimM K F io m H) (h : Lk K F io H v d) (e : truth d = some c) : TruV K v H c := by
  cases d with
  | non => cases e; rw [lk_non h]; rfl
  | bl _ => cases e; rw [lk_bl h]; rfl
  | int _ => cases e; rw [lk_int h]; rfl
  | str x =>
    rw [lk_str h]
    have e : (if Nat.ble x.length LIM then some (x.length != 0) else none) = some c := e
    split at e
    · rename_i hz
      have hz : x.length ≤ 1000000 := Nat.le_of_ble_eq_true hz
      have : c = (x.length != 0) := (Option.some.inj e).symm
      refine ⟨Nat.le_trans hz (by decide), ?_⟩
      rw [this]
      cases x.length <;> rfl
    · cases e
  | tup ds =>
    obtain ⟨a, xs, e1, h1, r⟩ := lk_tup S h
    subst e1
    cases e
    exact .inr (.inl ⟨xs, .inl (.inl h1), by rw [r.empty]⟩)
  | lst ds =>
    obtain ⟨a, xs, e1, h1, r⟩ := lk_list S h (.inl rfl)
    subst e1
    cases e
    exact .inl ⟨xs, .inl (.inl h1), by rw [r.empty]⟩
  | own ds =>
    obtain ⟨a, xs, e1, h1, r⟩ := lk_list S h (.inr rfl)
    subst e1
    cases e
    exact .inl ⟨xs, .inl (.inl h1), by rw [r.empty]⟩
  | _ => cases e
end
end
end Mp

set_option Elab.async false
set_option linter.all false
set_option maxRecDepth 100000
set_option maxHeartbeats 1000000
/-! MpD: operators by values. -/
namespace Mp
open PySem PySem.Spec PyProof.Rows L2

theorem opr_or {X : Cx} {f : Value → Value → Sem Value} {r r' : R2} (h : OpR X f r) (h' : OpR X f r') : OpR X f (fun x y H Q => r x y H Q ∨ r' x y H Q) := by
  intro pins s st H x y v u Q I rx ry q
  rcases q with q | q
  · exact h pins s st H x y v u Q I rx ry q
  · exact h' pins s st H x y v u Q I rx ry q
theorem lim_line {n : Nat} (h : Nat.ble n LIM = true) : n ≤ sizeLine := Nat.le_trans (Nat.le_of_ble_eq_true h) (by decide)
theorem lim_lt {n : Nat} (h : Nat.blt n LIM = true) : n < sizeLine := Nat.lt_of_lt_of_le (Nat.le_of_ble_eq_true h) (by decide)
theorem ite_some {α : Type} {c : Bool} {a b : α} (h : (if c = true then some a else none) = some b) : c = true ∧ a = b := by
  cases c with
  | true => exact ⟨rfl, Option.some.inj h⟩
  | false => cases h

/-! ### + -/
def rAddA (K : PySem.W.Frag) : R2 := fun x y H Q => (rI0 (fun i j => .int (i + j)) x y H Q ∨ (∃ i j, x = .str i ∧ y = .str j ∧ i.length + j.length ≤ sizeLine ∧ Q (.str (i ++ j)) H)) ∨ (rCatA K x y H Q ∨ rCat x y H Q)
theorem opr_add {X : Cx} : OpR X (binaryOp .Add) (rAddA X.K) := opr_or (opr_or op_add op_add_str) (opr_or op_catA op_cat)
section
variable {K : PySem.W.Frag}
theorem cat_l {F : Hp} {io : List Addr} {m : Mem} {H : Hp} {v w : V} {d e z : D} {xs ys : List D} (S : SimM K F io m H) (lv : Lk K F io H v d) (lw : Lk K F io H w e)
    (e1 : d = .lst xs ∨ d = .own xs) (e2 : e = .lst ys ∨ e = .own ys) (ez : (if Nat.ble (xs.length + ys.length) LIM = true then some (D.own (xs ++ ys)) else none) = some z)
    {Q : VK} (k : ∀ u F' io' H', Grow F io H F' io' H' → SimM K F' io' m H' → ResR K F' io' H H' u z → Q u H') : rAddA K v w H Q := by
  obtain ⟨hz, rfl⟩ := ite_some ez
  obtain ⟨a, us, rfl, ha, ra⟩ := lk_list S lv e1
  obtain ⟨b, ws, rfl, hb, rb⟩ := lk_list S lw e2
  exact .inr (.inr ⟨a, b, us, ws, rfl, rfl, ha, hb, by rw [ra.len, rb.len]; exact lim_line hz, fun p np => list_ans S (ra.append rb) np k⟩)
theorem ops_add : OpS K (rAddA K) (binop .add) := by
  intro x y d e F io m H v w S lv lw Q k
  cases x <;> cases y <;> first
    | (cases e
       have h1 := lk_int lv
       have h2 := lk_int lw
       subst h1 h2
       exact .inl (.inl ⟨_, _, rfl, rfl, scal_ans S (.int _) rfl k⟩))
    | (have h1 := lk_str lv
       have h2 := lk_str lw
       subst h1 h2
       obtain ⟨hz, rfl⟩ := ite_some e
       exact .inl (.inr ⟨_, _, rfl, rfl, lim_line hz, scal_ans S (.str _) rfl k⟩))
    | (obtain ⟨hz, rfl⟩ := ite_some e
       obtain ⟨a, us, rfl, ha, ra⟩ := lk_tup S lv
       obtain ⟨b, ws, rfl, hb, rb⟩ := lk_tup S lw
       refine .inr (.inl ⟨a, b, us, ws, rfl, rfl, .inl (.inl ha), .inl (.inl hb), by rw [ra.len, rb.len]; exact lim_line hz, fun z => ?_, fun z1 z2 => ?_, fun _ _ p np => tup_ans S (ra.append rb) np k⟩)
       · subst z
         cases ra
         exact k _ F io H (.refl _ _ _) S (lk_rep lw)
       · subst z2
         cases rb
         refine k _ F io H (.refl _ _ _) S ?_
         rw [List.append_nil]
         exact lk_rep lv)
    | exact cat_l S lv lw (.inl rfl) (.inl rfl) e k
    | exact cat_l S lv lw (.inl rfl) (.inr rfl) e k
    | exact cat_l S lv lw (.inr rfl) (.inl rfl) e k
    | exact cat_l S lv lw (.inr rfl) (.inr rfl) e k
    | cases e

/-! ### -, *, //, %, ** -/
theorem ops_sub : OpS K (rI0 fun i j => .int (i - j)) (binop .sub) := by
  intro x y d e F io m H v w S lv lw Q k
  cases x <;> cases y <;> first
    | (cases e
       have h1 := lk_int lv
       have h2 := lk_int lw
       subst h1 h2
       exact ⟨_, _, rfl, rfl, scal_ans S (.int _) rfl k⟩)
    | cases e
def rMulA (K : PySem.W.Frag) : R2 := fun x y H Q => rI CMulW (fun i j => .int (i * j)) x y H Q ∨ (rRepT K x y H Q ∨ rRep x y H Q)
theorem opr_mul {X : Cx} : OpR X (binaryOp .Mult) (rMulA X.K) := opr_or op_mulW (opr_or op_repT op_rep)
theorem Reps.rep {F : Hp} {io : List Addr} {v : List V} {d : List D} (r : Reps K F io v d) : ∀ n : Nat, Reps K F io (List.replicate n v).flatten (List.replicate n d).flatten
  | 0 => .nil
  | n + 1 => by
    rw [List.replicate_succ, List.replicate_succ, List.flatten_cons, List.flatten_cons]
    exact r.append (Reps.rep r n)
theorem repOk_of {k : Int} {xs : List D} (h : repOk k xs = true) : 2 ≤ k ∧ k ≤ 1000 ∧ xs.length ≤ 1000 ∧ xs ≠ [] := by
  unfold repOk at h
  simp only [Bool.and_eq_true, decide_eq_true_eq] at h
  obtain ⟨⟨⟨h1, h2⟩, h3⟩, h4⟩ := h
  refine ⟨h1, h2, Nat.le_of_ble_eq_true h3, fun e => ?_⟩
  subst e; cases h4
theorem rep_l {F : Hp} {io : List Addr} {m : Mem} {H : Hp} {v w : V} {d z : D} {xs : List D} {k : Int} (S : SimM K F io m H) (lv : Lk K F io H v d) (lw : Lk K F io H w (.int k))
    (e1 : d = .lst xs ∨ d = .own xs) (ez : (if repOk k xs = true then some (D.own (rep k xs)) else none) = some z)
    {Q : VK} (kk : ∀ u F' io' H', Grow F io H F' io' H' → SimM K F' io' m H' → ResR K F' io' H H' u z → Q u H') : rMulA K v w H Q := by
  obtain ⟨hz, rfl⟩ := ite_some ez
  obtain ⟨h1, h2, h3, h4⟩ := repOk_of hz
  obtain ⟨a, us, rfl, ha, ra⟩ := lk_list S lv e1
  have hw := lk_int lw
  subst hw
  have hl := ra.len
  have hb : us.length * k.toNat ≤ 1000 * 1000 := Nat.mul_le_mul (by omega) (by omega)
  have hs := sizeLine_eq
  exact .inr (.inr ⟨a, k, us, rfl, rfl, ha, by omega, by omega, by omega, fun p np => list_ans S (ra.rep _) np kk⟩)
theorem ops_mul : OpS K (rMulA K) (binop .mul) := by
  intro x y d e F io m H v w S lv lw Q k
  cases x <;> cases y <;> first
    | (have h1 := lk_int lv
       have h2 := lk_int lw
       subst h1 h2
       obtain ⟨hz, rfl⟩ := ite_some e
       exact .inl ⟨_, _, rfl, rfl, Nat.le_of_ble_eq_true hz, scal_ans S (.int _) rfl k⟩)
    | (obtain ⟨hz, rfl⟩ := ite_some e
       obtain ⟨h1, h2, h3, h4⟩ := repOk_of hz
       obtain ⟨a, us, rfl, ha, ra⟩ := lk_tup S lv
       have hw := lk_int lw
       subst hw
       have hl := ra.len
       exact .inr (.inl ⟨a, _, us, rfl, rfl, .inl (.inl ha), fun z => h4 (by subst z; cases ra; rfl), h1, h2, by omega, fun p np => tup_ans S (ra.rep _) np k⟩))
    | exact rep_l S lv lw (.inl rfl) e k
    | exact rep_l S lv lw (.inr rfl) e k
    | cases e
theorem op_fdivA {X : Cx} : OpR X (binaryOp .FloorDiv) (rI (fun _ j => j ≠ 0 ∧ j.natAbs.log2 < 9000) fun i j => .int (i.fdiv j)) := opI fun _ _ _ _ _ _ _ hc q => floordiv_int hc.1 q (.inl (PyProof.noPylong_of_log2 hc.2))
theorem ops_fdiv : OpS K (rI (fun _ j => j ≠ 0 ∧ j.natAbs.log2 < 9000) fun i j => .int (i.fdiv j)) (binop .fdiv) := by
  intro x y d e F io m H v w S lv lw Q k
  cases x <;> cases y <;> first
    | (have h1 := lk_int lv
       have h2 := lk_int lw
       subst h1 h2
       obtain ⟨hz, rfl⟩ := ite_some e
       unfold divOk at hz
       rw [Bool.and_eq_true] at hz
       exact ⟨_, _, rfl, rfl, ⟨by simpa using hz.1, Nat.le_of_ble_eq_true hz.2⟩, scal_ans S (.int _) rfl k⟩)
    | cases e
theorem ops_mod : OpS K (rI (fun _ j => j ≠ 0) fun i j => .int (i.fmod j)) (binop .mod) := by
  intro x y d e F io m H v w S lv lw Q k
  cases x <;> cases y <;> first
    | (have h1 := lk_int lv
       have h2 := lk_int lw
       subst h1 h2
       obtain ⟨hz, rfl⟩ := ite_some e
       exact ⟨_, _, rfl, rfl, by simpa using hz, scal_ans S (.int _) rfl k⟩)
    | cases e
theorem ops_pow : OpS K (rI CPow fun i j => .int (i ^ j.toNat)) (binop .pow) := by
  intro x y d e F io m H v w S lv lw Q k
  cases x <;> cases y <;> first
    | (have h1 := lk_int lv
       have h2 := lk_int lw
       subst h1 h2
       obtain ⟨hz, rfl⟩ := ite_some e
       unfold powOk at hz
       simp only [Bool.and_eq_true, decide_eq_true_eq] at hz
       exact ⟨_, _, rfl, rfl, ⟨hz.1.1, hz.1.2, hz.2⟩, scal_ans S (.int _) rfl k⟩)
    | cases e
end

/-! ### plain data as the library's data -/
mutual
def pyOf : D → PyData
  | .bl b => .bool b
  | .int i => .int i
  | .str s => .str s
  | .tup xs => .tuple (pyOfs xs)
  | .lst xs => .list (pyOfs xs)
  | .own xs => .list (pyOfs xs)
  | _ => .none
def pyOfs : List D → List PyData
  | [] => []
  | x :: xs => pyOf x :: pyOfs xs
end
mutual
theorem plain_lay : ∀ (n : Nat) (d : D), plain n d = true → (pyOf d).canLay0 = true ∧ (pyOf d).depth ≤ n + 1
  | n, .non, _ => ⟨rfl, by simp [pyOf, PyData.depth]⟩
  | n, .bl _, _ => ⟨rfl, by simp [pyOf, PyData.depth]⟩
  | n, .int _, _ => ⟨rfl, by simp [pyOf, PyData.depth]⟩
  | n, .str x, h => ⟨by cases n <;> simpa [plain, pyOf, PyData.canLay0] using h, by simp [pyOf, PyData.depth]⟩
  | n + 1, .tup xs, h => by
    obtain ⟨h1, h2⟩ := plains_lay n xs (by simpa [plain] using h)
    exact ⟨by simpa [pyOf, PyData.canLay0] using h1, by simp only [pyOf, PyData.depth]; omega⟩
  | n + 1, .lst xs, h => by
    obtain ⟨h1, h2⟩ := plains_lay n xs (by simpa [plain] using h)
    exact ⟨by simpa [pyOf, PyData.canLay0] using h1, by simp only [pyOf, PyData.depth]; omega⟩
  | n + 1, .own xs, h => by
    obtain ⟨h1, h2⟩ := plains_lay n xs (by simpa [plain] using h)
    exact ⟨by simpa [pyOf, PyData.canLay0] using h1, by simp only [pyOf, PyData.depth]; omega⟩
  | 0, .tup _, h => by simp [plain] at h
  | 0, .lst _, h => by simp [plain] at h
  | 0, .own _, h => by simp [plain] at h
  | n, .unb, h => by cases n <;> simp [plain] at h
  | n, .scr _, h => by cases n <;> simp [plain] at h
  | n, .dct _ _, h => by cases n <;> simp [plain] at h
  | n, .odct _ _, h => by cases n <;> simp [plain] at h
  | n, .set _, h => by cases n <;> simp [plain] at h
  | n, .itr _, h => by cases n <;> simp [plain] at h
  | n, .obj _ _ _, h => by cases n <;> simp [plain] at h
  | n, .exc _ _ _, h => by cases n <;> simp [plain] at h
  | n, .ref _, h => by cases n <;> simp [plain] at h
  | n, .clo _ _, h => by cases n <;> simp [plain] at h
theorem plains_lay : ∀ (n : Nat) (d : List D), plains n d = true → PyData.canLayAll0 (pyOfs d) = true ∧ PyData.depthAll (pyOfs d) ≤ n + 1
  | n, [], _ => ⟨rfl, by simp [pyOfs, PyData.depthAll]⟩
  | n, x :: xs, h => by
    simp only [plains, Bool.and_eq_true] at h
    obtain ⟨h1, h2⟩ := plain_lay n x h.1
    obtain ⟨h3, h4⟩ := plains_lay n xs h.2
    exact ⟨by simp [pyOfs, PyData.canLayAll0, h1, h3], by simp only [pyOfs, PyData.depthAll]; omega⟩
end
theorem plain_shaped {d : D} (h : plain DEEP d = true) : SeqAt.shaped (pyOf d) = true := by
  obtain ⟨h1, h2⟩ := plain_lay _ d h
  unfold SeqAt.shaped
  rw [h1, Bool.true_and]
  exact decide_eq_true (Nat.le_trans h2 (by decide))
section
variable {K : PySem.W.Frag} {F : Hp} {io : List Addr} {m : Mem} {H : Hp}
mutual
theorem rep_dp (e : Exh F H) : ∀ (n : Nat) (d : D) (v : V), plain n d = true → Rep K F io v d → Dp K H v (pyOf d)
  | _, _, _, _, .non => .non
  | _, _, _, _, .bl b => .bl b
  | _, _, _, _, .int i => .int i
  | _, _, _, _, .str x => .str x
  | n + 1, _, _, h, .lst hs r => .lst (.inl (.inl (e _ _ hs))) (reps_dp e n _ _ (by simpa [plain] using h) r)
  | n + 1, _, _, h, .tup hs r => .tup (.inl (.inl (e _ _ hs))) (reps_dp e n _ _ (by simpa [plain] using h) r)
  | 0, _, _, h, .lst hs r => by simp [plain] at h
  | 0, _, _, h, .tup hs r => by simp [plain] at h
  | n, _, _, h, .scr _ _ => by cases n <;> simp [plain] at h
  | n, _, _, h, .ref _ => by cases n <;> simp [plain] at h
  | n, _, _, h, .dct _ _ => by cases n <;> simp [plain] at h
theorem reps_dp (e : Exh F H) : ∀ (n : Nat) (d : List D) (v : List V), plains n d = true → Reps K F io v d → DpAll K H v (pyOfs d)
  | _, _, _, _, .nil => .nil
  | n, x :: xs, _, h, .cons a b => by
    simp only [plains, Bool.and_eq_true] at h
    exact .cons (rep_dp e n x _ h.1 a) (reps_dp e n xs _ h.2 b)
end
theorem lk_dp (S : SimM K F io m H) {d : D} {v : V} (h : plain DEEP d = true) (l : Lk K F io H v d) : Dp K H v (pyOf d) := by
  rcases l with l | ⟨p, xs, ds, e | e, rfl, hp, r, _⟩ | ⟨p, kvs, ks, ds, e | e, _⟩
  · exact rep_dp S.ex _ d v h l
  · subst e; exact .lst (.inl (.inl hp)) (reps_dp S.ex 39 _ _ (by simpa [plain, DEEP] using h) r)
  · subst e; exact .lst (.inl (.inl hp)) (reps_dp S.ex 39 _ _ (by simpa [plain, DEEP] using h) r)
  · subst e; simp [plain, DEEP] at h
  · subst e; simp [plain, DEEP] at h
end
theorem eqv_comm_aux : True := trivial
mutual
theorem eqv_py : ∀ (n k : Nat) (a b : D), plain n a = true → plain k b = true → PyData.eqv (pyOf a) (pyOf b) = eqv a b
  | _, _, .non, .non, _, _ => by simp [pyOf, PyData.eqv, eqv]
  | _, _, .non, .bl _, _, _ => by simp [pyOf, PyData.eqv, eqv]
  | _, _, .non, .int _, _, _ => by simp [pyOf, PyData.eqv, eqv]
  | _, _, .non, .str _, _, _ => by simp [pyOf, PyData.eqv, eqv]
  | _, _, .non, .tup _, _, _ => by simp [pyOf, PyData.eqv, eqv]
  | _, _, .non, .lst _, _, _ => by simp [pyOf, PyData.eqv, eqv]
  | _, _, .non, .own _, _, _ => by simp [pyOf, PyData.eqv, eqv]
  | _, _, .bl _, .non, _, _ => by simp [pyOf, PyData.eqv, eqv]
  | _, _, .bl _, .bl _, _, _ => by simp [pyOf, PyData.eqv, eqv]
  | _, _, .bl _, .int _, _, _ => by simp [pyOf, PyData.eqv, eqv]
  | _, _, .bl _, .str _, _, _ => by simp [pyOf, PyData.eqv, eqv]
  | _, _, .bl _, .tup _, _, _ => by simp [pyOf, PyData.eqv, eqv]
  | _, _, .bl _, .lst _, _, _ => by simp [pyOf, PyData.eqv, eqv]
  | _, _, .bl _, .own _, _, _ => by simp [pyOf, PyData.eqv, eqv]
  | _, _, .int _, .non, _, _ => by simp [pyOf, PyData.eqv, eqv]
  | _, _, .int _, .bl _, _, _ => by simp [pyOf, PyData.eqv, eqv]
  | _, _, .int _, .int _, _, _ => by simp [pyOf, PyData.eqv, eqv]
  | _, _, .int _, .str _, _, _ => by simp [pyOf, PyData.eqv, eqv]
  | _, _, .int _, .tup _, _, _ => by simp [pyOf, PyData.eqv, eqv]
  | _, _, .int _, .lst _, _, _ => by simp [pyOf, PyData.eqv, eqv]
  | _, _, .int _, .own _, _, _ => by simp [pyOf, PyData.eqv, eqv]
  | _, _, .str _, .non, _, _ => by simp [pyOf, PyData.eqv, eqv]
  | _, _, .str _, .bl _, _, _ => by simp [pyOf, PyData.eqv, eqv]
  | _, _, .str _, .int _, _, _ => by simp [pyOf, PyData.eqv, eqv]
  | _, _, .str _, .str _, _, _ => by simp [pyOf, PyData.eqv, eqv]
  | _, _, .str _, .tup _, _, _ => by simp [pyOf, PyData.eqv, eqv]
  | _, _, .str _, .lst _, _, _ => by simp [pyOf, PyData.eqv, eqv]
  | _, _, .str _, .own _, _, _ => by simp [pyOf, PyData.eqv, eqv]
  | _, _, .tup _, .non, _, _ => by simp [pyOf, PyData.eqv, eqv]
  | _, _, .tup _, .bl _, _, _ => by simp [pyOf, PyData.eqv, eqv]
  | _, _, .tup _, .int _, _, _ => by simp [pyOf, PyData.eqv, eqv]
  | _, _, .tup _, .str _, _, _ => by simp [pyOf, PyData.eqv, eqv]
  | n + 1, k + 1, .tup xs, .tup ys, h1, h2 => by
    simp only [pyOf, PyData.eqv, eqv]
    exact eqvs_py n k xs ys (by simpa [plain] using h1) (by simpa [plain] using h2)
  | _, _, .tup _, .lst _, _, _ => by simp [pyOf, PyData.eqv, eqv]
  | _, _, .tup _, .own _, _, _ => by simp [pyOf, PyData.eqv, eqv]
  | _, _, .lst _, .non, _, _ => by simp [pyOf, PyData.eqv, eqv]
  | _, _, .lst _, .bl _, _, _ => by simp [pyOf, PyData.eqv, eqv]
  | _, _, .lst _, .int _, _, _ => by simp [pyOf, PyData.eqv, eqv]
  | _, _, .lst _, .str _, _, _ => by simp [pyOf, PyData.eqv, eqv]
  | _, _, .lst _, .tup _, _, _ => by simp [pyOf, PyData.eqv, eqv]
  | n + 1, k + 1, .lst xs, .lst ys, h1, h2 => by
    simp only [pyOf, PyData.eqv, eqv]
    exact eqvs_py n k xs ys (by simpa [plain] using h1) (by simpa [plain] using h2)
  | n + 1, k + 1, .lst xs, .own ys, h1, h2 => by
    simp only [pyOf, PyData.eqv, eqv]
    exact eqvs_py n k xs ys (by simpa [plain] using h1) (by simpa [plain] using h2)
  | _, _, .own _, .non, _, _ => by simp [pyOf, PyData.eqv, eqv]
  | _, _, .own _, .bl _, _, _ => by simp [pyOf, PyData.eqv, eqv]
  | _, _, .own _, .int _, _, _ => by simp [pyOf, PyData.eqv, eqv]
  | _, _, .own _, .str _, _, _ => by simp [pyOf, PyData.eqv, eqv]
  | _, _, .own _, .tup _, _, _ => by simp [pyOf, PyData.eqv, eqv]
  | n + 1, k + 1, .own xs, .lst ys, h1, h2 => by
    simp only [pyOf, PyData.eqv, eqv]
    exact eqvs_py n k xs ys (by simpa [plain] using h1) (by simpa [plain] using h2)
  | n + 1, k + 1, .own xs, .own ys, h1, h2 => by
    simp only [pyOf, PyData.eqv, eqv]
    exact eqvs_py n k xs ys (by simpa [plain] using h1) (by simpa [plain] using h2)
  | 0, _, .tup _, _, h, _ => by simp [plain] at h
  | 0, _, .lst _, _, h, _ => by simp [plain] at h
  | 0, _, .own _, _, h, _ => by simp [plain] at h
  | _, 0, _, .tup _, _, h => by simp [plain] at h
  | _, 0, _, .lst _, _, h => by simp [plain] at h
  | _, 0, _, .own _, _, h => by simp [plain] at h
  | n, _, .unb, _, h, _ => by cases n <;> simp [plain] at h
  | n, _, .scr _, _, h, _ => by cases n <;> simp [plain] at h
  | n, _, .dct _ _, _, h, _ => by cases n <;> simp [plain] at h
  | n, _, .odct _ _, _, h, _ => by cases n <;> simp [plain] at h
  | n, _, .set _, _, h, _ => by cases n <;> simp [plain] at h
  | n, _, .itr _, _, h, _ => by cases n <;> simp [plain] at h
  | n, _, .obj _ _ _, _, h, _ => by cases n <;> simp [plain] at h
  | n, _, .exc _ _ _, _, h, _ => by cases n <;> simp [plain] at h
  | n, _, .ref _, _, h, _ => by cases n <;> simp [plain] at h
  | n, _, .clo _ _, _, h, _ => by cases n <;> simp [plain] at h
  | _, n, _, .unb, _, h => by cases n <;> simp [plain] at h
  | _, n, _, .scr _, _, h => by cases n <;> simp [plain] at h
  | _, n, _, .dct _ _, _, h => by cases n <;> simp [plain] at h
  | _, n, _, .odct _ _, _, h => by cases n <;> simp [plain] at h
  | _, n, _, .set _, _, h => by cases n <;> simp [plain] at h
  | _, n, _, .itr _, _, h => by cases n <;> simp [plain] at h
  | _, n, _, .obj _ _ _, _, h => by cases n <;> simp [plain] at h
  | _, n, _, .exc _ _ _, _, h => by cases n <;> simp [plain] at h
  | _, n, _, .ref _, _, h => by cases n <;> simp [plain] at h
  | _, n, _, .clo _ _, _, h => by cases n <;> simp [plain] at h
theorem eqvs_py : ∀ (n k : Nat) (a b : List D), plains n a = true → plains k b = true → PyData.eqvAll (pyOfs a) (pyOfs b) = eqvs a b
  | _, _, [], [], _, _ => rfl
  | _, _, [], _ :: _, _, _ => rfl
  | _, _, _ :: _, [], _, _ => rfl
  | n, k, x :: xs, y :: ys, h1, h2 => by
    simp only [plains, Bool.and_eq_true] at h1 h2
    simp only [pyOfs, PyData.eqvAll, eqvs, eqv_py n k x y h1.1 h2.1, eqvs_py n k xs ys h1.2 h2.2]
end
end Mp

set_option Elab.async false
set_option linter.all false
set_option maxRecDepth 100000
set_option maxHeartbeats 1000000
/-! MpE: comparisons, indexes, slices, built-ins by values. -/
namespace Mp
open PySem PySem.Spec PyProof.Rows L2

/-! ### == and != -/
section
variable {K : PySem.W.Frag}
theorem ops_eq : OpS K (rEqD K) (cmpop .eq) := by
  intro x y d e F io m H v w S lv lw Q k
  have e : (if (plain DEEP x && plain DEEP y) = true then some (D.bl (eqv x y)) else none) = some d := e
  obtain ⟨hz, rfl⟩ := ite_some e
  rw [Bool.and_eq_true] at hz
  refine ⟨pyOf x, pyOf y, lk_dp S hz.1 lv, lk_dp S hz.2 lw, plain_shaped hz.1, plain_shaped hz.2, ?_⟩
  rw [eqv_py _ _ x y hz.1 hz.2]
  exact scal_ans S (.bl _) rfl k
theorem ops_ne : OpS K (rNeD K) (cmpop .ne) := by
  intro x y d e F io m H v w S lv lw Q k
  have e : (if (plain DEEP x && plain DEEP y) = true then some (D.bl (!eqv x y)) else none) = some d := e
  obtain ⟨hz, rfl⟩ := ite_some e
  rw [Bool.and_eq_true] at hz
  refine ⟨pyOf x, pyOf y, lk_dp S hz.1 lv, lk_dp S hz.2 lw, plain_shaped hz.1, plain_shaped hz.2, ?_⟩
  rw [eqv_py _ _ x y hz.1 hz.2]
  exact scal_ans S (.bl _) rfl k
theorem ops_ints {o : COp} {p : Int → Int → Bool} (h : ∀ x y d, cmpop o x y = some d → ∃ i j, x = .int i ∧ y = .int j ∧ d = .bl (p i j)) : OpS K (rI0 fun i j => .bl (p i j)) (cmpop o) := by
  intro x y d e F io m H v w S lv lw Q k
  obtain ⟨i, j, rfl, rfl, rfl⟩ := h x y d e
  have h1 := lk_int lv
  have h2 := lk_int lw
  subst h1 h2
  exact ⟨_, _, rfl, rfl, scal_ans S (.bl _) rfl k⟩
theorem int2 {f : Int → Int → Bool} {x y d : D} (e : (match x, y with | .int i, .int j => some (D.bl (f i j)) | _, _ => none) = some d) : ∃ i j, x = .int i ∧ y = .int j ∧ d = .bl (f i j) := by
  split at e
  · exact ⟨_, _, rfl, rfl, (Option.some.inj e).symm⟩
  · cases e
theorem ops_lt : OpS K (rI0 fun i j => .bl (decide (i < j))) (cmpop .lt) := ops_ints fun x y d e => by
  cases x <;> cases y <;> first | exact ⟨_, _, rfl, rfl, (Option.some.inj e).symm⟩ | cases e
theorem ops_le : OpS K (rI0 fun i j => .bl (decide (i ≤ j))) (cmpop .le) := ops_ints fun x y d e => by
  cases x <;> cases y <;> first | exact ⟨_, _, rfl, rfl, (Option.some.inj e).symm⟩ | cases e
theorem ops_gt : OpS K (rI0 fun i j => .bl (decide (j < i))) (cmpop .gt) := ops_ints fun x y d e => by
  cases x <;> cases y <;> first | exact ⟨_, _, rfl, rfl, (Option.some.inj e).symm⟩ | cases e
theorem ops_ge : OpS K (rI0 fun i j => .bl (decide (j ≤ i))) (cmpop .ge) := ops_ints fun x y d e => by
  cases x <;> cases y <;> first | exact ⟨_, _, rfl, rfl, (Option.some.inj e).symm⟩ | cases e

/-! ### is, is not: None, True, False on the right -/
def rIsA : R2 := fun x y H Q => (y = .non ∧ Q (.bl (decide (x = .non))) H) ∨ rIsB x y H Q
def rNotA : R2 := fun x y H Q => (y = .non ∧ Q (.bl (!decide (x = .non))) H) ∨ rNotB x y H Q
theorem opr_is {X : Cx} : OpR X (compareOp .Is) rIsA := opr_or op_isN op_isBl
theorem opr_isnot {X : Cx} : OpR X (compareOp .IsNot) rNotA := opr_or op_notN op_notBl
theorem lk_isnon {F : Hp} {io : List Addr} {H : Hp} {v : V} {x : D} (l : Lk K F io H v x) (hu : x ≠ .unb) : decide (v = .non) = isNon x := by
  rcases l with l | ⟨p, xs, ds, e | e, rfl, _⟩ | ⟨p, kvs, ks, ds, e | e, rfl, _⟩
  · cases l <;> rfl
  all_goals (subst e; rfl)
theorem lk_unb {F : Hp} {io : List Addr} {H : Hp} {v : V} {x : D} (l : Lk K F io H v x) : x ≠ .unb := fun z => by
  subst z
  cases lk_rep l
theorem ops_is : OpS K rIsA (cmpop .is) := by
  intro x y d e F io m H v w S lv lw Q k
  have e : (isConst x y).map D.bl = some d := e
  cases y with
  | non =>
    cases e
    have hw := lk_non lw
    subst hw
    refine .inl ⟨rfl, ?_⟩
    rw [lk_isnon lv (lk_unb lv)]
    exact scal_ans S (.bl _) rfl k
  | bl c =>
    cases x <;> first
      | (cases e
         have h1 := lk_bl lv
         have h2 := lk_bl lw
         subst h1 h2
         refine .inr ⟨_, _, rfl, rfl, ?_⟩
         rw [← Bool.beq_eq_decide_eq]
         exact scal_ans S (.bl _) rfl k)
      | cases e
  | _ => cases x <;> cases e
theorem ops_isnot : OpS K rNotA (cmpop .isnot) := by
  intro x y d e F io m H v w S lv lw Q k
  have e : (isConst x y).map (fun c => D.bl (!c)) = some d := e
  cases y with
  | non =>
    cases e
    have hw := lk_non lw
    subst hw
    refine .inl ⟨rfl, ?_⟩
    rw [lk_isnon lv (lk_unb lv)]
    exact scal_ans S (.bl _) rfl k
  | bl c =>
    cases x <;> first
      | (cases e
         have h1 := lk_bl lv
         have h2 := lk_bl lw
         subst h1 h2
         refine .inr ⟨_, _, rfl, rfl, ?_⟩
         rw [← Bool.beq_eq_decide_eq]
         exact scal_ans S (.bl _) rfl k)
      | cases e
  | _ => cases x <;> cases e
end

/-! ### in, not in: lists and tuples of plain data -/
def rInTD (K : PySem.W.Frag) : R2 := fun x y H Q => ∃ d ds, Dp K H x d ∧ Dp K H y (.tuple ds) ∧ SeqAt.shaped d = true ∧ SeqAt.shaped (.tuple ds) = true ∧ Q (.bl (ds.any fun z => PyData.eqv z d)) H
def rNotInTD (K : PySem.W.Frag) : R2 := fun x y H Q => ∃ d ds, Dp K H x d ∧ Dp K H y (.tuple ds) ∧ SeqAt.shaped d = true ∧ SeqAt.shaped (.tuple ds) = true ∧ Q (.bl (!ds.any fun z => PyData.eqv z d)) H
theorem room_inT {A : Around} {d : PyData} {n : Nat} (hd : SeqAt.shaped d = true) (hu : A.units + 65 < cLine) : A.units + 1 + min n d.depth < cLine := by
  have h1 := SeqAt.depth_of_shaped hd
  have h2 : min n d.depth ≤ d.depth := Nat.min_le_right _ _
  omega
theorem op_inTD {X : Cx} (hu : X.A.units + 65 < cLine) : OpR X (compareOp .In) (rInTD X.K) := by
  intro pins s st H x y v u Q I rx ry h
  obtain ⟨d, ds, hd, he, sd, se, q⟩ := h
  obtain ⟨as, r1⟩ := Dp.reads I d x v hd rx
  obtain ⟨bs, r2⟩ := Dp.reads I (.tuple ds) y u he ry
  exact SeqAt.in_tuple_reads r2 r1 (SeqAt.canLay_of_shaped se) (SeqAt.canLay_of_shaped sd) (room_inT sd hu) ⟨.bl _, H, I, rfl, q⟩
theorem op_notInTD {X : Cx} (hu : X.A.units + 65 < cLine) : OpR X (compareOp .NotIn) (rNotInTD X.K) := by
  intro pins s st H x y v u Q I rx ry h
  obtain ⟨d, ds, hd, he, sd, se, q⟩ := h
  obtain ⟨as, r1⟩ := Dp.reads I d x v hd rx
  obtain ⟨bs, r2⟩ := Dp.reads I (.tuple ds) y u he ry
  exact SeqAt.notIn_tuple_reads r2 r1 (SeqAt.canLay_of_shaped se) (SeqAt.canLay_of_shaped sd) (room_inT sd hu) ⟨.bl _, H, I, rfl, q⟩
/-! a dict with tuple keys -/
def rInT : R2 := fun x y H Q => ∃ a o, y = .ref a ∧ DGet H a x o ∧ Q (.bl o.isSome) H
def rNotInT : R2 := fun x y H Q => ∃ a o, y = .ref a ∧ DGet H a x o ∧ Q (.bl (!o.isSome)) H
theorem op_inT {X : Cx} (hu : X.A.units + 65 < cLine) : OpR X (compareOp .In) rInT := by
  intro pins s st H x y v u Q I rx ry h
  obtain ⟨a, o, rfl, g, q⟩ := h
  cases ry
  exact d_in (by omega) I g rx fun s' I' => ⟨.bl _, H, I', rfl, q⟩
theorem op_notInT {X : Cx} (hu : X.A.units + 65 < cLine) : OpR X (compareOp .NotIn) rNotInT := by
  intro pins s st H x y v u Q I rx ry h
  obtain ⟨a, o, rfl, g, q⟩ := h
  cases ry
  exact d_notIn (by omega) I g rx fun s' I' => ⟨.bl _, H, I', rfl, q⟩
theorem eqv_key (a b : Key) : eqv (keyD a) (keyD b) = decide (a = b) := by
  cases a <;> cases b <;> simp only [keyD, eqv]
  · rename_i i j; by_cases h : i = j <;> simp [h]
  · simp
  · simp
  · rename_i i j; by_cases h : i = j <;> simp [h]
theorem eqvs_keys : ∀ a b : List Key, eqvs (a.map keyD) (b.map keyD) = decide (a = b)
  | [], [] => by simp [eqvs]
  | [], _ :: _ => by simp [eqvs]
  | _ :: _, [] => by simp [eqvs]
  | x :: a, y :: b => by
    simp only [List.map_cons, eqvs, eqv_key, eqvs_keys a b, List.cons.injEq]
    by_cases h1 : x = y <;> by_cases h2 : a = b <;> simp [h1, h2]
theorem eqv_tk (a b : List Key) : eqv (tkD a) (tkD b) = decide (a = b) := by
  unfold tkD
  simp only [eqv]
  exact eqvs_keys a b
theorem keys_any {α : Type} (k : List Key) : ∀ kvs : List (List Key × α), ((kvs.map fun p => tkD p.1).any fun x => eqv x (tkD k)) = kvs.any fun p => decide (p.1 = k)
  | [] => rfl
  | p :: r => by rw [List.map_cons, List.any_cons, List.any_cons, eqv_tk, keys_any k r]
theorem keyD_of {d : D} (h : isKey d = true) : ∃ k : Key, d = keyD k := by
  cases d <;> first | exact ⟨.inl _, rfl⟩ | exact ⟨.inr _, rfl⟩ | cases h
theorem keysD_of : ∀ {xs : List D}, xs.all isKey = true → ∃ k : List Key, xs = k.map keyD
  | [], _ => ⟨[], rfl⟩
  | x :: xs, h => by
    rw [List.all_cons, Bool.and_eq_true] at h
    obtain ⟨k, rfl⟩ := keyD_of h.1
    obtain ⟨ks, rfl⟩ := keysD_of h.2
    exact ⟨k :: ks, rfl⟩
section
variable {K : PySem.W.Frag}
theorem reps_keys {F : Hp} {io : List Addr} : ∀ {us : List V} {k : List Key}, Reps K F io us (k.map keyD) → us = k.map kV
  | us, [], r => by cases r; rfl
  | us, a :: k, r => by
    cases r with
    | cons h r =>
      rw [reps_keys r]
      cases a <;> (cases h; rfl)
theorem lk_tk {F : Hp} {io : List Addr} {m : Mem} {H : Hp} {v : V} {d : D} (S : SimM K F io m H) (l : Lk K F io H v d) (h : isTK d = true) : ∃ a k, v = .ref a ∧ d = tkD k ∧ H a = some (.tup (k.map kV)) := by
  cases d <;> first | cases h; done | skip
  obtain ⟨a, us, rfl, ha, r⟩ := lk_tup S l
  obtain ⟨k, rfl⟩ := keysD_of h
  rw [reps_keys r] at ha
  exact ⟨a, k, rfl, rfl, ha⟩
end
def rInA (K : PySem.W.Frag) : R2 := fun x y H Q => (rInD K x y H Q ∨ rInTD K x y H Q) ∨ rInT x y H Q
def rNotInA (K : PySem.W.Frag) : R2 := fun x y H Q => (rNotInD K x y H Q ∨ rNotInTD K x y H Q) ∨ rNotInT x y H Q
theorem opr_in {X : Cx} (hu : X.A.units + 65 < cLine) : OpR X (compareOp .In) (rInA X.K) := opr_or (opr_or (op_inD hu) (op_inTD hu)) (op_inT hu)
theorem opr_notin {X : Cx} (hu : X.A.units + 65 < cLine) : OpR X (compareOp .NotIn) (rNotInA X.K) := opr_or (opr_or (op_notInD hu) (op_notInTD hu)) (op_notInT hu)
section
variable {K : PySem.W.Frag}
theorem any_py (n k : Nat) (x : D) (hx : plain k x = true) : ∀ ys : List D, plains n ys = true → ((pyOfs ys).any fun z => PyData.eqv z (pyOf x)) = ys.any fun y => eqv y x
  | [], _ => rfl
  | y :: ys, h => by
    simp only [plains, Bool.and_eq_true] at h
    rw [pyOfs, List.any_cons, List.any_cons, eqv_py n k y x h.1 hx, any_py n k x hx ys h.2]
theorem seq_dp {F : Hp} {io : List Addr} {m : Mem} {H : Hp} {w : V} {y : D} {ys : List D} (S : SimM K F io m H) (lw : Lk K F io H w y) (ey : seqItems y = some ys) (h : plains DEEP ys = true) :
    (Dp K H w (.list (pyOfs ys)) ∧ SeqAt.shaped (.list (pyOfs ys)) = true) ∨ (Dp K H w (.tuple (pyOfs ys)) ∧ SeqAt.shaped (.tuple (pyOfs ys)) = true) := by
  obtain ⟨a, xs, rfl, h1, r⟩ := lk_seq S lw ey
  have hd := reps_dp S.ex _ _ _ h r
  obtain ⟨h2, h3⟩ := plains_lay _ _ h
  have h4 : PyData.depthAll (pyOfs ys) + 1 ≤ 64 := Nat.le_trans (Nat.succ_le_succ h3) (by decide)
  rcases h1 with h1 | h1
  · refine .inl ⟨.lst (.inl (.inl h1)) hd, ?_⟩
    unfold SeqAt.shaped
    rw [show (PyData.list (pyOfs ys)).canLay0 = true by simpa [PyData.canLay0] using h2, Bool.true_and]
    exact decide_eq_true (by simpa [PyData.depth] using h4)
  · refine .inr ⟨.tup (.inl (.inl h1)) hd, ?_⟩
    unfold SeqAt.shaped
    rw [show (PyData.tuple (pyOfs ys)).canLay0 = true by simpa [PyData.canLay0] using h2, Bool.true_and]
    exact decide_eq_true (by simpa [PyData.depth] using h4)
theorem seq_in {x y : D} {ys : List D} {d : D} (neg : Bool) (ey : seqItems y = some ys) (e : cmpop (if neg then .notin else .inn) x y = some d) : (if (plain DEEP x && plains DEEP ys) = true then some (D.bl (if neg then !(ys.any fun y => eqv y x) else ys.any fun y => eqv y x)) else none) = some d := by
  cases neg <;> (cases y <;> first | (cases ey; done) | (simp only [if_true, if_false, Bool.false_eq_true] at e; simp only [cmpop, ey] at e; exact e))
theorem dict_in {x y ks' vs' : D} {ks vs : List D} {d : D} (neg : Bool) (ey : y = .dct ks vs ∨ y = .odct ks vs) (e : cmpop (if neg then .notin else .inn) x y = some d) : (if isTK x = true then some (D.bl (if neg then !(ks.any fun k => eqv k x) else ks.any fun k => eqv k x)) else none) = some d := by
  rcases ey with ey | ey <;> subst ey <;> cases neg <;> exact e
theorem in_kinds {x y : D} {d : D} (neg : Bool) (e : cmpop (if neg then .notin else .inn) x y = some d) : (∃ ys, seqItems y = some ys) ∨ ∃ ks vs, y = .dct ks vs ∨ y = .odct ks vs := by
  cases y <;> first
    | exact .inl ⟨_, rfl⟩
    | exact .inr ⟨_, _, .inl rfl⟩
    | exact .inr ⟨_, _, .inr rfl⟩
    | (cases neg <;> simp [cmpop, seqItems] at e)
theorem ops_in : OpS K (rInA K) (cmpop .inn) := by
  intro x y d e F io m H v w S lv lw Q k
  rcases in_kinds false e with ⟨ys, ey⟩ | ⟨ks, vs, ey⟩
  · obtain ⟨hz, rfl⟩ := ite_some (seq_in false ey e)
    rw [Bool.and_eq_true] at hz
    have ep := any_py _ _ x hz.1 ys hz.2
    rcases seq_dp S lw ey hz.2 with ⟨h1, h2⟩ | ⟨h1, h2⟩
    · refine .inl (.inl ⟨_, _, lk_dp S hz.1 lv, h1, plain_shaped hz.1, h2, ?_⟩)
      rw [ep]; exact scal_ans S (.bl _) rfl k
    · refine .inl (.inr ⟨_, _, lk_dp S hz.1 lv, h1, plain_shaped hz.1, h2, ?_⟩)
      rw [ep]; exact scal_ans S (.bl _) rfl k
  · obtain ⟨hz, rfl⟩ := ite_some (dict_in (ks' := .non) (vs' := .non) false ey e)
    obtain ⟨a, kk, rfl, rfl, ha⟩ := lk_tk S lv hz
    obtain ⟨p, kvs, rfl, hp, rfl, r⟩ := lk_dict S lw ey
    refine .inr ⟨p, _, rfl, DGet.t hp ha, ?_⟩
    rw [← valV_any, ← keys_any]
    exact scal_ans S (.bl _) rfl k
theorem ops_notin : OpS K (rNotInA K) (cmpop .notin) := by
  intro x y d e F io m H v w S lv lw Q k
  rcases in_kinds true e with ⟨ys, ey⟩ | ⟨ks, vs, ey⟩
  · obtain ⟨hz, rfl⟩ := ite_some (seq_in true ey e)
    rw [Bool.and_eq_true] at hz
    have ep := any_py _ _ x hz.1 ys hz.2
    rcases seq_dp S lw ey hz.2 with ⟨h1, h2⟩ | ⟨h1, h2⟩
    · refine .inl (.inl ⟨_, _, lk_dp S hz.1 lv, h1, plain_shaped hz.1, h2, ?_⟩)
      rw [ep]; exact scal_ans S (.bl _) rfl k
    · refine .inl (.inr ⟨_, _, lk_dp S hz.1 lv, h1, plain_shaped hz.1, h2, ?_⟩)
      rw [ep]; exact scal_ans S (.bl _) rfl k
  · obtain ⟨hz, rfl⟩ := ite_some (dict_in (ks' := .non) (vs' := .non) true ey e)
    obtain ⟨a, kk, rfl, rfl, ha⟩ := lk_tk S lv hz
    obtain ⟨p, kvs, rfl, hp, rfl, r⟩ := lk_dict S lw ey
    refine .inr ⟨p, _, rfl, DGet.t hp ha, ?_⟩
    rw [← valV_any, ← keys_any]
    exact scal_ans S (.bl _) rfl k
end

/-! ### o[i] -/
theorem reps_at {K : PySem.W.Frag} {F : Hp} {io : List Addr} {vs : List V} {ds : List D} {i : Int} {d : D} (r : Reps K F io vs ds) (h : atI ds i = some d) : ∃ v, atI vs i = some v ∧ Rep K F io v d := by
  unfold atI at h ⊢
  rw [r.len]
  cases e : ixN ds.length i with
  | none => rw [e] at h; cases h
  | some j =>
    rw [e] at h
    exact r.get h
/-- an index by values, with the cells -/
def OpM (K : PySem.W.Frag) (r : R2) (op : D → D → Mem → Res D) : Prop := ∀ x y m d m', op x y m = .ok d m' → m' = m ∧ ∀ F io H v w, SimM K F io m H → Lk K F io H v x → Lk K F io H w y →
  ∀ Q : VK, (∀ u F' io' H', Grow F io H F' io' H' → SimM K F' io' m H' → ResR K F' io' H H' u d → Q u H') → r v w H Q
theorem rep_not_own {K : PySem.W.Frag} {F : Hp} {io : List Addr} {H0 H : Hp} {v : V} {d : D} (r : Rep K F io v d) : ResR K F io H0 H v d := by
  cases r <;> first | exact .non | exact .bl _ | exact .int _ | exact .str _ | (apply Rep.lst <;> assumption) | (apply Rep.tup <;> assumption) | (apply Rep.scr <;> assumption) | (apply Rep.ref; assumption) | (apply Rep.dct <;> assumption)
theorem opm_index {K : PySem.W.Frag} : OpM K (rIx K) index := by
  intro x y m d m' e
  have e0 := e
  unfold index at e
  split at e
  · obtain ⟨e1, rfl⟩ := opt_ok e
    refine ⟨rfl, fun F io H v w S lv lw Q k => ?_⟩
    obtain ⟨a, us, rfl, ha, ra⟩ := lk_tup S lv
    have hw := lk_int lw
    subst hw
    obtain ⟨u, hu, ru⟩ := reps_at ra e1
    exact .inr (.inl ⟨a, us, _, u, rfl, rfl, .inl (.inl ha), hu, k u F io H (.refl _ _ _) S (rep_not_own ru)⟩)
  · obtain ⟨e1, rfl⟩ := opt_ok e
    refine ⟨rfl, fun F io H v w S lv lw Q k => ?_⟩
    obtain ⟨a, us, rfl, ha, ra⟩ := lk_list S lv (.inl rfl)
    have hw := lk_int lw
    subst hw
    obtain ⟨u, hu, ru⟩ := reps_at ra e1
    exact .inl ⟨a, us, _, u, rfl, rfl, .inl (.inl ha), hu, k u F io H (.refl _ _ _) S (rep_not_own ru)⟩
  · obtain ⟨e1, rfl⟩ := opt_ok e
    refine ⟨rfl, fun F io H v w S lv lw Q k => ?_⟩
    obtain ⟨a, us, rfl, ha, ra⟩ := lk_list S lv (.inr rfl)
    have hw := lk_int lw
    subst hw
    obtain ⟨u, hu, ru⟩ := reps_at ra e1
    exact .inl ⟨a, us, _, u, rfl, rfl, .inl (.inl ha), hu, k u F io H (.refl _ _ _) S (rep_not_own ru)⟩
  · rename_i l i
    split at e
    · rename_i xs hm
      obtain ⟨e1, rfl⟩ := opt_ok e
      refine ⟨rfl, fun F io H v w S lv lw Q k => ?_⟩
      have hw := lk_int lw
      subst hw
      obtain ⟨a, rfl, ha⟩ : ∃ a, v = .ref a ∧ io[l]? = some a := by
        cases lk_rep lv with | ref h => exact ⟨_, rfl, h⟩
      obtain ⟨us, hH, ra⟩ := S.cell l a _ ha hm
      obtain ⟨u, hu, ru⟩ := reps_at ra e1
      exact .inl ⟨a, us, _, u, rfl, rfl, .inl (.inl hH), hu, k u F io H (.refl _ _ _) S (rep_not_own ru)⟩
    · cases e
  · cases e

/-! ### o[lo:hi] -/
theorem Reps.cut {K : PySem.W.Frag} {F : Hp} {io : List Addr} {vs : List V} {ds : List D} (lo hi : Option Int) (r : Reps K F io vs ds) : Reps K F io (cutV vs lo hi) (cut lo hi ds) := by
  unfold cutV Mp.cut
  rw [r.len]
  exact (r.drop _).take _
def rSlAll (K : PySem.W.Frag) : V → Option Int → Option Int → Hp → VK → Prop := fun x lo hi H Q => rSlA K x lo hi H Q ∨ rSlL K x lo hi H Q
theorem slr_all {X : Cx} : SlR X (rSlAll X.K) := sl_tupA.or sl_list
theorem cut_all {ds : List D} {lo hi : Option Int} (h : HT.sIx ds.length 0 lo = 0 ∧ HT.sIx ds.length ds.length hi = ds.length) : cut lo hi ds = ds := by
  unfold cut
  rw [h.1, h.2]
  simp
theorem sliced_ok {K : PySem.W.Frag} {x : D} {lo hi : Option Int} {d : D} {l h : D} (hl : part l = some lo) (hh : part h = some hi) (e : sliced x l h = some d) {F : Hp} {io : List Addr} {m : Mem} {H : Hp} {v : V} (S : SimM K F io m H) (lv : Lk K F io H v x)
    {Q : VK} (k : ∀ u F' io' H', Grow F io H F' io' H' → SimM K F' io' m H' → ResR K F' io' H H' u d → Q u H') : rSlAll K v lo hi H Q := by
  unfold sliced at e
  rw [hl, hh] at e
  cases x <;> first
    | (cases e
       obtain ⟨a, us, rfl, ha, ra⟩ := lk_tup S lv
       refine .inl ⟨a, us, rfl, .inl (.inl ha), fun z => ?_, fun _ p np => tup_ans S (ra.cut lo hi) np k⟩
       rw [ra.len] at z
       refine k _ F io H (.refl _ _ _) S ?_
       rw [cut_all z]
       exact lk_rep lv)
    | (cases e
       obtain ⟨a, us, rfl, ha, ra⟩ := lk_list S lv (.inl rfl)
       exact .inr ⟨a, us, rfl, .inl (.inl ha), fun p np => list_ans S (ra.cut lo hi) np k⟩)
    | (cases e
       obtain ⟨a, us, rfl, ha, ra⟩ := lk_list S lv (.inr rfl)
       exact .inr ⟨a, us, rfl, .inl (.inl ha), fun p np => list_ans S (ra.cut lo hi) np k⟩)
    | (cases e
       obtain ⟨a, us, rfl, ha, ra⟩ := lk_scr S lv
       exact .inr ⟨a, us, rfl, ha, fun p np => list_ans S (ra.cut lo hi) np k⟩)
    | cases e
end Mp

set_option Elab.async false
set_option linter.all false
set_option maxRecDepth 100000
set_option maxHeartbeats 1000000
/-! MpF: expressions, one lemma a form. -/
namespace Mp
open PySem PySem.Spec PyProof.Rows L2

section
variable {X : Cx} {G : Gam} {b : Bool} {pos : Pos}

/-! ### small helpers -/
def isStar : Expr → Bool
  | .Starred _ _ => true
  | _ => false
theorem star_ok {e : Expr} {es : List Expr} {env : Env} (h : isStar e = false) : starEach (e :: es) env = (false, eval e env) :: starEach es env := by
  cases e <;> first | rfl | cases h
def noStars : List Expr → Bool
  | [] => true
  | e :: es => !isStar e && noStars es
theorem stars_none {env : Env} : ∀ {es : List Expr}, noStars es = true → (backTo pos (starEach es env)).any (·.1) = false
  | [], _ => rfl
  | e :: es, h => by
    simp only [noStars, Bool.and_eq_true, Bool.not_eq_true'] at h
    rw [star_ok h.1]
    show (false || (backTo pos (starEach es env)).any (·.1)) = false
    rw [stars_none h.2]; rfl

/-! ### several expressions -/
theorem a_nil {cs : CallS} : PA X [] (tAs X.K G (evEs cs [])) := imp_a pa_nil fun st H Q q => by
  obtain ⟨F, io, l, m, S, ds, m', e, q⟩ := q
  cases e
  exact q [] F io H (.refl _ _ _) S.sm .nil
theorem a_cons {e : Expr} {es : List Expr} {ge : EvL} {gs : Loc → Mem → Res (List D)} (he : PE X e (tE X.K G false ge)) (hs : PA X es (tAs X.K G gs)) (hn : isStar e = false) :
    PA X (e :: es) (tAs X.K G fun l m => (ge l m).bind fun x m1 => (gs l m1).bind fun xs m2 => .ok (frz x :: xs) m2) := imp_a (pa_cons he hs (star_ok hn)) fun st H Q q => by
  obtain ⟨F, io, l, m, S, ds, m', e, q⟩ := q
  obtain ⟨x, m1, e1, e⟩ := bind_ok e
  obtain ⟨xs, m2, e2, e⟩ := bind_ok e
  cases e
  refine ⟨F, io, l, m, S, x, m1, e1, fun v F1 io1 H1 G1 S1 R1 => ?_⟩
  have R1 : ResR X.K F1 io1 H H1 v x := R1.elim id fun z => nomatch z.1
  obtain ⟨F2, G2, S2, r2⟩ := R1.froze G1 S1
  refine ⟨F2, io1, l, m1, S.grow G2 S2, xs, m', e2, fun vs F3 io3 H3 G3 S3 R3 => ?_⟩
  exact q (v :: vs) F3 io3 H3 (G2.trans G3) S3 (.cons (r2.mono G3.ex G3.pre) R3)
theorem b_nil {cs : CallS} : PA X [] (tAb X.K G (evEb cs [])) := imp_a pa_nil fun st H Q q => by
  obtain ⟨F, io, l, m, S, ds, m', e, q⟩ := q
  cases e
  exact q [] F io H (.refl _ _ _) S.sm .nil
theorem Lks.mono {K : PySem.W.Frag} {F F' : Hp} {io io' : List Addr} {H H' : Hp} (g : Grow F io H F' io' H') : ∀ {vs : List V} {ds : List D}, Lks K F io H vs ds → Lks K F' io' H' vs ds
  | _, _, .nil => .nil
  | _, _, .cons a r => .cons (a.mono g) (Lks.mono g r)
theorem b_cons {e : Expr} {es : List Expr} {ge : EvL} {gs : Loc → Mem → Res (List D)} (he : PE X e (tE X.K G true ge)) (hs : PA X es (tAb X.K G gs)) (hn : isStar e = false) :
    PA X (e :: es) (tAb X.K G fun l m => (ge l m).bind fun x m1 => (gs l m1).bind fun xs m2 => .ok (x :: xs) m2) := imp_a (pa_cons he hs (star_ok hn)) fun st H Q q => by
  obtain ⟨F, io, l, m, S, ds, m', e, q⟩ := q
  obtain ⟨x, m1, e1, e⟩ := bind_ok e
  obtain ⟨xs, m2, e2, e⟩ := bind_ok e
  cases e
  refine ⟨F, io, l, m, S, x, m1, e1, fun v F1 io1 H1 G1 S1 R1 => ?_⟩
  refine ⟨F1, io1, l, m1, S.grow G1 S1, xs, m', e2, fun vs F3 io3 H3 G3 S3 R3 => ?_⟩
  exact q (v :: vs) F3 io3 H3 (G1.trans G3) S3 (.cons (R1.lk.mono G3) R3)

/-! ### displays -/
theorem sz_line {xs : List D} (h : sz xs = true) : xs.length ≤ sizeLine := lim_line h
theorem s_tup {es : List Expr} {k : Nat} {gs : Loc → Mem → Res (List D)} (h : PA X es (tAs X.K G gs)) : PE X (.Tuple es k pos) (tE X.K G b fun l m => (gs l m).bind fun xs m1 => if sz xs then .ok (.tup xs) m1 else .bad) := imp_e (pe_tup h) fun st H Q q => by
  obtain ⟨F, io, l, m, S, d, m', e, q⟩ := q
  obtain ⟨xs, m1, e1, e⟩ := bind_ok e
  split at e
  · rename_i hz
    cases e
    refine ⟨F, io, l, m, S, xs, m', e1, fun vs F1 io1 H1 G1 S1 R1 => ⟨by rw [R1.len]; exact sz_line hz, fun p np => ?_⟩⟩
    refine tup_ans (Q := Q) S1 R1 np fun u F2 io2 H2 G2 S2 R2 => q u F2 io2 H2 (G1.trans G2) S2 (.inl (R2.earlier fun a z => G1.back z))
  · cases e
theorem s_lst {es : List Expr} {gs : Loc → Mem → Res (List D)} (h : PA X es (tAs X.K G gs)) : PE X (.List es pos) (tE X.K G b fun l m => (gs l m).bind fun xs m1 => if sz xs then .ok (.own xs) m1 else .bad) := imp_e (pe_lst h) fun st H Q q => by
  obtain ⟨F, io, l, m, S, d, m', e, q⟩ := q
  obtain ⟨xs, m1, e1, e⟩ := bind_ok e
  split at e
  · rename_i hz
    cases e
    refine ⟨F, io, l, m, S, xs, m', e1, fun vs F1 io1 H1 G1 S1 R1 => ⟨by rw [R1.len]; exact sz_line hz, fun p np => ?_⟩⟩
    refine list_ans (Q := Q) S1 R1 np fun u F2 io2 H2 G2 S2 R2 => q u F2 io2 H2 (G1.trans G2) S2 (.inl (R2.earlier fun a z => G1.back z))
  · cases e

/-! ### -a, not a -/
theorem s_neg {e : Expr} {ge : EvL} (h : PE X e (tE X.K G true ge)) : PE X (.UnaryOp .USub e pos) (tE X.K G b fun l m => (ge l m).bind fun x m1 => match x with | .int i => .ok (.int (-i)) m1 | _ => .bad) := imp_e (pe_un un_neg h) fun st H Q q => by
  obtain ⟨F, io, l, m, S, d, m', e, q⟩ := q
  obtain ⟨x, m1, e1, e⟩ := bind_ok e
  refine ⟨F, io, l, m, S, x, m1, e1, fun v F1 io1 H1 G1 S1 R1 => ?_⟩
  cases x <;> first
    | (cases e
       have h1 := lk_int R1.lk
       subst h1
       exact ⟨_, rfl, q _ F1 io1 H1 G1 S1 (.inl (.int _))⟩)
    | cases e
theorem s_not {e : Expr} {ge : EvL} (h : PE X e (tE X.K G true ge)) : PE X (.UnaryOp .Not e pos) (tE X.K G b fun l m => (ge l m).bind fun x m1 => match truth x with | some c => .ok (.bl (!c)) m1 | none => .bad) := imp_e (pe_notT h) fun st H Q q => by
  obtain ⟨F, io, l, m, S, d, m', e, q⟩ := q
  obtain ⟨x, m1, e1, e⟩ := bind_ok e
  refine ⟨F, io, l, m, S, x, m1, e1, fun v F1 io1 H1 G1 S1 R1 => ?_⟩
  cases ht : truth x with
  | none => rw [ht] at e; cases e
  | some c =>
    rw [ht] at e
    cases e
    exact ⟨c, lk_truth S1 R1.lk ht, q _ F1 io1 H1 G1 S1 (.inl (.bl _))⟩

/-! ### and, or, if else, by truth -/
theorem s_and {x y : Expr} {rest : List Expr} {gx gy : EvL} (hx : PE X x (tE X.K G b gx)) (hy : PE X (.BoolOp .And (y :: rest) pos) (tE X.K G b gy)) :
    PE X (.BoolOp .And (x :: y :: rest) pos) (tE X.K G b fun l m => (gx l m).bind fun v m1 => match truth v with | some true => gy l m1 | some false => .ok v m1 | none => .bad) := imp_e (pe_andT hx hy) fun st H Q q => by
  obtain ⟨F, io, l, m, S, d, m', e, q⟩ := q
  obtain ⟨u, m1, e1, e⟩ := bind_ok e
  refine ⟨F, io, l, m, S, u, m1, e1, fun v F1 io1 H1 G1 S1 R1 => ?_⟩
  cases ht : truth u with
  | none => rw [ht] at e; cases e
  | some c =>
    rw [ht] at e
    refine ⟨c, lk_truth S1 R1.lk ht, ?_⟩
    cases c with
    | true => exact iteT ⟨F1, io1, l, m1, S.grow G1 S1, d, m', e, fun w F2 io2 H2 G2 S2 R2 => q w F2 io2 H2 (G1.trans G2) S2 (R2.earlier fun a z => G1.back z)⟩
    | false => cases e; exact iteF (q v F1 io1 H1 G1 S1 R1)
theorem s_or {x y : Expr} {rest : List Expr} {gx gy : EvL} (hx : PE X x (tE X.K G b gx)) (hy : PE X (.BoolOp .Or (y :: rest) pos) (tE X.K G b gy)) :
    PE X (.BoolOp .Or (x :: y :: rest) pos) (tE X.K G b fun l m => (gx l m).bind fun v m1 => match truth v with | some true => .ok v m1 | some false => gy l m1 | none => .bad) := imp_e (pe_orT hx hy) fun st H Q q => by
  obtain ⟨F, io, l, m, S, d, m', e, q⟩ := q
  obtain ⟨u, m1, e1, e⟩ := bind_ok e
  refine ⟨F, io, l, m, S, u, m1, e1, fun v F1 io1 H1 G1 S1 R1 => ?_⟩
  cases ht : truth u with
  | none => rw [ht] at e; cases e
  | some c =>
    rw [ht] at e
    refine ⟨c, lk_truth S1 R1.lk ht, ?_⟩
    cases c with
    | true => cases e; exact iteT (q v F1 io1 H1 G1 S1 R1)
    | false => exact iteF ⟨F1, io1, l, m1, S.grow G1 S1, d, m', e, fun w F2 io2 H2 G2 S2 R2 => q w F2 io2 H2 (G1.trans G2) S2 (R2.earlier fun a z => G1.back z)⟩
theorem s_ite {c x y : Expr} {gc gx gy : EvL} (hc : PT X c (tTt X.K G gc)) (hx : PE X x (tE X.K G b gx)) (hy : PE X y (tE X.K G b gy)) :
    PE X (.IfExp c x y pos) (tE X.K G b fun l m => (gc l m).bind fun v m1 => match truth v with | some true => gx l m1 | some false => gy l m1 | none => .bad) := imp_e (pe_ifExp hc hx hy) fun st H Q q => by
  obtain ⟨F, io, l, m, S, d, m', e, q⟩ := q
  obtain ⟨u, m1, e1, e⟩ := bind_ok e
  cases ht : truth u with
  | none => rw [ht] at e; cases e
  | some k =>
    rw [ht] at e
    refine ⟨F, io, l, m, S, u, m1, k, e1, ht, fun F1 io1 H1 G1 S1 => ?_⟩
    cases k with
    | true => exact iteT ⟨F1, io1, l, m1, S.grow G1 S1, d, m', e, fun w F2 io2 H2 G2 S2 R2 => q w F2 io2 H2 (G1.trans G2) S2 (R2.earlier fun a z => G1.back z)⟩
    | false => exact iteF ⟨F1, io1, l, m1, S.grow G1 S1, d, m', e, fun w F2 io2 H2 G2 S2 R2 => q w F2 io2 H2 (G1.trans G2) S2 (R2.earlier fun a z => G1.back z)⟩

/-! ### tests -/
theorem t_plain {e : Expr} {ge : EvL} (h : PE X e (tE X.K G true ge)) (he : ∀ whole, isTrue e X.env whole = (do let v ← whole; standAt e.pos; holding [v] (truthy v))) : PT X e (tTt X.K G ge) := imp_t (pt_truth h he) fun st H Q q => by
  obtain ⟨F, io, l, m, S, d, m', c, e1, ht, q⟩ := q
  exact ⟨F, io, l, m, S, d, m', e1, fun v F1 io1 H1 G1 S1 R1 => ⟨c, lk_truth S1 R1.lk ht, q F1 io1 H1 G1 S1⟩⟩
theorem t_not {e : Expr} {ge : EvL} (h : PT X e (tTt X.K G ge)) : PT X (.UnaryOp .Not e pos) (tTt X.K G fun l m => (ge l m).bind fun x m1 => match truth x with | some c => .ok (.bl (!c)) m1 | none => .bad) := imp_t (pt_not h) fun st H Q q => by
  obtain ⟨F, io, l, m, S, d, m', c, e, ht, q⟩ := q
  obtain ⟨x, m1, e1, e⟩ := bind_ok e
  cases hx : truth x with
  | none => rw [hx] at e; cases e
  | some k =>
    rw [hx] at e
    cases e
    cases ht
    exact ⟨F, io, l, m, S, x, m', k, e1, hx, q⟩
def imp_w {e : Expr} {t t' : TT} (h : PW X e t) (i : ∀ st H Q, t' st H Q → t st H Q) : PW X e t' := ⟨fun wh pins s st H Q I q => h.run wh pins s st H Q I (i _ _ _ q)⟩
theorem w_and {x y : Expr} {rest : List Expr} {gx gy : EvL} (hx : PT X x (tTt X.K G gx)) (hy : PW X (.BoolOp .And (y :: rest) pos) (tTt X.K G gy)) :
    PW X (.BoolOp .And (x :: y :: rest) pos) (tTt X.K G fun l m => (gx l m).bind fun v m1 => match truth v with | some true => gy l m1 | some false => .ok v m1 | none => .bad) := imp_w (pw_and hx hy) fun st H Q q => by
  obtain ⟨F, io, l, m, S, d, m', c, e, ht, q⟩ := q
  obtain ⟨u, m1, e1, e⟩ := bind_ok e
  cases hu : truth u with
  | none => rw [hu] at e; cases e
  | some k =>
    rw [hu] at e
    refine ⟨F, io, l, m, S, u, m1, k, e1, hu, fun F1 io1 H1 G1 S1 => ?_⟩
    cases k with
    | true => exact iteT ⟨F1, io1, l, m1, S.grow G1 S1, d, m', c, e, ht, fun F2 io2 H2 G2 S2 => q F2 io2 H2 (G1.trans G2) S2⟩
    | false =>
      cases e
      rw [hu] at ht
      cases ht
      exact iteF (q F1 io1 H1 G1 S1)
theorem w_or {x y : Expr} {rest : List Expr} {gx gy : EvL} (hx : PT X x (tTt X.K G gx)) (hy : PW X (.BoolOp .Or (y :: rest) pos) (tTt X.K G gy)) :
    PW X (.BoolOp .Or (x :: y :: rest) pos) (tTt X.K G fun l m => (gx l m).bind fun v m1 => match truth v with | some true => .ok v m1 | some false => gy l m1 | none => .bad) := imp_w (pw_or hx hy) fun st H Q q => by
  obtain ⟨F, io, l, m, S, d, m', c, e, ht, q⟩ := q
  obtain ⟨u, m1, e1, e⟩ := bind_ok e
  cases hu : truth u with
  | none => rw [hu] at e; cases e
  | some k =>
    rw [hu] at e
    refine ⟨F, io, l, m, S, u, m1, k, e1, hu, fun F1 io1 H1 G1 S1 => ?_⟩
    cases k with
    | true =>
      cases e
      rw [hu] at ht
      cases ht
      exact iteT (q F1 io1 H1 G1 S1)
    | false => exact iteF ⟨F1, io1, l, m1, S.grow G1 S1, d, m', c, e, ht, fun F2 io2 H2 G2 S2 => q F2 io2 H2 (G1.trans G2) S2⟩
/-- a comparison as a test: its answer is a bool -/
theorem t_cmp {e : Expr} {r : R2} {ea eb : Expr} {ga gb : EvL} {op : D → D → Option D} (ha : PE X ea (tE X.K G true ga)) (hb : PE X eb (tE X.K G true gb))
    (h : ∀ {ta tb : TE}, PE X ea ta → PE X eb tb → PT X e (tTest (tOp r ta tb))) (ho : OpS X.K r op) (hB : ∀ x y d, op x y = some d → ∃ c, d = .bl c) :
    PT X e (tTt X.K G fun l m => (ga l m).bind fun v m1 => (gb l m1).bind fun w m2 => opt (op v w) m2) := imp_t (h ha hb) fun st H Q q => by
  obtain ⟨F, io, l, m, S, d, m', c, e1, ht, q⟩ := q
  obtain ⟨x, m1, e2, e1⟩ := bind_ok e1
  obtain ⟨y, m2, e3, e1⟩ := bind_ok e1
  obtain ⟨e4, rfl⟩ := opt_ok e1
  obtain ⟨c', rfl⟩ := hB x y d e4
  cases ht
  refine ⟨F, io, l, m, S, x, m1, e2, fun v F1 io1 H1 G1 S1 R1 => ?_⟩
  refine ⟨F1, io1, l, m1, S.grow G1 S1, y, m', e3, fun w F2 io2 H2 G2 S2 R2 => ?_⟩
  refine ho x y _ e4 F2 io2 m' H2 v w S2 (R1.lk.mono G2) R2.lk _ fun u F3 io3 H3 G3 S3 R3 => ?_
  cases R3
  exact ⟨c, rfl, q F3 io3 H3 ((G1.trans G2).trans G3) S3⟩
theorem cmp_bool {o : COp} : ∀ x y d, cmpop o x y = some d → ∃ c, d = .bl c := by
  intro x y d e
  cases o
  case eq => obtain ⟨_, rfl⟩ := ite_some (show (if _ = true then some (D.bl (eqv x y)) else none) = some d from e); exact ⟨_, rfl⟩
  case ne => obtain ⟨_, rfl⟩ := ite_some (show (if _ = true then some (D.bl (!eqv x y)) else none) = some d from e); exact ⟨_, rfl⟩
  case is =>
    have e : (isConst x y).map D.bl = some d := e
    cases h : isConst x y with
    | none => rw [h] at e; cases e
    | some c => rw [h] at e; cases e; exact ⟨_, rfl⟩
  case isnot =>
    have e : (isConst x y).map (fun c => D.bl (!c)) = some d := e
    cases h : isConst x y with
    | none => rw [h] at e; cases e
    | some c => rw [h] at e; cases e; exact ⟨_, rfl⟩
  case inn =>
    rcases in_kinds false e with ⟨ys, ey⟩ | ⟨ks, vs, ey⟩
    · obtain ⟨_, rfl⟩ := ite_some (seq_in false ey e); exact ⟨_, rfl⟩
    · obtain ⟨_, rfl⟩ := ite_some (dict_in (ks' := .non) (vs' := .non) false ey e); exact ⟨_, rfl⟩
  case notin =>
    rcases in_kinds true e with ⟨ys, ey⟩ | ⟨ks, vs, ey⟩
    · obtain ⟨_, rfl⟩ := ite_some (seq_in true ey e); exact ⟨_, rfl⟩
    · obtain ⟨_, rfl⟩ := ite_some (dict_in (ks' := .non) (vs' := .non) true ey e); exact ⟨_, rfl⟩
  all_goals (cases x <;> cases y <;> first | (cases e; exact ⟨_, rfl⟩) | cases e)

/-! ### a op b op' c -/
theorem s_chain {o o' : COp} {ea eb ec : Expr} {ga gb gc : EvL} {e : Expr} {r r' : R2} (ha : PE X ea (tE X.K G true ga)) (hb : PE X eb (tE X.K G true gb)) (hc : PE X ec (tE X.K G true gc))
    (h : ∀ {ta tb tc : TE}, PE X ea ta → PE X eb tb → PE X ec tc → PE X e (tChain r r' ta tb tc)) (ho : OpS X.K r (cmpop o)) (ho' : OpS X.K r' (cmpop o')) :
    PE X e (tE X.K G b fun l m => (ga l m).bind fun v m1 => (gb l m1).bind fun w m2 => (opt (cmpop o v w) m2).bind fun r m3 => match r with
    | .bl true => (gc l m3).bind fun u m4 => opt (cmpop o' w u) m4
    | .bl false => .ok (.bl false) m3
    | _ => .bad) := imp_e (h ha hb hc) fun st H Q q => by
  obtain ⟨F, io, l, m, S, d, m', e1, q⟩ := q
  obtain ⟨x, m1, e2, e1⟩ := bind_ok e1
  obtain ⟨y, m2, e3, e1⟩ := bind_ok e1
  obtain ⟨z, m3, e4, e1⟩ := bind_ok e1
  obtain ⟨e40, rfl⟩ := opt_ok e4
  obtain ⟨c, rfl⟩ := cmp_bool x y z e40
  refine ⟨F, io, l, m, S, x, m1, e2, fun v F1 io1 H1 G1 S1 R1 => ?_⟩
  refine ⟨F1, io1, l, m1, S.grow G1 S1, y, m3, e3, fun w F2 io2 H2 G2 S2 R2 => ?_⟩
  refine ho x y _ e40 F2 io2 m3 H2 v w S2 (R1.lk.mono G2) R2.lk _ fun u F3 io3 H3 G3 S3 R3 => ?_
  cases R3
  refine ⟨c, rfl, ?_⟩
  have G13 := (G1.trans G2).trans G3
  cases c with
  | false => cases e1; exact iteF (q _ F3 io3 H3 G13 S3 (.inl (.bl _)))
  | true =>
    obtain ⟨z2, m4, e5, e1⟩ := bind_ok e1
    obtain ⟨e6, rfl⟩ := opt_ok e1
    refine iteT ⟨F3, io3, l, m3, S.grow G13 S3, z2, m', e5, fun u2 F4 io4 H4 G4 S4 R4 => ?_⟩
    refine ho' y z2 d e6 F4 io4 m' H4 w u2 S4 (R2.lk.mono (G3.trans G4)) R4.lk _ fun u3 F5 io5 H5 G5 S5 R5 => ?_
    exact q u3 F5 io5 H5 ((G13.trans G4).trans G5) S5 (.inl (R5.earlier fun a z => (G13.trans G4).back z))

/-! ### o[i], o[lo:hi] -/
theorem s_idx {ea eb : Expr} {ga gb : EvL} (ha : PE X ea (tE X.K G true ga)) (hb : PE X eb (tE X.K G true gb)) (hi : PlainIx eb) :
    PE X (.Subscript ea eb pos) (tE X.K G b fun l m => (ga l m).bind fun v m1 => (gb l m1).bind fun w m2 => index v w m2) := imp_e (pe_ix ix_seq ha hb hi) fun st H Q q => by
  obtain ⟨F, io, l, m, S, d, m', e1, q⟩ := q
  obtain ⟨x, m1, e2, e1⟩ := bind_ok e1
  obtain ⟨y, m2, e3, e1⟩ := bind_ok e1
  obtain ⟨rfl, ho⟩ := opm_index x y m2 d m' e1
  refine ⟨F, io, l, m, S, x, m1, e2, fun v F1 io1 H1 G1 S1 R1 => ?_⟩
  refine ⟨F1, io1, l, m1, S.grow G1 S1, y, m', e3, fun w F2 io2 H2 G2 S2 R2 => ?_⟩
  refine ho F2 io2 H2 v w S2 (R1.lk.mono G2) R2.lk Q fun u F3 io3 H3 G3 S3 R3 => ?_
  exact q u F3 io3 H3 ((G1.trans G2).trans G3) S3 (.inl (R3.earlier fun a z => (G1.trans G2).back z))
/-- a bound of a slice -/
def tPt (K : PySem.W.Frag) (G : Gam) (g : EvL) : TO := fun st H Q => ∃ F io l m, Sim K G F io l m st H ∧ ∃ d m' o, g l m = .ok d m' ∧ part d = some o ∧
  ∀ F' io' H', Grow F io H F' io' H' → SimM K F' io' m' H' → Q o H'
theorem imp_o {eo : Option Expr} {t t' : TO} (h : PO X eo t) (i : ∀ st H Q, t' st H Q → t st H Q) : PO X eo t' := ⟨fun pins s st H Q I q => h.run pins s st H Q I (i _ _ _ q)⟩
theorem o_none {cs : CallS} : PO X none (tPt X.K G (evE cs true (.lit .unb))) := imp_o po_none fun st H Q q => by
  obtain ⟨F, io, l, m, S, d, m', o, e, ep, q⟩ := q
  cases e
  cases ep
  exact q F io H (.refl _ _ _) S.sm
theorem o_some {e : Expr} {ge : EvL} (h : PE X e (tE X.K G true ge)) : PO X (some e) (tPt X.K G ge) := imp_o (po_some h) fun st H Q q => by
  obtain ⟨F, io, l, m, S, d, m', o, e, ep, q⟩ := q
  refine ⟨F, io, l, m, S, d, m', e, fun v F1 io1 H1 G1 S1 R1 => ?_⟩
  cases d <;> first
    | (cases ep
       have h1 := lk_int R1.lk
       subst h1
       exact ⟨_, rfl, q F1 io1 H1 G1 S1⟩)
    | exact absurd rfl (lk_unb R1.lk)
    | cases ep
theorem s_slc {ea : Expr} {lo hi : Option Expr} {p2 : Pos} {ga gl gh : EvL} (ha : PE X ea (tE X.K G true ga)) (hl : PO X lo (tPt X.K G gl)) (hh : PO X hi (tPt X.K G gh)) :
    PE X (.Subscript ea (.Slice lo hi none p2) pos) (tE X.K G b fun l m => (ga l m).bind fun v m1 => (gl l m1).bind fun y m2 => (gh l m2).bind fun z m3 => opt (sliced v y z) m3) := imp_e (pe_slice slr_all ha hl hh) fun st H Q q => by
  obtain ⟨F, io, l, m, S, d, m', e1, q⟩ := q
  obtain ⟨x, m1, e2, e1⟩ := bind_ok e1
  obtain ⟨y, m2, e3, e1⟩ := bind_ok e1
  obtain ⟨z, m3, e4, e1⟩ := bind_ok e1
  obtain ⟨e5, rfl⟩ := opt_ok e1
  have e6 := e5
  unfold sliced at e6
  cases hy : part y with
  | none => rw [hy] at e6; cases e6
  | some a =>
    cases hz : part z with
    | none => rw [hy, hz] at e6; cases e6
    | some c =>
      refine ⟨F, io, l, m, S, x, m1, e2, fun v F1 io1 H1 G1 S1 R1 => ?_⟩
      refine ⟨F1, io1, l, m1, S.grow G1 S1, y, m2, a, e3, hy, fun F2 io2 H2 G2 S2 => ?_⟩
      have G12 := G1.trans G2
      refine ⟨F2, io2, l, m2, S.grow G12 S2, z, m', c, e4, hz, fun F3 io3 H3 G3 S3 => ?_⟩
      refine sliced_ok hy hz e5 S3 (R1.lk.mono (G2.trans G3)) fun u F4 io4 H4 G4 S4 R4 => ?_
      exact q u F4 io4 H4 ((G12.trans G3).trans G4) S4 (.inl (R4.earlier fun a z => (G12.trans G3).back z))
end
end Mp

set_option Elab.async false
set_option linter.all false
set_option maxRecDepth 100000
set_option maxHeartbeats 1000000
/-! MpG: calls, built-ins, what is walked, comprehensions. -/
namespace Mp
open PySem PySem.Spec PyProof.Rows L2

/-- what a def promises: it does what g says -/
def spI (K : PySem.W.Frag) (g : List D → Mem → Res D) : Sp := fun vs H Q _ => ∃ F io m ds, SimM K F io m H ∧ Reps K F io vs ds ∧ ∃ d m', g ds m = .ok d m' ∧
  ∀ v F' io' H', Grow F io H F' io' H' → SimM K F' io' m' H' → ResR K F' io' H H' v d → Q v H'
/-- the name x stands for a def that does what g says: n values are written, then those named ks, the last ones are dfl -/
def CallOk (X : Cx) (x : Str) (k n : Nat) (ks : List Str) (dfl : List D) (g : List D → Mem → Res D) : Prop := ∃ (a : Addr) (fd : FuncData) (ps : List Str) (dvs : List V) (ds : List Value), X.mg x = some (.ref a) ∧ PySem.W.keepIn X.K (.ref a) = true ∧
  FnOk X.prog X.w X.K X.mg X.base CX0 k a fd ps (spI X.K g) ∧ KBn X.K fd ps n ks (fun us ws => us ++ ws ++ ds) (fun vs zs => vs ++ zs ++ dvs) ∧ ∀ F io, Reps X.K F io dvs dfl
section
variable {X : Cx} {CX : CXT} {k n : Nat} {f : Addr} {fd : FuncData} {ps ks : List Str} {sp : Sp} {E : XK} {x : Str} {p pos : Pos} {kws : List Keyword} {tk : TA} {g : List Value → List Value → List Value} {gV : List V → List V → List V}
/-- f(k = v, ..) -/
theorem pe_callN0 (F : FnOk X.prog X.w X.K X.mg X.base CX k f fd ps sp) (hr : Room k X.A) (hg : Gl X x) (hm : X.mg x = some (.ref f)) (hk : PySem.W.keepIn X.K (.ref f) = true) (hb : KBn X.K fd ps 0 ks g gV) (hx : Passes CX X E)
    (hkw : PK X kws tk) (hall : (backToKw pos (keywordEach kws X.env)).all (·.1.isSome) = true) (hks : (backToKw pos (keywordEach kws X.env)).filterMap (·.1) = ks)
    (hdb : (x == ("__debug__" : Str)) = false) (hpl : ((backTo pos (starEach [] X.env)).any (·.1) || (backToKw pos (keywordEach kws X.env)).any (·.1.isNone)) = false) :
    PE X (.Call (.Name x p) [] kws pos) (tCallN 0 ks.length sp gV E tNil tk) := by
  refine ⟨fun pins s σ H Q I h => ?_⟩
  refine wpAny_Call_Name_kw (ld_glob I hg hm ?_ hdb)
  refine PySem.W.callWith_KW0 (h₀ := X.base) I.ok.mod.kin hk hall ?_ hpl
  refine thn (hkw.run pos pins s σ H _ I h) fun ws s2 ⟨zs, H2, I2, rz, l1, l2, q2⟩ => ⟨I2.kIn, ?_⟩
  rw [hks]
  exact run_fnN F hr hb hx I2 .nil rz rfl l2 q2
/-- f() -/
theorem pe_callN00 (F : FnOk X.prog X.w X.K X.mg X.base CX k f fd ps sp) (hr : Room k X.A) (hg : Gl X x) (hm : X.mg x = some (.ref f)) (hk : PySem.W.keepIn X.K (.ref f) = true) (hb : KBn X.K fd ps 0 [] g gV) (hx : Passes CX X E)
    (hdb : (x == ("__debug__" : Str)) = false) : PE X (.Call (.Name x p) [] [] pos) (tCallN 0 0 sp gV E tNil tNil) := by
  refine ⟨fun pins s σ H Q I h => ?_⟩
  obtain ⟨_, _, h⟩ := h
  refine wpAny_Call_Name_kw (ld_glob I hg hm ?_ hdb)
  exact PySem.W.callWith_K0 I.kIn hk (run_fnN (us := []) (ws := []) F hr hb hx I .nil .nil rfl rfl h)
end
theorem imp_k {X : Cx} {es : List Keyword} {t t' : TA} (h : PK X es t) (i : ∀ st H Q, t' st H Q → t st H Q) : PK X es t' := ⟨fun pos pins s st H Q I q => h.run pos pins s st H Q I (i _ _ _ q)⟩
section
variable {X : Cx} {G : Gam} {b : Bool} {pos p : Pos}
theorem k_nil {cs : CallS} : PK X [] (tAs X.K G (evEs cs [])) := imp_k pk_nil fun st H Q q => by
  obtain ⟨F, io, l, m, S, ds, m', e, q⟩ := q
  cases e
  exact q [] F io H (.refl _ _ _) S.sm .nil
theorem k_cons {e : Expr} {nm : Option Str} {kpos : Pos} {es : List Keyword} {ge : EvL} {gs : Loc → Mem → Res (List D)} (he : PE X e (tE X.K G false ge)) (hs : PK X es (tAs X.K G gs)) :
    PK X (⟨nm, e, kpos⟩ :: es) (tAs X.K G fun l m => (ge l m).bind fun x m1 => (gs l m1).bind fun xs m2 => .ok (frz x :: xs) m2) := imp_k (pk_cons he hs) fun st H Q q => by
  obtain ⟨F, io, l, m, S, ds, m', e, q⟩ := q
  obtain ⟨x, m1, e1, e⟩ := bind_ok e
  obtain ⟨xs, m2, e2, e⟩ := bind_ok e
  cases e
  refine ⟨F, io, l, m, S, x, m1, e1, fun v F1 io1 H1 G1 S1 R1 => ?_⟩
  have R1 : ResR X.K F1 io1 H H1 v x := R1.elim id fun z => nomatch z.1
  obtain ⟨F2, G2, S2, r2⟩ := R1.froze G1 S1
  refine ⟨F2, io1, l, m1, S.grow G2 S2, xs, m', e2, fun vs F3 io3 H3 G3 S3 R3 => ?_⟩
  exact q (v :: vs) F3 io3 H3 (G2.trans G3) S3 (.cons (r2.mono G3.ex G3.pre) R3)
theorem evEs_len {cs : CallS} {l : Loc} : ∀ {es : List E} {m m' : Mem} {xs : List D}, evEs cs es l m = .ok xs m' → xs.length = es.length
  | [], _, _, _, h => by cases h; rfl
  | e :: es, m, m', xs, h => by
    obtain ⟨x, m1, e1, h⟩ := bind_ok (show (evE cs false e l m).bind _ = _ from h)
    obtain ⟨ys, m2, e2, h⟩ := bind_ok h
    cases h
    exact congrArg (· + 1) (evEs_len e2)
/-- a call, positional values first, then the named ones -/
theorem call_imp {cs : CallS} {x : Str} {k n : Nat} {ks : List Str} {dfl : List D} {g : List D → Mem → Res D} {es1 es2 : List E} {t tk : TA} {dvs : List V} (h1 : ∀ st H Q, tAs X.K G (evEs cs es1) st H Q → t st H Q) (h2 : ∀ st H Q, tAs X.K G (evEs cs es2) st H Q → tk st H Q)
    (n1 : es1.length = n) (n2 : es2.length = ks.length) (rd : ∀ F io, Reps X.K F io dvs dfl) : ∀ st H Q, tE X.K G b (fun l m => (evEs cs es1 l m).bind fun xs m1 => (evEs cs es2 l m1).bind fun ys m2 => g (xs ++ ys ++ dfl) m2) st H Q → tCallN n ks.length (spI X.K g) (fun vs zs => vs ++ zs ++ dvs) E0 t tk st H Q := by
  intro st H Q q
  obtain ⟨F, io, l, m, S, d, m', e, q⟩ := q
  obtain ⟨xs, m1, e1, e⟩ := bind_ok e
  obtain ⟨ys, m2, e2, e⟩ := bind_ok e
  refine h1 st H _ ⟨F, io, l, m, S, xs, m1, e1, fun vs F1 io1 H1 G1 S1 R1 => ?_⟩
  refine h2 st H1 _ ⟨F1, io1, l, m1, S.grow G1 S1, ys, m2, e2, fun zs F2 io2 H2 G2 S2 R2 => ?_⟩
  refine ⟨by rw [R1.len, evEs_len e1, n1], by rw [R2.len, evEs_len e2, n2], ?_⟩
  exact ⟨F2, io2, m2, xs ++ ys ++ dfl, S2, ((R1.mono G2.ex G2.pre).append R2).append (rd F2 io2), d, m', e, fun v F3 io3 H3 G3 S3 R3 => q v F3 io3 H3 ((G1.trans G2).trans G3) S3 (.inl (R3.earlier fun a z => (G1.trans G2).back z))⟩
def kwOk : List Keyword → List Str → Bool
  | [], [] => true
  | ⟨some x, _, _⟩ :: r, y :: ys => x == y && kwOk r ys
  | _, _ => false
theorem kw_all {env : Env} : ∀ {kws : List Keyword} {ks : List Str}, kwOk kws ks = true → (backToKw pos (keywordEach kws env)).all (·.1.isSome) = true ∧ (backToKw pos (keywordEach kws env)).filterMap (·.1) = ks ∧ (backToKw pos (keywordEach kws env)).any (·.1.isNone) = false
  | [], [], _ => ⟨rfl, rfl, rfl⟩
  | ⟨some x, e, kp⟩ :: r, y :: ys, h => by
    simp only [kwOk, Bool.and_eq_true, beq_iff_eq] at h
    obtain ⟨h1, h2, h3⟩ := kw_all (env := env) h.2
    obtain rfl := h.1
    refine ⟨?_, ?_, ?_⟩
    · show (true && (backToKw pos (keywordEach r env)).all (·.1.isSome)) = true
      rw [h1]; rfl
    · show x :: (backToKw pos (keywordEach r env)).filterMap (·.1) = _
      rw [h2]
    · show (false || (backToKw pos (keywordEach r env)).any (·.1.isNone)) = false
      rw [h3]; rfl
  | [], _ :: _, h => by cases h
  | ⟨some _, _, _⟩ :: _, [], h => by cases h
  | ⟨none, _, _⟩ :: _, _, h => by cases h
theorem s_call {cs : CallS} {x : Str} {k : Nat} {es : List Expr} {kws : List Keyword} {es1 es2 : List E} {dfl : List D} {ks : List Str} {g : List D → Mem → Res D} (hc : CallOk X x k es1.length ks dfl g) (hr : Room k X.A) (hg : Gl X x)
    (ha : PA X es (tAs X.K G (evEs cs es1))) (hk : PK X kws (tAs X.K G (evEs cs es2))) (hl : es.length = es1.length) (hl2 : es2.length = ks.length) (hn : noStars es = true) (hkw : kwOk kws ks = true)
    (hdb : (x == ("__debug__" : Str)) = false) : PE X (.Call (.Name x p) es kws pos) (tE X.K G b fun l m => (evEs cs es1 l m).bind fun xs m1 => (evEs cs es2 l m1).bind fun ys m2 => g (xs ++ ys ++ dfl) m2) := by
  obtain ⟨a, fd, ps, dvs, ds, hm, hkp, Fn, hb, rd⟩ := hc
  obtain ⟨k1, k2, k3⟩ := kw_all (pos := pos) (env := X.env) hkw
  cases es with
  | cons e es =>
    have hn2 := hn
    simp only [noStars, Bool.and_eq_true, Bool.not_eq_true'] at hn
    refine imp_e (pe_callN Fn hr hg hm hkp hb (E := E0) pass0 ha hk k1 k2 hdb (star_ok hn.1) ?_) (call_imp (cs := cs) (x := x) (k := k) (fun _ _ _ q => q) (fun _ _ _ q => q) rfl hl2 rd)
    rw [stars_none hn2, k3]; rfl
  | nil =>
    have e0 : es1 = [] := by
      cases es1 with
      | nil => rfl
      | cons _ _ => cases hl
    subst e0
    cases kws with
    | cons kw kws =>
      refine imp_e (pe_callN0 Fn hr hg hm hkp hb (E := E0) pass0 hk k1 k2 hdb ?_) (call_imp (cs := cs) (x := x) (k := k) (fun st H Q q => ?_) (fun _ _ _ q => q) rfl hl2 rd)
      · rw [k3]; rfl
      · obtain ⟨F, io, l, m, S, ds, m', e, q⟩ := q
        cases e
        exact q [] F io H (.refl _ _ _) S.sm .nil
    | nil =>
      have e1 : ks = [] := by
        cases ks with
        | nil => rfl
        | cons _ _ => cases hkw
      subst e1
      refine imp_e (pe_callN00 Fn hr hg hm hkp hb (E := E0) pass0 hdb) (call_imp (cs := cs) (x := x) (k := k) (ks := []) (fun st H Q q => ?_) (fun st H Q q => ?_) rfl hl2 rd)
      · obtain ⟨F, io, l, m, S, ds, m', e, q⟩ := q
        cases e
        exact q [] F io H (.refl _ _ _) S.sm .nil
      · have e2 : es2 = [] := by
          cases es2 with
          | nil => rfl
          | cons _ _ => cases hl2
        subst e2
        obtain ⟨F, io, l, m, S, ds, m', e, q⟩ := q
        cases e
        exact q [] F io H (.refl _ _ _) S.sm .nil

/-! ### {} -/
theorem s_dnew : PE X (.Dict [] [] pos) (tE X.K G b fun _ m => .ok (.odct [] []) m) := imp_e pe_dnewT fun st H Q q => by
  obtain ⟨F, io, l, m, S, d, m', e, q⟩ := q
  cases e
  exact fun p np => q (.ref p) F io _ (.new np) (S.sm.new np) (.inl ⟨p, [], rfl, upd_same, rfl, .nil, S.sm.fnone np, S.sm.notin np, np⟩)

/-! ### built-ins by values -/
/-- a call by values does what op says -/
def CallS1 (K : PySem.W.Frag) (r : List V → Hp → VK → Prop) (op : List D → Option D) : Prop := ∀ xs d, op xs = some d → ∀ F io m H vs, SimM K F io m H → Lks K F io H vs xs →
  ∀ Q : VK, (∀ u F' io' H', Grow F io H F' io' H' → SimM K F' io' m H' → ResR K F' io' H H' u d → Q u H') → r vs H Q
theorem s_blt {x : Str} {id : String} {e : Expr} {es : List Expr} {gs : Loc → Mem → Res (List D)} {r : List V → Hp → VK → Prop} {op : List D → Option D} (hc : CallR X (.builtin id) r) (hg : Gl X x) (hm : X.mg x = none) (hv : bootBuiltins x = some (.builtin id))
    (ha : PA X (e :: es) (tAb X.K G gs)) (ho : CallS1 X.K r op) (hn : noStars (e :: es) = true) (hnm : x ≠ "__name__") (hdb : (x == ("__debug__" : Str)) = false) :
    PE X (.Call (.Name x p) (e :: es) [] pos) (tE X.K G b fun l m => (gs l m).bind fun xs m1 => opt (op xs) m1) := by
  simp only [noStars, Bool.and_eq_true, Bool.not_eq_true'] at hn
  refine imp_e (pe_callB hc hg hm hv ha hnm hdb (star_ok hn.1) (stars_none hn.2)) fun st H Q q => ?_
  obtain ⟨F, io, l, m, S, d, m', e, q⟩ := q
  obtain ⟨xs, m1, e1, e2⟩ := bind_ok e
  obtain ⟨e3, rfl⟩ := opt_ok e2
  refine ⟨F, io, l, m, S, xs, m', e1, fun vs F1 io1 H1 G1 S1 R1 => ?_⟩
  exact ho xs d e3 F1 io1 m' H1 vs S1 R1 Q fun u F2 io2 H2 G2 S2 R2 => q u F2 io2 H2 (G1.trans G2) S2 (.inl (R2.earlier fun a z => G1.back z))
theorem s_bty {x : Str} {id : String} {e : Expr} {es : List Expr} {gs : Loc → Mem → Res (List D)} {r : List V → Hp → VK → Prop} {op : List D → Option D} (hc : CallR X (.type id) r) (hg : Gl X x) (hm : X.mg x = none) (hv : bootBuiltins x = some (.type id))
    (ha : PA X (e :: es) (tAb X.K G gs)) (ho : CallS1 X.K r op) (hn : noStars (e :: es) = true) (hnm : x ≠ "__name__") (hdb : (x == ("__debug__" : Str)) = false) :
    PE X (.Call (.Name x p) (e :: es) [] pos) (tE X.K G b fun l m => (gs l m).bind fun xs m1 => opt (op xs) m1) := by
  simp only [noStars, Bool.and_eq_true, Bool.not_eq_true'] at hn
  refine imp_e (pe_callTy hc hg hm hv ha hnm hdb (star_ok hn.1) (stars_none hn.2)) fun st H Q q => ?_
  obtain ⟨F, io, l, m, S, d, m', e, q⟩ := q
  obtain ⟨xs, m1, e1, e2⟩ := bind_ok e
  obtain ⟨e3, rfl⟩ := opt_ok e2
  refine ⟨F, io, l, m, S, xs, m', e1, fun vs F1 io1 H1 G1 S1 R1 => ?_⟩
  exact ho xs d e3 F1 io1 m' H1 vs S1 R1 Q fun u F2 io2 H2 G2 S2 R2 => q u F2 io2 H2 (G1.trans G2) S2 (.inl (R2.earlier fun a z => G1.back z))
end
section
variable {K : PySem.W.Frag}
theorem lks1 {F : Hp} {io : List Addr} {H : Hp} {vs : List V} {d : D} (h : Lks K F io H vs [d]) : ∃ v, vs = [v] ∧ Lk K F io H v d := by
  cases h with
  | cons a r => cases r; exact ⟨_, rfl, a⟩
/-! len -/
def rLenA (K : PySem.W.Frag) : List V → Hp → VK → Prop := fun xs H Q => ((∃ p ys, xs = [.ref p] ∧ (SqL K H p ys ∨ SqT K H p ys) ∧ Q (.int ys.length) H) ∨ (∃ z, xs = [.str z] ∧ z.length ≤ sizeLine ∧ Q (.int z.length) H)) ∨ rLenT xs H Q
theorem callr_len {X : Cx} : CallR X (.builtin "len") (rLenA X.K) := CallR.or (CallR.or call_len_seq call_len_str) call_len_dT
theorem cs_len : CallS1 K (rLenA K) (prim .len) := by
  intro xs d e F io m H vs S L Q k
  cases L with
  | nil => cases e
  | @cons v vs x xs a r =>
    cases r with
    | cons _ _ => cases e
    | nil =>
      cases hx : seqItems x with
      | some ys =>
        obtain ⟨p, us, rfl, h1, r⟩ := lk_seq S a hx
        have e' : d = .int ys.length := by
          cases x <;> first | (cases hx; done) | (simp only [prim, hx, Option.map] at e; exact (Option.some.inj e).symm)
        subst e'
        refine .inl (.inl ⟨p, us, rfl, ?_, ?_⟩)
        · rcases h1 with h1 | h1
          · exact .inl (.inl (.inl h1))
          · exact .inr (.inl (.inl h1))
        · rw [r.len]; exact scal_ans S (.int _) rfl k
      | none =>
        cases x <;> first | (cases hx; done) | skip
        all_goals first
          | (obtain ⟨hz, rfl⟩ := ite_some (show (if _ = true then some (D.int _) else none) = some d from e)
             have h1 := lk_str a
             subst h1
             exact .inl (.inr ⟨_, rfl, lim_line hz, scal_ans S (.int _) rfl k⟩))
          | (obtain ⟨p, kvs, rfl, hp, ek, r⟩ := lk_dict S a (.inl rfl)
             obtain rfl := Option.some.inj (show some (D.int _) = some d from e)
             refine .inr ⟨p, kvs, rfl, hp, ?_⟩
             rw [ek, List.length_map] at k
             exact scal_ans S (.int _) rfl k)
          | (obtain ⟨p, kvs, rfl, hp, ek, r⟩ := lk_dict S a (.inr rfl)
             obtain rfl := Option.some.inj (show some (D.int _) = some d from e)
             refine .inr ⟨p, kvs, rfl, hp, ?_⟩
             rw [ek, List.length_map] at k
             exact scal_ans S (.int _) rfl k)
          | (simp [prim, seqItems] at e)
/-! abs, int -/
theorem cs_abs : CallS1 K (fun xs H Q => ∃ i, xs = [.int i] ∧ Q (.int (if i < 0 then -i else i)) H) (prim .abs) := by
  intro xs d e F io m H vs S L Q k
  cases L with
  | nil => cases e
  | @cons v vs x xs a r =>
    cases r with
    | cons _ _ => cases x <;> cases e
    | nil =>
      cases x <;> first
        | (cases e
           have h1 := lk_int a
           subst h1
           exact ⟨_, rfl, scal_ans S (.int _) rfl k⟩)
        | cases e
theorem cs_toInt : CallS1 K (fun xs H Q => (∃ i, xs = [.int i] ∧ Q (.int i) H) ∨ ∃ k, xs = [.bl k] ∧ Q (.int (if k then 1 else 0)) H) (prim .toInt) := by
  intro xs d e F io m H vs S L Q k
  cases L with
  | nil => cases e
  | @cons v vs x xs a r =>
    cases r with
    | cons _ _ => cases x <;> cases e
    | nil =>
      cases x <;> first
        | (cases e
           have h1 := lk_int a
           subst h1
           exact .inl ⟨_, rfl, scal_ans S (.int _) rfl k⟩)
        | (cases e
           have h1 := lk_bl a
           subst h1
           exact .inr ⟨_, rfl, scal_ans S (.int _) rfl k⟩)
        | cases e
/-! list(x), tuple(x) -/
theorem cs_toList : CallS1 K (fun xs H Q => ∃ p ys, xs = [.ref p] ∧ (SqL K H p ys ∨ SqT K H p ys) ∧ ∀ l, H l = none → Q (.ref l) (upd H l (.lst ys))) (prim .toList) := by
  intro xs d e F io m H vs S L Q k
  cases L with
  | nil => cases e
  | @cons v vs x xs a r =>
    cases r with
    | cons _ _ => cases e
    | nil =>
      have e : (seqItems x).map D.own = some d := e
      cases hx : seqItems x with
      | none => rw [hx] at e; cases e
      | some ys =>
        rw [hx] at e
        cases e
        obtain ⟨p, us, rfl, h1, r⟩ := lk_seq S a hx
        refine ⟨p, us, rfl, ?_, fun q nq => list_ans S r nq k⟩
        rcases h1 with h1 | h1
        · exact .inl (.inl (.inl h1))
        · exact .inr (.inl (.inl h1))
theorem cs_toTuple : CallS1 K (fun xs H Q => ∃ p ys, xs = [.ref p] ∧ ((SqL K H p ys ∧ ∀ l, H l = none → Q (.ref l) (upd H l (.tup ys))) ∨ (SqT K H p ys ∧ Q (.ref p) H))) (prim .toTuple) := by
  intro xs d e F io m H vs S L Q k
  cases L with
  | nil => cases e
  | @cons v vs x xs a r =>
    cases r with
    | cons _ _ => cases e
    | nil =>
      have e : (seqItems x).map D.tup = some d := e
      cases x <;> first
        | (cases e
           obtain ⟨p, us, rfl, h1, r⟩ := lk_tup S a
           exact ⟨p, us, rfl, .inr ⟨.inl (.inl h1), k _ F io H (.refl _ _ _) S (lk_rep a)⟩⟩)
        | (cases e
           obtain ⟨p, us, rfl, h1, r⟩ := lk_list S a (.inl rfl)
           exact ⟨p, us, rfl, .inl ⟨.inl (.inl h1), fun q nq => tup_ans S r nq k⟩⟩)
        | (cases e
           obtain ⟨p, us, rfl, h1, r⟩ := lk_list S a (.inr rfl)
           exact ⟨p, us, rfl, .inl ⟨.inl (.inl h1), fun q nq => tup_ans S r nq k⟩⟩)
        | cases e
/-! all, any -/
theorem reps_bools {F : Hp} {io : List Addr} : ∀ {us : List V} {xs : List D} {bs : List Bool}, Reps K F io us xs → bools xs = some bs → us = bs.map V.bl
  | _, _, _, .nil, e => by cases e; rfl
  | _, _, _, @Reps.cons _ _ _ v vs d ds a r, e => by
    cases d <;> first
      | (simp only [bools] at e
         cases h : bools ds with
         | none => rw [h] at e; cases e
         | some cs =>
           rw [h] at e
           cases e
           have h1 := reps_bools r h
           cases a
           rw [h1]; rfl)
      | cases e
theorem cs_all : CallS1 K (rAll K) (prim .all) := by
  intro xs d e F io m H vs S L Q k
  cases L with
  | nil => cases e
  | @cons v vs x xs a r =>
    cases r with
    | cons _ _ => cases x <;> cases e
    | nil =>
      cases x <;> first
        | cases e; done
        | (simp only [prim] at e
           obtain ⟨bs, hb, rfl⟩ := Option.map_eq_some_iff.mp e
           first
             | (obtain ⟨p, us, rfl, h1, r⟩ := lk_list S a (.inl rfl)
                exact ⟨p, bs, rfl, .inl (.inl (by rw [h1, reps_bools r hb])), scal_ans S (.bl _) rfl k⟩)
             | (obtain ⟨p, us, rfl, h1, r⟩ := lk_list S a (.inr rfl)
                exact ⟨p, bs, rfl, .inl (.inl (by rw [h1, reps_bools r hb])), scal_ans S (.bl _) rfl k⟩))
theorem cs_any : CallS1 K (rAny K) (prim .any) := by
  intro xs d e F io m H vs S L Q k
  cases L with
  | nil => cases e
  | @cons v vs x xs a r =>
    cases r with
    | cons _ _ => cases x <;> cases e
    | nil =>
      cases x <;> first
        | cases e; done
        | (simp only [prim] at e
           obtain ⟨bs, hb, rfl⟩ := Option.map_eq_some_iff.mp e
           first
             | (obtain ⟨p, us, rfl, h1, r⟩ := lk_list S a (.inl rfl)
                exact ⟨p, bs, rfl, .inl (.inl (by rw [h1, reps_bools r hb])), scal_ans S (.bl _) rfl k⟩)
             | (obtain ⟨p, us, rfl, h1, r⟩ := lk_list S a (.inr rfl)
                exact ⟨p, bs, rfl, .inl (.inl (by rw [h1, reps_bools r hb])), scal_ans S (.bl _) rfl k⟩))
/-! isinstance with a built-in type -/
def tyName : Ty → String
  | .int => "int"
  | .bool => "bool"
  | .str => "str"
  | .tuple => "tuple"
  | .list => "list"
def tyStr (t : Ty) : Str := Str.ofString (tyName t)
theorem isi_ok {t : Ty} {x : D} {c : Bool} (e : isTy t x = some c) {F : Hp} {io : List Addr} {m : Mem} {H : Hp} {v : V} (S : SimM K F io m H) (a : Lk K F io H v x) : ∃ u, TyX K H v u ∧ PySem.W.kitOne K u (.type (tyName t)) = some c := by
  cases x with
  | non => have h := lk_non a; subst h; refine ⟨_, .base .non, ?_⟩; cases t <;> cases e <;> exact kit_ty (by decide +kernel)
  | bl _ => have h := lk_bl a; subst h; refine ⟨_, .base (.bl _), ?_⟩; cases t <;> cases e <;> exact kit_ty (by decide +kernel)
  | int _ => have h := lk_int a; subst h; refine ⟨_, .base (.int _), ?_⟩; cases t <;> cases e <;> exact kit_ty (by decide +kernel)
  | str _ => have h := lk_str a; subst h; refine ⟨_, .base (.str _), ?_⟩; cases t <;> cases e <;> exact kit_ty (by decide +kernel)
  | tup _ => obtain ⟨p, us, rfl, h1, r⟩ := lk_tup S a; refine ⟨_, .base (.tup h1), ?_⟩; cases t <;> cases e <;> exact kit_ty (by decide +kernel)
  | lst _ => obtain ⟨p, us, rfl, h1, r⟩ := lk_list S a (.inl rfl); refine ⟨_, .base (.lst h1), ?_⟩; cases t <;> cases e <;> exact kit_ty (by decide +kernel)
  | own _ => obtain ⟨p, us, rfl, h1, r⟩ := lk_list S a (.inr rfl); refine ⟨_, .base (.lst h1), ?_⟩; cases t <;> cases e <;> exact kit_ty (by decide +kernel)
  | _ => cases t <;> cases e
theorem s_isi {X : Cx} {G : Gam} {b : Bool} {pos p p2 : Pos} {x y : Str} {t : Ty} {e : Expr} {ge : EvL} (hg : Gl X x) (hm : X.mg x = none) (hv : bootBuiltins x = some (.builtin "isinstance")) (he : PE X e (tE X.K G true ge)) (hs : isStar e = false) (hnm : x ≠ "__name__") (hdb : (x == ("__debug__" : Str)) = false)
    (hy : PE X (.Name y p2) (tC (.ty (tyName t)))) :
    PE X (.Call (.Name x p) [e, .Name y p2] [] pos) (tE X.K G b fun l m => ((ge l m).bind fun v m1 => (Res.ok ([] : List D) m1).bind fun vs m2 => .ok (v :: vs) m2).bind fun xs m1 => opt (prim (.isinst t) xs) m1) := by
  refine imp_e (pe_callB call_isi hg hm hv (pa_cons he (pa_cons hy pa_nil) (star_ok hs)) hnm hdb (star_ok hs) rfl) fun st H Q q => ?_
  obtain ⟨F, io, l, m, S, d, m', e, q⟩ := q
  obtain ⟨xs, m1, e1, e2⟩ := bind_ok e
  obtain ⟨w, m2, e3, e4⟩ := bind_ok e1
  cases e4
  obtain ⟨e5, rfl⟩ := opt_ok e2
  have e5 : (isTy t w).map D.bl = some d := e5
  cases hc : isTy t w with
  | none => rw [hc] at e5; cases e5
  | some c =>
    rw [hc] at e5
    cases e5
    refine ⟨F, io, l, m, S, w, m', e3, fun v F1 io1 H1 G1 S1 R1 => ?_⟩
    obtain ⟨u, ty, ko⟩ := isi_ok hc S1 R1.lk
    exact ⟨v, .ty (tyName t), u, .type (tyName t), c, rfl, .ty _, ty, ko, q _ F1 io1 H1 G1 S1 (.inl (.bl _))⟩
end
end Mp

set_option Elab.async false
set_option linter.all false
set_option maxRecDepth 100000
set_option maxHeartbeats 1000000
/-! MpH: what is walked, targets, comprehensions. -/
namespace Mp
open PySem PySem.Spec PyProof.Rows L2

/-! ### a list or tuple, whichever it is -/
def iSeq (K : PySem.W.Frag) (tl : TE) : TI := fun st H R => tl st H fun x H1 => ∃ a, x = .ref a ∧ (((∃ xs, SqL K H1 a xs) ∧ R (Itl K a) H1) ∨ ((∃ xs, SqT K H1 a xs) ∧ R (Itt K a) H1))
theorem pi_seq {X : Cx} {tg l : Expr} {tl : TE} (hl : PE X l tl) : PI X tg l (iSeq X.K tl) := by
  refine ⟨fun pins s st H R I h => ?_⟩
  refine thn (hl.run pins s st H _ I h) fun v s1 ⟨x, H1, I1, r1, q1⟩ => ?_
  obtain ⟨a, e, q1⟩ := q1
  subst e
  cases r1
  rcases q1 with ⟨⟨xs, hq⟩, q⟩ | ⟨⟨xs, hq⟩, q⟩
  · obtain ⟨its, rv, p, hz⟩ := I1.list hq
    refine wpAny_pyIter_list p.isList ?_
    refine ⟨s1.heap.objs.size, [s1.heap.objs.size], _, _, H1, rfl, I1.kept (t' := s1.toks) fun b o e => Heap.get?_push_of_some _ e, turn_list a _, ⟨_, Heap.get?_push_size _ rfl, rfl, rfl⟩, fun b hb => ?_, q⟩
    have e : b = s1.heap.objs.size := by simpa using hb
    subst e
    exact I1.fpOk (Nat.le_refl _) (I1.hok.fresh (Nat.le_refl _))
  · obtain ⟨its, rv, p, hz⟩ := I1.tuple hq
    refine wpAny_pyIter_tuple (show s1.heap.IsTuple a its.toArray from p) ?_
    refine ⟨s1.heap.objs.size, [s1.heap.objs.size], _, _, H1, rfl, I1.kept (t' := s1.toks) fun b o e => Heap.get?_push_of_some _ e, turn_tuple a _, ⟨_, Heap.get?_push_size _ rfl, rfl, rfl⟩, fun b hb => ?_, q⟩
    have e : b = s1.heap.objs.size := by simpa using hb
    subst e
    exact I1.fpOk (Nat.le_refl _) (I1.hok.fresh (Nat.le_refl _))
theorem imp_i {X : Cx} {tg e : Expr} {t t' : TI} (h : PI X tg e t) (i : ∀ st H Q, t' st H Q → t st H Q) : PI X tg e t' := ⟨fun pins s st H Q I q => h.run pins s st H Q I (i _ _ _ q)⟩

/-- J yields the items xs, wherever the heap is a later one by Later -/
def Yl (K : PySem.W.Frag) (J : It) (xs : List D) (Later : Hp → List Addr → Hp → Prop) : Prop := ∀ i F io m H, Later F io H → SimM K F io m H →
  (i < xs.length → J.go i H) ∧ (xs.length ≤ i → J.stop i H) ∧ (i < xs.length → ∀ x H', J.yld i H x H' → ∃ d F', xs[i]? = some d ∧ Grow F io H F' io H' ∧ SimM K F' io m H' ∧ Rep K F' io x d)
/-- later: with all that a comprehension does | whatever the names do -/
def LaterG (F : Hp) (io : List Addr) (H : Hp) : Hp → List Addr → Hp → Prop := fun F' io' H' => Grow F io H F' io' H'
def LaterF (F : Hp) (io : List Addr) : Hp → List Addr → Hp → Prop := fun F' io' _ => Exh F F' ∧ io <+: io'
section
variable {K : PySem.W.Frag}
theorem yl_lst {a : Addr} {us : List V} {xs : List D} {F0 : Hp} {io0 : List Addr} {Later : Hp → List Addr → Hp → Prop} (r : Reps K F0 io0 us xs) (hl : ∀ F io m H, Later F io H → SimM K F io m H → SqL K H a us ∧ Exh F0 F ∧ io0 <+: io) : Yl K (Itl K a) xs Later := by
  intro i F io m H L S
  obtain ⟨h1, h2, h3⟩ := hl F io m H L S
  have hlen := r.len
  refine ⟨fun hi => ⟨us, us[i]'(by omega), h1, by simp⟩, fun hi => ⟨us, h1, by omega⟩, fun hi x H' y => ?_⟩
  obtain ⟨e, y⟩ := y
  subst e
  have hx := y us h1
  obtain ⟨u, hu, ru⟩ := r.get (List.getElem?_eq_getElem hi)
  rw [hx] at hu
  cases hu
  exact ⟨_, F, List.getElem?_eq_getElem hi, .refl _ _ _, S, ru.mono h2 h3⟩
theorem yl_tup {a : Addr} {us : List V} {xs : List D} {F0 : Hp} {io0 : List Addr} {Later : Hp → List Addr → Hp → Prop} (r : Reps K F0 io0 us xs) (hl : ∀ F io m H, Later F io H → SimM K F io m H → SqT K H a us ∧ Exh F0 F ∧ io0 <+: io) : Yl K (Itt K a) xs Later := by
  intro i F io m H L S
  obtain ⟨h1, h2, h3⟩ := hl F io m H L S
  have hlen := r.len
  refine ⟨fun hi => ⟨us, us[i]'(by omega), h1, by simp⟩, fun hi => ⟨us, h1, by omega⟩, fun hi x H' y => ?_⟩
  obtain ⟨e, y⟩ := y
  subst e
  have hx := y us h1
  obtain ⟨u, hu, ru⟩ := r.get (List.getElem?_eq_getElem hi)
  rw [hx] at hu
  cases hu
  exact ⟨_, F, List.getElem?_eq_getElem hi, .refl _ _ _, S, ru.mono h2 h3⟩
theorem upTo_len : ∀ (n : Nat) (lo : Int), (upTo lo n).length = n
  | 0, _ => rfl
  | n + 1, lo => by rw [upTo, List.length_cons, upTo_len n]
theorem upTo_get : ∀ (n : Nat) (lo : Int) (i : Nat), i < n → (upTo lo n)[i]? = some (.int (lo + i))
  | 0, _, _, h => absurd h (Nat.not_lt_zero _)
  | n + 1, lo, 0, _ => by simp [upTo]
  | n + 1, lo, i + 1, h => by
    rw [upTo, List.getElem?_cons_succ, upTo_get n (lo + 1) i (by omega)]
    congr 2
    omega
theorem yl_rng {lo : Int} {n : Nat} {Later : Hp → List Addr → Hp → Prop} : Yl K (Itr lo n) (upTo lo n) Later := by
  intro i F io m H L S
  refine ⟨fun hi => by rw [upTo_len] at hi; exact hi, fun hi => by rw [upTo_len] at hi; exact hi, fun hi x H' y => ?_⟩
  obtain ⟨e, y⟩ := y
  subst e y
  rw [upTo_len] at hi
  exact ⟨_, F, upTo_get n lo i hi, .refl _ _ _, S, .int _⟩
end

/-- what a loop, a comprehension walks: what g says -/
def iG (K : PySem.W.Frag) (G : Gam) (g : EvL) : TI := fun st H R => ∃ F io l m, Sim K G F io l m st H ∧ ∃ d m' xs, g l m = .ok d m' ∧ items d = some xs ∧
  ∀ J F' io' H', Grow F io H F' io' H' → SimM K F' io' m' H' → Yl K J xs (LaterG F' io' H') → R J H'
/-- .. and it is shared from now on -/
def iF (K : PySem.W.Frag) (G : Gam) (g : EvL) : TI := fun st H R => ∃ F io l m, Sim K G F io l m st H ∧ ∃ d m' xs, g l m = .ok d m' ∧ items (frz d) = some xs ∧
  ∀ J F' io' H', Grow F io H F' io' H' → SimM K F' io' m' H' → Yl K J xs (LaterF F' io') → R J H'
section
variable {X : Cx} {G : Gam} {tg : Expr}
theorem i_seq {e : Expr} {ge : EvL} (h : PE X e (tE X.K G true ge)) : PI X tg e (iG X.K G ge) := imp_i (pi_seq h) fun st H R q => by
  obtain ⟨F, io, l, m, S, d, m', xs, e1, e2, q⟩ := q
  refine ⟨F, io, l, m, S, d, m', e1, fun v F1 io1 H1 G1 S1 R1 => ?_⟩
  have lk := R1.lk
  cases d <;> first | cases e2; done | skip
  case tup ds =>
    cases e2
    have rr := lk_rep lk
    cases rr with
    | tup hf r => exact ⟨_, rfl, .inr ⟨⟨_, .inl (.inl (S1.ex _ _ hf))⟩, q _ F1 io1 H1 G1 S1 (yl_tup r fun F2 io2 m2 H2 L S2 => ⟨.inl (.inl (S2.ex _ _ (L.ex _ _ hf))), L.ex, L.pre⟩)⟩⟩
  case scr ds =>
    cases e2
    have rr := lk_rep lk
    cases rr with
    | scr hf r => exact ⟨_, rfl, .inl ⟨⟨_, sql_ex S1.ex hf⟩, q _ F1 io1 H1 G1 S1 (yl_lst r fun F2 io2 m2 H2 L S2 => ⟨sql_ex (L.ex.trans S2.ex) hf, L.ex, L.pre⟩)⟩⟩
  case itr ds => exact absurd (lk_rep lk) (fun z => nomatch z)
  all_goals
    cases e2
    rcases lk with lk | ⟨p, us, ds, ed, ev, hp, r, ni⟩ | ⟨p, kvs, ks, ds, ed | ed, _⟩
    · cases lk <;> rename_i a us hf r <;> exact ⟨_, rfl, .inl ⟨⟨_, .inl (.inl (S1.ex _ _ hf))⟩, q _ F1 io1 H1 G1 S1 (yl_lst r fun F2 io2 m2 H2 L S2 => ⟨.inl (.inl (S2.ex _ _ (L.ex _ _ hf))), L.ex, L.pre⟩)⟩⟩
    · have ed2 : xs = ds := by rcases ed with ed | ed <;> cases ed <;> rfl
      subst ed2 ev
      exact ⟨_, rfl, .inl ⟨⟨_, .inl (.inl hp)⟩, q _ F1 io1 H1 G1 S1 (yl_lst r fun F2 io2 m2 H2 L S2 => ⟨.inl (.inl (L.keep _ _ hp ni)), L.ex, L.pre⟩)⟩⟩
    · cases ed
    · cases ed
theorem f_seq {e : Expr} {ge : EvL} (h : PE X e (tE X.K G false ge)) : PI X tg e (iF X.K G ge) := imp_i (pi_seq h) fun st H R q => by
  obtain ⟨F, io, l, m, S, d, m', xs, e1, e2, q⟩ := q
  refine ⟨F, io, l, m, S, d, m', e1, fun v F1 io1 H1 G1 S1 R1 => ?_⟩
  have R1 : ResR X.K F1 io1 H H1 v d := R1.elim id fun z => nomatch z.1
  obtain ⟨F2, G2, S2, r2⟩ := R1.froze G1 S1
  generalize frz d = d2 at e2 r2
  cases r2 with
  | tup hf r => cases e2; exact ⟨_, rfl, .inr ⟨⟨_, .inl (.inl (S2.ex _ _ hf))⟩, q _ F2 io1 H1 G2 S2 (yl_tup r fun F3 io3 m3 H3 L S3 => ⟨.inl (.inl (S3.ex _ _ (L.1 _ _ hf))), L.1, L.2⟩)⟩⟩
  | lst hf r => cases e2; exact ⟨_, rfl, .inl ⟨⟨_, .inl (.inl (S2.ex _ _ hf))⟩, q _ F2 io1 H1 G2 S2 (yl_lst r fun F3 io3 m3 H3 L S3 => ⟨.inl (.inl (S3.ex _ _ (L.1 _ _ hf))), L.1, L.2⟩)⟩⟩
  | scr hf r => cases e2; exact ⟨_, rfl, .inl ⟨⟨_, sql_ex S2.ex hf⟩, q _ F2 io1 H1 G2 S2 (yl_lst r fun F3 io3 m3 H3 L S3 => ⟨sql_ex (L.1.trans S3.ex) hf, L.1, L.2⟩)⟩⟩
  | _ => cases e2
theorem range1_of {xs : List D} {d : D} (e : prim .range xs = some d) {K : PySem.W.Frag} {F : Hp} {io : List Addr} {H : Hp} {vs : List V} (L : Lks K F io H vs xs) : (∃ n : Int, vs = [.int n] ∧ -(2 ^ 60) ≤ n ∧ n < 2 ^ 60 ∧ d = .itr (upTo 0 n.toNat)) ∨
    ∃ a c : Int, vs = [.int a, .int c] ∧ (-(2 ^ 60) ≤ a ∧ a < 2 ^ 60 ∧ -(2 ^ 60) ≤ c ∧ c < 2 ^ 60) ∧ d = .itr (upTo a (c - a).toNat) := by
  cases L with
  | nil => cases e
  | @cons v vs x xs a r =>
    cases r with
    | nil =>
      cases x <;> first | (cases e; done) | skip
      obtain ⟨hz, rfl⟩ := ite_some (show (if _ = true then some (D.itr _) else none) = some d from e)
      rw [Bool.and_eq_true] at hz
      have h1 := lk_int a
      subst h1
      exact .inl ⟨_, rfl, of_decide_eq_true hz.1, of_decide_eq_true hz.2, rfl⟩
    | @cons v2 vs2 y ys c r =>
      cases r with
      | cons _ _ => cases x <;> first | (cases e; done) | (cases y <;> cases e)
      | nil =>
        cases x <;> first | (cases e; done) | skip
        cases y <;> first | (cases e; done) | skip
        obtain ⟨hz, rfl⟩ := ite_some (show (if _ = true then some (D.itr _) else none) = some d from e)
        simp only [Bool.and_eq_true, decide_eq_true_eq] at hz
        have h1 := lk_int a
        have h2 := lk_int c
        subst h1 h2
        exact .inr ⟨_, _, rfl, ⟨hz.1.1.1, hz.1.1.2, hz.1.2, hz.2⟩, rfl⟩
/-- what does not lie in a heap -/
def iR (K : PySem.W.Frag) (G : Gam) (g : EvL) : TI := fun st H R => ∃ F io l m, Sim K G F io l m st H ∧ ∃ d m' xs, g l m = .ok d m' ∧ items d = some xs ∧
  ∀ J F' io' H', Grow F io H F' io' H' → SimM K F' io' m' H' → (∀ L, Yl K J xs L) → R J H'
theorem i_rng1 {a : Expr} {p pos : Pos} {gs : Loc → Mem → Res (List D)} (hg : Gl X "range") (hm : X.mg "range" = none) (ha : PA X [a] (tAb X.K G gs)) (hs : isStar a = false) (hl : ∀ l m ys m1, gs l m = .ok ys m1 → ys.length = 1) :
    PI X tg (.Call (.Name "range" p) [a] [] pos) (iR X.K G fun l m => (gs l m).bind fun xs m1 => opt (prim .range xs) m1) := imp_i (pi_range1 hg hm ha (star_ok hs)) fun st H R q => by
  obtain ⟨F, io, l, m, S, d, m', xs, e1, e2, q⟩ := q
  obtain ⟨ys, m1, e3, e4⟩ := bind_ok e1
  obtain ⟨e5, rfl⟩ := opt_ok e4
  refine ⟨F, io, l, m, S, ys, m', e3, fun vs F1 io1 H1 G1 S1 R1 => ?_⟩
  have ln := hl _ _ _ _ e3
  rcases range1_of e5 R1 with ⟨n, rfl, h1, h2, rfl⟩ | ⟨a, c, rfl, h, rfl⟩
  · cases e2
    exact ⟨n, rfl, by omega, by omega, q _ F1 io1 H1 G1 S1 fun _ => yl_rng⟩
  · exact absurd R1 fun z => by cases z with | cons _ z => cases z with | cons _ z => cases z; simp at ln
theorem i_rng2 {a b : Expr} {p pos : Pos} {gs : Loc → Mem → Res (List D)} (hg : Gl X "range") (hm : X.mg "range" = none) (ha : PA X [a, b] (tAb X.K G gs)) (hs : isStar a = false) (hs2 : isStar b = false) (hl : ∀ l m ys m1, gs l m = .ok ys m1 → ys.length = 2) :
    PI X tg (.Call (.Name "range" p) [a, b] [] pos) (iR X.K G fun l m => (gs l m).bind fun xs m1 => opt (prim .range xs) m1) := imp_i (pi_range2 hg hm ha (by rw [star_ok hs, star_ok hs2]; rfl) (star_ok hs2)) fun st H R q => by
  obtain ⟨F, io, l, m, S, d, m', xs, e1, e2, q⟩ := q
  obtain ⟨ys, m1, e3, e4⟩ := bind_ok e1
  obtain ⟨e5, rfl⟩ := opt_ok e4
  refine ⟨F, io, l, m, S, ys, m', e3, fun vs F1 io1 H1 G1 S1 R1 => ?_⟩
  have ln := hl _ _ _ _ e3
  rcases range1_of e5 R1 with ⟨n, rfl, h1, h2, rfl⟩ | ⟨a, c, rfl, h, rfl⟩
  · exact absurd R1 fun z => by cases z with | cons _ z => cases z; simp at ln
  · cases e2
    exact ⟨a, c, rfl, ⟨by omega, by omega, by omega, by omega⟩, q _ F1 io1 H1 G1 S1 fun _ => yl_rng⟩
theorem i_of {e : Expr} {ge : EvL} (h : PI X tg e (iR X.K G ge)) : PI X tg e (iG X.K G ge) := imp_i h fun st H R q => by
  obtain ⟨F, io, l, m, S, d, m', xs, e1, e2, q⟩ := q
  exact ⟨F, io, l, m, S, _, m', xs, e1, e2, fun J F1 io1 H1 G1 S1 Y => q J F1 io1 H1 G1 S1 (Y _)⟩
theorem f_of {e : Expr} {ge : EvL} (h : PI X tg e (iR X.K G ge)) (hi : ∀ l m d m', ge l m = .ok d m' → ∃ xs, d = .itr xs) : PI X tg e (iF X.K G ge) := imp_i h fun st H R q => by
  obtain ⟨F, io, l, m, S, d, m', xs, e1, e2, q⟩ := q
  obtain ⟨ys, rfl⟩ := hi _ _ _ _ e1
  exact ⟨F, io, l, m, S, _, m', xs, e1, e2, fun J F1 io1 H1 G1 S1 Y => q J F1 io1 H1 G1 S1 (Y _)⟩
end

/-! ### targets -/
/-- the values, one after another, into these slots -/
def setV : List Nat → List V → L2.St → L2.St
  | i :: is, v :: vs, st => setV is vs (st.set i (some v))
  | _, _, st => st
def gNs (is : List Nat) : TGs := fun vs st H Q => vs.length = is.length ∧ Q (setV is vs st) H
def tgR (K : PySem.W.Frag) : Tg → TG
  | .nm i => gName i
  | .tp is => gTup K is.length (gNs is)
theorem imp_gs {X : Cx} {es : List Expr} {t t' : TGs} (h : PGs X es t) (i : ∀ vs st H Q, t' vs st H Q → t vs st H Q) : PGs X es t' := ⟨fun pins s st H vs us Q I r q => h.run pins s st H vs us Q I r (i _ _ _ _ q)⟩
/-- a name that may be stored to -/
def NameTo (X : Cx) (i : Nat) (x : Str) : Prop := X.N[i]? = some x ∧ L2.Loc X.env.scope x ∧ (X.fn x = true ∨ X.env.scope.names.lookup x = some .local)
theorem pg_nm {X : Cx} {i : Nat} {x : Str} {pos : Pos} (hN : X.N.Nodup) (h : NameTo X i x) : PG X (.Name x pos) (tgR X.K (.nm i)) := pg_name hN h.1 h.2.1 h.2.2
theorem pgs_nms {X : Cx} (hN : X.N.Nodup) : ∀ {es : List Expr} {is : List Nat}, Paired (fun e i => ∃ x p, e = Expr.Name x p ∧ NameTo X i x) es is → PGs X es (gNs is)
  | _, _, .nil => imp_gs pgs_nil fun vs st H Q q => by
    obtain ⟨h1, q⟩ := q
    cases vs with
    | nil => exact ⟨rfl, q⟩
    | cons _ _ => cases h1
  | _, _, .cons ⟨x, p, e, hx⟩ r => by
    subst e
    refine imp_gs (pgs_cons (pg_name hN hx.1 hx.2.1 hx.2.2) (pgs_nms hN r)) fun vs st H Q q => ?_
    obtain ⟨h1, q⟩ := q
    cases vs with
    | nil => cases h1
    | cons v vs => exact ⟨v, vs, rfl, Nat.succ.inj h1, q⟩
theorem nms_each {X : Cx} : ∀ {es : List Expr} {is : List Nat}, Paired (fun e i => ∃ x p, e = Expr.Name x p ∧ NameTo X i x) es is → (assignEach es X.env).length = is.length ∧ (assignEach es X.env).findIdx? (·.1) = none
  | _, _, .nil => ⟨rfl, rfl⟩
  | _, _, @Paired.cons _ _ _ e i es is ⟨x, p, e1, hx⟩ r => by
    subst e1
    obtain ⟨h1, h2⟩ := nms_each r
    refine ⟨congrArg (· + 1) h1, ?_⟩
    show ((false, assign (.Name x p) X.env) :: assignEach es X.env).findIdx? (·.1) = none
    rw [List.findIdx?_cons]
    simp [h2]
theorem pg_tp {X : Cx} {es : List Expr} {is : List Nat} {k : Nat} {pos : Pos} (hc : X.calm = true) (hN : X.N.Nodup) (h : Paired (fun e i => ∃ x p, e = Expr.Name x p ∧ NameTo X i x) es is) : PG X (.Tuple es k pos) (tgR X.K (.tp is)) :=
  pg_tup hc (pgs_nms hN h) (nms_each h).1 (nms_each h).2

section
variable {K : PySem.W.Frag} {G : Gam} {F : Hp} {io : List Addr} {l : Loc} {m : Mem} {st : L2.St} {H0 H : Hp}
theorem rep_own {v : V} {d : D} (r : Rep K F io v d) : isOwn d = false := by cases r <;> rfl
theorem rep_slot {v : V} {d : D} (r : Rep K F io v d) : SlotR K H0 F io H (some (some v)) d := by
  cases r <;> refine ⟨_, rfl, ?_⟩
  · exact .non
  · exact .bl _
  · exact .int _
  · exact .str _
  · apply Rep.lst <;> assumption
  · apply Rep.scr <;> assumption
  · apply Rep.tup <;> assumption
  · apply Rep.dct <;> assumption
  · apply Rep.ref; assumption
theorem Locs.put {v : V} {d : D} (h : Locs K H0 F io l st H) (i : Nat) (r : Rep K F io v d) : Locs K H0 F io (l.set i d) (st.set i (some v)) H := by
  refine ⟨by rw [List.length_set, List.length_set]; exact h.len, fun j e he => ?_, fun j k a b p hjk ha hb oa ob hp => ?_⟩
  · by_cases hj : i = j
    · subst hj
      have hi : i < l.length := by have := (List.getElem?_eq_some_iff.mp he).1; rwa [List.length_set] at this
      rw [List.getElem?_set_self hi] at he
      cases he
      rw [List.getElem?_set_self (by rw [← h.len]; exact hi)]
      exact rep_slot r
    · rw [List.getElem?_set_ne hj] at he ⊢
      exact h.slot j e he
  · have no : ∀ {j : Nat} {a : D}, (l.set i d)[j]? = some a → isOwn a = true → i ≠ j ∧ l[j]? = some a := fun {j a} ha oa => by
      by_cases hj : i = j
      · subst hj
        have hi : i < l.length := by have := (List.getElem?_eq_some_iff.mp ha).1; rwa [List.length_set] at this
        rw [List.getElem?_set_self hi] at ha
        cases ha
        rw [rep_own r] at oa; cases oa
      · rw [List.getElem?_set_ne hj] at ha; exact ⟨hj, ha⟩
    obtain ⟨n1, h1⟩ := no ha oa
    obtain ⟨n2, h2⟩ := no hb ob
    rw [List.getElem?_set_ne n1] at hp
    rw [List.getElem?_set_ne n2]
    exact h.sep j k a b p hjk h1 h2 oa ob hp
theorem Locs.wiped (h : Locs K H0 F io l st H) (i : Nat) : Locs K H0 F io (l.set i .unb) (st.set i none) H := by
  refine ⟨by rw [List.length_set, List.length_set]; exact h.len, fun j e he => ?_, fun j k a b p hjk ha hb oa ob hp => ?_⟩
  · by_cases hj : i = j
    · subst hj
      have hi : i < l.length := by have := (List.getElem?_eq_some_iff.mp he).1; rwa [List.length_set] at this
      rw [List.getElem?_set_self hi] at he
      cases he
      trivial
    · rw [List.getElem?_set_ne hj] at he ⊢
      exact h.slot j e he
  · have no : ∀ {j : Nat} {a : D}, (l.set i D.unb)[j]? = some a → isOwn a = true → i ≠ j ∧ l[j]? = some a := fun {j a} ha oa => by
      by_cases hj : i = j
      · subst hj
        have hi : i < l.length := by have := (List.getElem?_eq_some_iff.mp ha).1; rwa [List.length_set] at this
        rw [List.getElem?_set_self hi] at ha
        cases ha
        cases oa
      · rw [List.getElem?_set_ne hj] at ha; exact ⟨hj, ha⟩
    obtain ⟨n1, h1⟩ := no ha oa
    obtain ⟨n2, h2⟩ := no hb ob
    rw [List.getElem?_set_ne n1] at hp
    rw [List.getElem?_set_ne n2]
    exact h.sep j k a b p hjk h1 h2 oa ob hp
theorem Locs.clear (h : Locs K H0 F io l st H) : ∀ is : List Nat, Locs K H0 F io (clearAll is l) (wipe st is) H
  | [] => h
  | i :: is => (Locs.clear h is).wiped i
theorem Sim.clear (S : Sim K G F io l m st H) (is : List Nat) : Sim K G F io (clearAll is l) m (wipe st is) H := ⟨S.sm, S.gr, S.lo.clear is⟩
theorem Sim.put {v : V} {d : D} (S : Sim K G F io l m st H) (i : Nat) (r : Rep K F io v d) : Sim K G F io (l.set i d) m (st.set i (some v)) H := ⟨S.sm, S.gr, S.lo.put i r⟩
theorem wipe_set {st : L2.St} {i : Nat} {x : Option V} : ∀ {vs : List Nat}, i ∈ vs → wipe (st.set i x) vs = wipe st vs
  | [], h => by cases h
  | v :: vs, h => by
    unfold wipe
    by_cases hv : i ∈ vs
    · rw [wipe_set hv]
    · have hi : i = v := by simpa [hv] using h
      subst hi
      have key : ∀ {vs : List Nat} {st : L2.St}, i ∉ vs → wipe (st.set i x) vs = (wipe st vs).set i x := fun {vs} => by
        induction vs with
        | nil => intro st _; rfl
        | cons w ws ih =>
          intro st hn
          simp only [List.mem_cons, not_or] at hn
          unfold wipe
          rw [ih hn.2, List.set_comm _ _ hn.1]
      rw [key hv, List.set_set]
theorem set_all {Q : L2.St → Prop} : ∀ {is : List Nat} {us : List V} {ds : List D} {l l' : Loc} {st : L2.St}, Sim K G F io l m st H → Reps K F io us ds → setAll is ds l = some l' →
    us.length = is.length ∧ Sim K G F io l' m (setV is us st) H ∧ ∀ vs : List Nat, (∀ i ∈ is, i ∈ vs) → wipe (setV is us st) vs = wipe st vs
  | [], _, _, _, _, _, S, .nil, e => by cases e; exact ⟨rfl, S, fun _ _ => rfl⟩
  | i :: is, _, _, _, _, _, S, .cons r rs, e => by
    obtain ⟨h1, h2, h3⟩ := set_all (Q := Q) (S.put i r) rs e
    refine ⟨congrArg (· + 1) h1, h2, fun vs hv => ?_⟩
    show wipe (setV is _ _) vs = _
    rw [h3 vs fun j hj => hv j (List.mem_cons_of_mem _ hj), wipe_set (hv i List.mem_cons_self)]
  | [], _, _, _, _, _, _, .cons _ _, e => by cases e
  | _ :: _, _, _, _, _, _, _, .nil, e => by cases e
theorem tg_ok {t : Tg} {v : V} {d : D} {l' : Loc} {Q : L2.St → Hp → Prop} (S : Sim K G F io l m st H) (r : Rep K F io v d) (e : t.put d l = some l')
    (k : ∀ st', (∀ vs : List Nat, (∀ i ∈ t.slots, i ∈ vs) → wipe st' vs = wipe st vs) → Sim K G F io l' m st' H → Q st' H) : tgR K t v st H Q := by
  cases t with
  | nm i =>
    cases e
    exact k _ (fun vs hv => wipe_set (hv i (by simp [Tg.slots]))) (S.put i r)
  | tp is =>
    cases d <;> first | cases e; done | skip
    rename_i ds
    cases r with
    | tup hf rr =>
      obtain ⟨h1, h2, h3⟩ := set_all (Q := fun _ => True) S rr e
      exact ⟨_, _, rfl, .inl (.inl (S.sm.ex _ _ hf)), h1, h1, k _ h3 h2⟩
end
end Mp

set_option Elab.async false
set_option linter.all false
set_option maxRecDepth 100000
set_option maxHeartbeats 1000000
/-! MpI: list comprehensions. -/
namespace Mp
open PySem PySem.Spec PyProof.Rows L2

section
variable {K : PySem.W.Frag} {F : Hp} {io : List Addr} {m : Mem} {H : Hp}
/-- an object of no one's is written -/
theorem SimM.mut {p : Addr} {o : HO} (s : SimM K F io m H) (hf : F p = none) (hi : p ∉ io) : SimM K F io m (upd H p o) where
  ex := fun a u e => by
    have : a ≠ p := fun z => by subst z; rw [hf] at e; cases e
    rw [upd_ne this]; exact s.ex a u e
  len := s.len
  nd := s.nd
  nf := s.nf
  cell := fun k a c e1 e2 => (s.cell k a c e1 e2).mono (Exh.refl F) (List.prefix_refl _) fun u e => by
    have : a ≠ p := fun z => hi (by rw [← z]; exact List.mem_of_getElem? e1)
    rw [upd_ne this]; exact e
theorem Grow.mut {F1 : Hp} {io1 : List Addr} {H1 : Hp} {p : Addr} {o : HO} (g : Grow F io H F1 io1 H1) (n0 : H p = none) : Grow F io H F1 io1 (upd H1 p o) where
  ex := g.ex
  pre := g.pre
  keep := fun a w e n => by rw [upd_ne (ne_of_none e n0)]; exact g.keep a w e n
  nf := g.nf
  ni := g.ni
  al := fun a n => by
    by_cases z : a = p
    · subst z; exact absurd n0 n
    · rw [upd_ne z]; exact g.al a n
end

theorem wipe_wipe {st : L2.St} {vs : List Nat} : ∀ us : List Nat, (∀ i ∈ us, i ∈ vs) → wipe (wipe st us) vs = wipe st vs
  | [], _ => rfl
  | u :: us, h => by
    show wipe ((wipe st us).set u none) vs = _
    rw [wipe_set (h u List.mem_cons_self), wipe_wipe us fun i hi => h i (List.mem_cons_of_mem _ hi)]

/-- one turn of a comprehension -/
def turnC (cs : CallS) (elt : E) (t : Tg) (c : E) (l : Loc) (x : D) (m : Mem) : Res (Option D) := match t.put x (t.clear l) with
  | none => .bad
  | some l1 => (evE cs true c l1 m).bind fun v m2 => match truth v with
    | some true => (evE cs false elt l1 m2).bind fun v m3 => .ok (some v) m3
    | some false => .ok none m2
    | none => .bad
/-- the state of a comprehension ahead of a turn: D the new list -/
structure StC (K : PySem.W.Frag) (F1 : Hp) (io1 : List Addr) (H1 : Hp) (D : Addr) (f : Mp.D → Mem → Res (Option Mp.D)) (xs : List Mp.D) (ys : List Mp.D) (m' : Mem) (i : Nat) (H : Hp) : Prop where
  le : i ≤ xs.length
  st : ∃ F io m acc us, Grow F1 io1 H1 F io H ∧ SimM K F io m H ∧ H D = some (.lst us) ∧ Reps K F io us acc ∧ F D = none ∧ D ∉ io ∧ compGo f (xs.drop i) acc m = .ok ys m'

section
variable {X : Cx} {G : Gam}
theorem lc_ok {cs : CallS} {elt : E} {t : Tg} {c : E} {gsrc : EvL} {te : TE} {tt : TT} {wi : TI} (hi : ∀ st H R, iG X.K G gsrc st H R → wi st H R)
    (ht : ∀ st H Q, tTt X.K G (evE cs true c) st H Q → tt st H Q) (he : ∀ st H Q, tE X.K G false (evE cs false elt) st H Q → te st H Q) {vs : List Nat} (hvs : vs = t.slots) {b : Bool} :
    ∀ st H Q, tE X.K G b (fun l m => (gsrc l m).bind fun s m1 => match items s with
      | none => .bad
      | some xs => (compGo (turnC cs elt t c l) xs [] m1).bind fun ys m2 => .ok (.own ys) m2) st H Q → tLc wi (tgR X.K t) tt te vs st H Q := by
  intro st H Q q
  subst hvs
  obtain ⟨F, io, l, m, S, d, m', e, q⟩ := q
  obtain ⟨s, m1, e1, e⟩ := bind_ok e
  cases hx : items s with
  | none => rw [hx] at e; cases e
  | some xs =>
    rw [hx] at e
    obtain ⟨ys, m2, e2, e⟩ := bind_ok e
    cases e
    refine hi st H _ ⟨F, io, l, m, S, s, m1, xs, e1, hx, fun J F1 io1 H1 G1 S1 Y => ?_⟩
    intro D nD
    have fD : F1 D = none := S1.fnone nD
    have iD : D ∉ io1 := S1.notin nD
    refine ⟨fun i n H => n = xs.length - i ∧ StC X.K F1 io1 H1 D (turnC cs elt t c l) xs ys m' i H, ⟨_, rfl, Nat.zero_le _, F1, io1, m1, [], [], .new nD, S1.new nD, upd_same, .nil, fD, iD, e2⟩, ?_⟩
    rintro i n H2 ⟨rfl, hle, F2, io2, m2, acc, us, G2, S2, hD, ra, fD2, iD2, e3⟩
    obtain ⟨y1, y2, y3⟩ := Y i F2 io2 m2 H2 G2 S2
    by_cases hlt : i < xs.length
    · refine .inr ⟨y1 hlt, StC X.K F1 io1 H1 D (turnC cs elt t c l) xs ys m' (i + 1), fun H' s' => ⟨_, by omega, rfl, s'⟩, fun x H3 yl => ?_⟩
      obtain ⟨dx, F3, hdx, G3, S3, rx⟩ := y3 hlt x H3 yl
      have edx : xs.drop i = dx :: xs.drop (i + 1) := by
        rw [List.drop_eq_getElem_cons hlt]
        rw [List.getElem?_eq_getElem hlt] at hdx
        rw [Option.some.inj hdx]
      rw [edx] at e3
      obtain ⟨o, m3, e4, e5⟩ := bind_ok (show (turnC cs elt t c l dx m2).bind _ = _ from e3)
      unfold turnC at e4
      cases hp : t.put dx (t.clear l) with
      | none => rw [hp] at e4; cases e4
      | some l1 =>
        rw [hp] at e4
        obtain ⟨bv, m4, e6, e7⟩ := bind_ok e4
        have SL : Sim X.K G F3 io2 (t.clear l) m2 (wipe st t.slots) H3 := (S.grow ((G1.trans G2).trans G3) S3).clear t.slots
        refine tg_ok SL rx hp fun st2 hw S4 => ⟨(hw t.slots fun _ h => h).trans (wipe_wipe _ fun _ h => h), ?_⟩
        have D3 : H3 D = some (.lst us) := G3.keep _ _ hD iD2
        have fD3 : F3 D = none := fnone_of G3 hD fD2
        cases ht2 : truth bv with
        | none => rw [ht2] at e7; cases e7
        | some k =>
          rw [ht2] at e7
          refine ht st2 H3 _ ⟨F3, io2, l1, m2, S4, bv, m4, k, e6, ht2, fun F4 io4 H4 G4 S5 => ?_⟩
          have D4 : H4 D = some (.lst us) := G4.keep _ _ D3 iD2
          have fD4 : F4 D = none := fnone_of G4 D3 fD3
          have iD4 : D ∉ io4 := notin_of G4 D3 iD2
          cases k with
          | false =>
            cases e7
            refine iteF ⟨hlt, F4, io4, m3, acc, us, (G2.trans G3).trans G4, S5, D4, ra.mono (G3.ex.trans G4.ex) G4.pre, fD4, iD4, e5⟩
          | true =>
            obtain ⟨ev, m5, e8, e9⟩ := bind_ok e7
            cases e9
            have e5 : (if Nat.blt acc.length LIM = true then compGo (turnC cs elt t c l) (xs.drop (i + 1)) (acc ++ [frz ev]) m3 else .bad) = .ok ys m' := e5
            cases hz : Nat.blt acc.length LIM with
            | false => rw [hz] at e5; cases e5
            | true =>
              rw [hz] at e5
              refine iteT (he st2 H4 _ ⟨F4, io4, l1, m4, S4.grow G4 S5, ev, m3, e8, fun v F5 io5 H5 G5 S6 R5 => ?_⟩)
              have R5 : ResR X.K F5 io5 H4 H5 v ev := R5.elim id fun z => nomatch z.1
              obtain ⟨F6, G6, S7, rv⟩ := R5.froze G5 S6
              have D5 : H5 D = some (.lst us) := G6.keep _ _ D4 iD4
              have fD6 : F6 D = none := fnone_of G6 D4 fD4
              have iD6 : D ∉ io5 := notin_of G6 D4 iD4
              have G16 : Grow F1 io1 H1 F6 io5 H5 := ((G2.trans G3).trans G4).trans G6
              refine ⟨us, D5, by rw [ra.len]; exact lim_lt hz, hlt, F6, io5, m3, acc ++ [frz ev], us ++ [v], G16.mut nD, S7.mut fD6 iD6, upd_same, ?_, fD6, iD6, e5⟩
              exact (ra.mono ((G3.ex.trans G4.ex).trans G6.ex) (G4.pre.trans G6.pre)).append (.cons rv .nil)
    · refine .inl ⟨y2 (by omega), ?_⟩
      rw [List.drop_eq_nil_of_le (by omega)] at e3
      cases e3
      exact q (.ref D) F2 io2 H2 (G1.trans G2) S2 (.inl ⟨D, us, rfl, hD, ra, fD2, iD2, G1.back nD⟩)
end
end Mp

set_option Elab.async false
set_option linter.all false
set_option maxRecDepth 100000
set_option maxHeartbeats 1000000
/-! MpJ: statements. -/
namespace Mp
open PySem PySem.Spec PyProof.Rows L2

theorem imp_s {X : Cx} {s : Stmt} {t t' : TS} (h : PS X s t) (i : ∀ D st H, t' D st H → t D st H) : PS X s t' := ⟨fun pins s st H D I q => h.run pins s st H D I (i _ _ _ q)⟩
theorem imp_ss {X : Cx} {s : List Stmt} {t t' : TS} (h : PSs X s t) (i : ∀ D st H, t' D st H → t D st H) : PSs X s t' := ⟨fun pins s st H D I q => h.run pins s st H D I (i _ _ _ q)⟩

/-- what is wanted behind a statement that comes to r -/
def Post (K : PySem.W.Frag) (G : Gam) (F : Hp) (io : List Addr) (E : Ends) : ResS → Prop
  | .nxt l m => ∀ st F' io' H', Exh F F' → io <+: io' → Sim K G F' io' l m st H' → E.nx st H'
  | .brk l m => ∀ st F' io' H', Exh F F' → io <+: io' → Sim K G F' io' l m st H' → E.bk st H'
  | .cnt l m => ∀ st F' io' H', Exh F F' → io <+: io' → Sim K G F' io' l m st H' → E.ct st H'
  | .ret d m => ∀ v F' io' H', Grow G.F G.io G.H F' io' H' → SimM K F' io' m H' → ResR K F' io' G.H H' v d → E.rt v H'
  | .exc _ _ => False
  | .bad => False
def tS (K : PySem.W.Frag) (G : Gam) (g : Loc → Mem → ResS) : TS := fun E st H => ∃ F io l m, Sim K G F io l m st H ∧ Post K G F io E (g l m)
section
variable {K : PySem.W.Frag} {G : Gam} {F F1 : Hp} {io io1 : List Addr} {E : Ends} {r : ResS}
theorem Post.later (h : Post K G F io E r) (e : Exh F F1) (p : io <+: io1) : Post K G F1 io1 E r := by
  cases r with
  | nxt l m => exact fun st F' io' H' e' p' S => h st F' io' H' (e.trans e') (p.trans p') S
  | brk l m => exact fun st F' io' H' e' p' S => h st F' io' H' (e.trans e') (p.trans p') S
  | cnt l m => exact fun st F' io' H' e' p' S => h st F' io' H' (e.trans e') (p.trans p') S
  | ret d m => exact h
  | exc _ _ => exact h
  | bad => exact h
theorem stm_post {α : Type} {r : Res α} {k : α → Mem → ResS} (h : Post K G F io E (r.stm k)) : ∃ a m, r = .ok a m ∧ Post K G F io E (k a m) := by
  cases r with
  | ok a m => exact ⟨a, m, rfl, h⟩
  | exc _ _ => exact h.elim
  | bad => exact h.elim
end

section
variable {X : Cx} {G : Gam} {pos : Pos}
theorem ss_nil {cs : CallS} {w : Nat} : PSs X [] (tS X.K G (evSs cs w [])) := imp_ss pss_nil fun E st H q => by
  obtain ⟨F, io, l, m, S, q⟩ := q
  exact q st F io H (Exh.refl F) (List.prefix_refl _) S
theorem then_post {g : Loc → Mem → ResS} {K : PySem.W.Frag} {F : Hp} {io : List Addr} {E : Ends} {r : ResS} (h : Post K G F io E (r.then g)) : Post K G F io { E with nx := tS K G g E } r := by
  cases r with
  | nxt l m => exact fun st F' io' H' e p S => ⟨F', io', l, m, S, Post.later h e p⟩
  | _ => exact h
theorem ss_cons {s : Stmt} {ss : List Stmt} {g : Loc → Mem → ResS} {gs : Loc → Mem → ResS} (h1 : PS X s (tS X.K G g)) (h2 : PSs X ss (tS X.K G gs)) : PSs X (s :: ss) (tS X.K G fun l m => (g l m).then gs) := imp_ss (pss_cons h1 h2) fun E st H q => by
  obtain ⟨F, io, l, m, S, q⟩ := q
  exact ⟨F, io, l, m, S, then_post q⟩
/-- a name's value is shared from now on -/
theorem ss_frz {ss : List Stmt} {i : Nat} {gs : Loc → Mem → ResS} (h : PSs X ss (tS X.K G gs)) : PSs X ss (tS X.K G fun l m => (match l[i]? with | some d => ResS.nxt (l.set i (frz d)) m | none => .bad).then gs) := imp_ss h fun E st H q => by
  obtain ⟨F, io, l, m, S, q⟩ := q
  dsimp only at q
  cases hd : l[i]? with
  | none => rw [hd] at q; exact q.elim
  | some d =>
    rw [hd] at q
    have q : Post X.K G F io E (gs (l.set i (frz d)) m) := q
    have sl := S.lo.slot i d hd
    have hst : ∀ (x : V), st[i]? = some (some x) → st.set i (some x) = st := fun x hx => by
      apply List.ext_getElem?
      intro j
      by_cases hj : i = j
      · subst hj
        have hi := (List.getElem?_eq_some_iff.mp hx).1
        rw [List.getElem?_set_self hi, hx]
      · rw [List.getElem?_set_ne hj]
    have same : isOwn d = false → (l.set i (frz d)) = l := fun hn => by
      have : frz d = d := by cases d <;> first | rfl | cases hn
      rw [this]
      apply List.ext_getElem?
      intro j
      by_cases hj : i = j
      · subst hj
        have hi := (List.getElem?_eq_some_iff.mp hd).1
        rw [List.getElem?_set_self hi, hd]
      · rw [List.getElem?_set_ne hj]
    -- a list or dict of one's own is frozen
    have own : ∀ (p : Addr) (o : HO), isOwn d = true → st[i]? = some (some (.ref p)) → H p = some o → F p = none → p ∉ io → G.H p = none → Rep X.K (upd F p o) io (.ref p) (frz d) → tS X.K G gs E st H := fun p o ho e hp nf ni n0 rp => by
      have ex : Exh F (upd F p o) := Exh.new nf
      have gr : Grow G.F G.io G.H (upd F p o) io H := frz_grow S.gr nf n0
      have lo : Locs X.K G.H (upd F p o) io (l.set i D.unb) st H := by
        refine ⟨by rw [List.length_set]; exact S.lo.len, fun j d' he => ?_, fun j k a b q hjk ha hb oa ob hq => ?_⟩
        · by_cases hj : i = j
          · subst hj
            rw [List.getElem?_set_self (List.getElem?_eq_some_iff.mp hd).1] at he
            cases he; trivial
          · rw [List.getElem?_set_ne hj] at he
            have s2 := S.lo.slot j d' he
            have np : ∀ q, isOwn d' = true → st[j]? = some (some (.ref q)) → q ≠ p := fun q h1 h2 z => by
              subst z
              exact S.lo.sep i j d d' q hj hd he ho h1 e h2
            cases d' with
            | unb => trivial
            | own es => obtain ⟨q, ys, h1, h2, h3, h4, h5, h6⟩ := s2; exact ⟨q, ys, h1, h2, h3.mono ex (List.prefix_refl _), by rw [upd_ne (np q rfl h1)]; exact h4, h5, h6⟩
            | odct es fs => obtain ⟨q, ys, h1, h2, h3, h3', h4, h5, h6⟩ := s2; exact ⟨q, ys, h1, h2, h3, h3'.mono ex (List.prefix_refl _), by rw [upd_ne (np q rfl h1)]; exact h4, h5, h6⟩
            | _ => obtain ⟨v, h1, h2⟩ := s2; exact ⟨v, h1, h2.mono ex (List.prefix_refl _)⟩
        · have no : ∀ {j : Nat} {a : D}, (l.set i D.unb)[j]? = some a → isOwn a = true → l[j]? = some a := fun {j a} ha oa => by
            by_cases hj : i = j
            · subst hj
              rw [List.getElem?_set_self (List.getElem?_eq_some_iff.mp hd).1] at ha
              cases ha; cases oa
            · rw [List.getElem?_set_ne hj] at ha; exact ha
          exact S.lo.sep j k a b q hjk (no ha oa) (no hb ob) oa ob hq
      have lo2 := lo.put i rp
      rw [hst _ e, List.set_set] at lo2
      exact ⟨upd F p o, io, _, m, ⟨S.sm.frz nf hp ni, gr, lo2⟩, q.later ex (List.prefix_refl _)⟩
    cases d with
    | own ds =>
      obtain ⟨p, xs, e, hp, r, nf, ni, n0⟩ := sl
      exact own p _ rfl e hp nf ni n0 (.lst upd_same (r.mono (Exh.new nf) (List.prefix_refl _)))
    | odct ks ds =>
      obtain ⟨p, kvs, e, hp, ek, r, nf, ni, n0⟩ := sl
      refine own p _ rfl e hp nf ni n0 ?_
      subst ek
      exact .dct upd_same (r.mono (Exh.new nf) (List.prefix_refl _))
    | _ => exact ⟨F, io, l, m, S, by rw [same rfl] at q; exact q⟩

/-! ### small statements -/
theorem st_pass : PS X (.Pass pos) (tS X.K G fun l m => .nxt l m) := imp_s ps_pass fun E st H q => by
  obtain ⟨F, io, l, m, S, q⟩ := q
  exact q st F io H (Exh.refl F) (List.prefix_refl _) S
theorem st_brk : PS X (.Break pos) (tS X.K G fun l m => .brk l m) := imp_s ps_break fun E st H q => by
  obtain ⟨F, io, l, m, S, q⟩ := q
  exact q st F io H (Exh.refl F) (List.prefix_refl _) S
theorem st_cont : PS X (.Continue pos) (tS X.K G fun l m => .cnt l m) := imp_s ps_continue fun E st H q => by
  obtain ⟨F, io, l, m, S, q⟩ := q
  exact q st F io H (Exh.refl F) (List.prefix_refl _) S
theorem st_expr {e : Expr} {ge : EvL} (h : PE X e (tE X.K G true ge)) (hs : swapsWith e none pos.line X.env = pure false) : PS X (.Expr e pos) (tS X.K G fun l m => (ge l m).stm fun _ m1 => .nxt l m1) := imp_s (ps_expr h hs) fun E st H q => by
  obtain ⟨F, io, l, m, S, q⟩ := q
  obtain ⟨d, m1, e1, q⟩ := stm_post q
  exact ⟨F, io, l, m, S, d, m1, e1, fun v F1 io1 H1 G1 S1 R1 => q st F1 io1 H1 G1.ex G1.pre (S.grow G1 S1)⟩
theorem st_ret {e : Expr} {ge : EvL} (h : PE X e (tE X.K G false ge)) : PS X (.Return (some e) pos) (tS X.K G fun l m => (ge l m).stm fun x m1 => .ret x m1) := imp_s (ps_ret h) fun E st H q => by
  obtain ⟨F, io, l, m, S, q⟩ := q
  obtain ⟨d, m1, e1, q⟩ := stm_post q
  refine ⟨F, io, l, m, S, d, m1, e1, fun v F1 io1 H1 G1 S1 R1 => q v F1 io1 H1 (S.gr.trans G1) S1 ?_⟩
  exact (R1.elim id fun z => nomatch z.1).earlier fun a z => S.gr.back z
theorem st_retn : PS X (.Return none pos) (tS X.K G fun l m => .ret .non m) := imp_s ps_retN fun E st H q => by
  obtain ⟨F, io, l, m, S, q⟩ := q
  exact q .non F io H S.gr S.sm .non
/-- a name's own list is handed back -/
theorem st_reto {e : Expr} {i : Nat} (h : PE X e (tVar i)) : PS X (.Return (some e) pos) (tS X.K G fun l m => match l[i]? with | some .unb => .bad | some d => .ret d m | none => .bad) := imp_s (ps_ret h) fun E st H q => by
  obtain ⟨F, io, l, m, S, q⟩ := q
  dsimp only at q
  cases hd : l[i]? with
  | none => rw [hd] at q; exact q.elim
  | some d =>
    rw [hd] at q
    have sl := S.lo.slot i d hd
    cases d with
    | unb => exact q.elim
    | own ds => obtain ⟨p, xs, e, hp, r, nf, ni, n0⟩ := sl; exact ⟨_, e, q _ F io H S.gr S.sm ⟨p, xs, rfl, hp, r, nf, ni, n0⟩⟩
    | odct ks ds => obtain ⟨p, xs, e, hp, ek, r, nf, ni, n0⟩ := sl; exact ⟨_, e, q _ F io H S.gr S.sm ⟨p, xs, rfl, hp, ek, r, nf, ni, n0⟩⟩
    | _ => obtain ⟨v, e, r⟩ := sl; exact ⟨v, e, q v F io H S.gr S.sm (rep_not_own r)⟩
theorem st_ite {c : Expr} {a b : List Stmt} {gc : EvL} {ga gb : Loc → Mem → ResS} (hc : PT X c (tTt X.K G gc)) (ha : PSs X a (tS X.K G ga)) (hb : PSs X b (tS X.K G gb)) :
    PS X (.If c a b pos) (tS X.K G fun l m => (gc l m).stm fun x m1 => match truth x with | some true => ga l m1 | some false => gb l m1 | none => .bad) := imp_s (ps_if hc ha hb) fun E st H q => by
  obtain ⟨F, io, l, m, S, q⟩ := q
  obtain ⟨d, m1, e1, q⟩ := stm_post q
  cases ht : truth d with
  | none => rw [ht] at q; exact q.elim
  | some k =>
    rw [ht] at q
    refine ⟨F, io, l, m, S, d, m1, k, e1, ht, fun F1 io1 H1 G1 S1 => ?_⟩
    cases k with
    | true => exact iteT ⟨F1, io1, l, m1, S.grow G1 S1, q.later G1.ex G1.pre⟩
    | false => exact iteF ⟨F1, io1, l, m1, S.grow G1 S1, q.later G1.ex G1.pre⟩

/-! ### x = e -/
theorem st_set {s : Stmt} {i : Nat} {te : TE} {ge : EvL} (h : PS X s (tAsg te (gName i))) (he : ∀ st H Q, tE X.K G false ge st H Q → te st H Q) : PS X s (tS X.K G fun l m => (ge l m).stm fun x m1 => .nxt (l.set i (frz x)) m1) := imp_s h fun E st H q => by
  obtain ⟨F, io, l, m, S, q⟩ := q
  obtain ⟨d, m1, e1, q⟩ := stm_post q
  refine he st H _ ⟨F, io, l, m, S, d, m1, e1, fun v F1 io1 H1 G1 S1 R1 => ?_⟩
  obtain ⟨F2, G2, S2, r2⟩ := ResR.froze G1 S1 (R1.elim id fun z => nomatch z.1)
  exact q _ F2 io1 H1 G2.ex G2.pre ((S.grow G2 S2).put i r2)
theorem Locs.putOwn {K : PySem.W.Frag} {H0 F : Hp} {io : List Addr} {l : Mp.Loc} {st : L2.St} {H : Hp} {p : Addr} {d : D} (h : Locs K H0 F io l st H) (i : Nat) (ho : isOwn d = true) (r : SlotR K H0 F io H (some (some (.ref p))) d)
    (hn : ∀ (j : Nat) (e : D), j ≠ i → l[j]? = some e → isOwn e = true → st[j]? ≠ some (some (.ref p))) : Locs K H0 F io (l.set i d) (st.set i (some (.ref p))) H := by
  refine ⟨by rw [List.length_set, List.length_set]; exact h.len, fun j e he => ?_, fun j k a b q hjk ha hb oa ob hq => ?_⟩
  · by_cases hj : i = j
    · subst hj
      have hi : i < l.length := by have := (List.getElem?_eq_some_iff.mp he).1; rwa [List.length_set] at this
      rw [List.getElem?_set_self hi] at he
      cases he
      rw [List.getElem?_set_self (by rw [← h.len]; exact hi)]
      exact r
    · rw [List.getElem?_set_ne hj] at he ⊢
      exact h.slot j e he
  · by_cases hj : i = j
    · subst hj
      have hi : i < l.length := by have := (List.getElem?_eq_some_iff.mp ha).1; rwa [List.length_set] at this
      rw [List.getElem?_set_self (by rw [← h.len]; exact hi)] at hq
      cases hq
      rw [List.getElem?_set_ne hjk] at hb ⊢
      exact hn k b (Ne.symm hjk) hb ob
    · rw [List.getElem?_set_ne hj] at ha hq
      by_cases hk : i = k
      · subst hk
        have hi : i < l.length := by have := (List.getElem?_eq_some_iff.mp hb).1; rwa [List.length_set] at this
        rw [List.getElem?_set_self (by rw [← h.len]; exact hi)]
        intro z
        have z2 : p = q := V.ref.inj (Option.some.inj (Option.some.inj z))
        subst z2
        exact hn j a hjk ha oa hq
      · rw [List.getElem?_set_ne hk] at hb ⊢
        exact h.sep j k a b q hjk ha hb oa ob hq
/-- an own slot's object stands -/
theorem own_there {K : PySem.W.Frag} {H0 F : Hp} {io : List Addr} {H : Hp} {s : Option (Option V)} {d : D} {p : Addr} (r : SlotR K H0 F io H s d) (ho : isOwn d = true) (e : s = some (some (.ref p))) : H p ≠ none := by
  cases d <;> first | cases ho; done | skip
  · obtain ⟨q, xs, h1, h2, _⟩ := r
    rw [e] at h1
    cases h1
    rw [h2]; exact fun z => nomatch z
  · obtain ⟨q, xs, h1, h2, _⟩ := r
    rw [e] at h1
    cases h1
    rw [h2]; exact fun z => nomatch z
theorem st_seto {s : Stmt} {i : Nat} {te : TE} {ge : EvL} (h : PS X s (tAsg te (gName i))) (he : ∀ st H Q, tE X.K G false ge st H Q → te st H Q) : PS X s (tS X.K G fun l m => (ge l m).stm fun x m1 => .nxt (l.set i x) m1) := imp_s h fun E st H q => by
  obtain ⟨F, io, l, m, S, q⟩ := q
  obtain ⟨d, m1, e1, q⟩ := stm_post q
  refine he st H _ ⟨F, io, l, m, S, d, m1, e1, fun v F1 io1 H1 G1 S1 R1 => ?_⟩
  have R1 : ResR X.K F1 io1 H H1 v d := R1.elim id fun z => nomatch z.1
  have SG := S.grow G1 S1
  have fresh : ∀ p, H p = none → ∀ (j : Nat) (e : D), j ≠ i → l[j]? = some e → isOwn e = true → st[j]? ≠ some (some (.ref p)) := fun p hp j e _ he ho z => own_there (S.lo.slot j e he) ho z hp
  cases d with
  | own ds =>
    obtain ⟨p, xs, rfl, hp, r, nf, ni, n0⟩ := R1
    exact q _ F1 io1 H1 G1.ex G1.pre ⟨S1, SG.gr, SG.lo.putOwn i rfl ⟨p, xs, rfl, hp, r, nf, ni, S.gr.back n0⟩ (fresh p n0)⟩
  | odct ks ds =>
    obtain ⟨p, xs, rfl, hp, ek, r, nf, ni, n0⟩ := R1
    exact q _ F1 io1 H1 G1.ex G1.pre ⟨S1, SG.gr, SG.lo.putOwn i rfl ⟨p, xs, rfl, hp, ek, r, nf, ni, S.gr.back n0⟩ (fresh p n0)⟩
  | unb => cases R1
  | _ => exact q _ F1 io1 H1 G1.ex G1.pre (SG.put i R1)
/-- targets of names -/
theorem st_unp {s : Stmt} {t : Tg} {te : TE} {ge : EvL} (h : PS X s (tAsg te (tgR X.K t))) (he : ∀ st H Q, tE X.K G true ge st H Q → te st H Q) (ht : ∀ d l l', t.put d l = some l' → isCol d = false) :
    PS X s (tS X.K G fun l m => (ge l m).stm fun x m1 => match t.put x l with | some l1 => .nxt l1 m1 | none => .bad) := imp_s h fun E st H q => by
  obtain ⟨F, io, l, m, S, q⟩ := q
  obtain ⟨d, m1, e1, q⟩ := stm_post q
  cases hp : t.put d l with
  | none => rw [hp] at q; exact q.elim
  | some l1 =>
    rw [hp] at q
    refine he st H _ ⟨F, io, l, m, S, d, m1, e1, fun v F1 io1 H1 G1 S1 R1 => ?_⟩
    exact tg_ok (S.grow G1 S1) (lk_rep R1.lk (ht _ _ _ hp)) hp fun st' _ S' => q st' F1 io1 H1 G1.ex G1.pre S'
/-- several, each one's own where it is new -/
inductive ResRs (K : PySem.W.Frag) (F : Hp) (io : List Addr) (H0 H : Hp) : List V → List D → Prop
  | nil : ResRs K F io H0 H [] []
  | cons {v : V} {vs : List V} {d : D} {ds : List D} : ResR K F io H0 H v d → ResRs K F io H0 H vs ds → (∀ p, v = .ref p → isOwn d = true → ∀ (j : Nat) (e : D), ds[j]? = some e → isOwn e = true → vs[j]? ≠ some (.ref p)) → ResRs K F io H0 H (v :: vs) (d :: ds)
def tAo (K : PySem.W.Frag) (G : Gam) (g : Mp.Loc → Mem → Res (List D)) : TA := fun st H Q => ∃ F io l m, Sim K G F io l m st H ∧ ∃ ds m', g l m = .ok ds m' ∧
  ∀ vs F' io' H', Grow F io H F' io' H' → SimM K F' io' m' H' → ResRs K F' io' H H' vs ds → Q vs H'
theorem resr_fresh {K : PySem.W.Frag} {F : Hp} {io : List Addr} {H0 H : Hp} {v : V} {d : D} {p : Addr} (r : ResR K F io H0 H v d) (ho : isOwn d = true) (e : v = .ref p) : H0 p = none ∧ H p ≠ none := by
  cases d <;> first | (cases ho; done) | skip
  · obtain ⟨q, xs, h1, h2, _, _, _, h3⟩ := r
    cases h1.symm.trans e
    exact ⟨h3, by rw [h2]; exact fun z => nomatch z⟩
  · obtain ⟨q, xs, h1, h2, _, _, _, _, h3⟩ := r
    cases h1.symm.trans e
    exact ⟨h3, by rw [h2]; exact fun z => nomatch z⟩
theorem ResRs.earlier {K : PySem.W.Frag} {F : Hp} {io : List Addr} {H0 H1 H : Hp} (z : ∀ a, H0 a = none → H1 a = none) : ∀ {vs : List V} {ds : List D}, ResRs K F io H0 H vs ds → ResRs K F io H1 H vs ds
  | _, _, .nil => .nil
  | _, _, .cons a r d => .cons (a.earlier z) (ResRs.earlier z r) d
theorem ResRs.get {K : PySem.W.Frag} {F : Hp} {io : List Addr} {H0 H : Hp} : ∀ {vs : List V} {ds : List D} {j : Nat} {d : D} {v : V}, ResRs K F io H0 H vs ds → ds[j]? = some d → vs[j]? = some v → ResR K F io H0 H v d
  | _, _, _, _, _, .nil, h, _ => by simp at h
  | _, _, 0, _, _, .cons a _ _, h, h2 => by simp at h h2; subst h h2; exact a
  | _, _, j + 1, _, _, .cons _ r _, h, h2 => ResRs.get (j := j) r (by simpa using h) (by simpa using h2)
theorem o_nil {cs : CallS} : PA X [] (tAo X.K G (evEo cs [])) := imp_a pa_nil fun st H Q q => by
  obtain ⟨F, io, l, m, S, ds, m', e, q⟩ := q
  cases e
  exact q [] F io H (.refl _ _ _) S.sm .nil
theorem o_cons {e : Expr} {es : List Expr} {ge : EvL} {gs : Mp.Loc → Mem → Res (List D)} (he : PE X e (tE X.K G false ge)) (hs : PA X es (tAo X.K G gs)) (hn : isStar e = false) :
    PA X (e :: es) (tAo X.K G fun l m => (ge l m).bind fun x m1 => (gs l m1).bind fun xs m2 => .ok (x :: xs) m2) := imp_a (pa_cons he hs (star_ok hn)) fun st H Q q => by
  obtain ⟨F, io, l, m, S, ds, m', e, q⟩ := q
  obtain ⟨x, m1, e1, e⟩ := bind_ok e
  obtain ⟨xs, m2, e2, e⟩ := bind_ok e
  cases e
  refine ⟨F, io, l, m, S, x, m1, e1, fun v F1 io1 H1 G1 S1 R1 => ?_⟩
  have R1 : ResR X.K F1 io1 H H1 v x := R1.elim id fun z => nomatch z.1
  refine ⟨F1, io1, l, m1, S.grow G1 S1, xs, m', e2, fun vs F3 io3 H3 G3 S3 R3 => ?_⟩
  refine q (v :: vs) F3 io3 H3 (G1.trans G3) S3 (.cons (R1.mono G3) (R3.earlier fun a z => G1.back z) fun p hp ho j d hd hod hv => ?_)
  have h1 := (resr_fresh R1 ho hp).2
  exact h1 (resr_fresh (R3.get hd hv) hod rfl).1
theorem Locs.puto {K : PySem.W.Frag} {H0 F : Hp} {io : List Addr} {l : Mp.Loc} {st : L2.St} {H : Hp} {v : V} {d : D} (h : Locs K H0 F io l st H) (i : Nat) (r : ResR K F io H0 H v d)
    (fr : ∀ p, v = .ref p → isOwn d = true → ∀ (j : Nat) (e : D), j ≠ i → l[j]? = some e → isOwn e = true → st[j]? ≠ some (some (.ref p))) : Locs K H0 F io (l.set i d) (st.set i (some v)) H := by
  cases d with
  | own ds =>
    obtain ⟨p, xs, rfl, hp, r, nf, ni, n0⟩ := r
    exact h.putOwn i rfl ⟨p, xs, rfl, hp, r, nf, ni, n0⟩ (fr p rfl rfl)
  | odct ks ds =>
    obtain ⟨p, xs, rfl, hp, ek, r, nf, ni, n0⟩ := r
    exact h.putOwn i rfl ⟨p, xs, rfl, hp, ek, r, nf, ni, n0⟩ (fr p rfl rfl)
  | unb => cases r
  | _ => exact h.put i r
theorem set_allo {K : PySem.W.Frag} {G : Gam} {F : Hp} {io : List Addr} {m : Mem} {H : Hp} : ∀ {is : List Nat} {us : List V} {ds : List D} {l l' : Mp.Loc} {st : L2.St}, Sim K G F io l m st H → ResRs K F io G.H H us ds →
    (∀ (k : Nat) (d : D) (p : Addr), ds[k]? = some d → isOwn d = true → us[k]? = some (.ref p) → ∀ (j : Nat) (e : D), l[j]? = some e → isOwn e = true → st[j]? ≠ some (some (.ref p))) → setAll is ds l = some l' → us.length = is.length ∧ Sim K G F io l' m (setV is us st) H
  | [], _, _, _, _, _, S, .nil, _, e => by cases e; exact ⟨rfl, S⟩
  | i :: is, _, _, l, _, st, S, @ResRs.cons _ _ _ _ _ v vs d ds r rs dist, fr, e => by
    have lo := S.lo.puto i r fun p hp ho j e' _ he' ho' => fr 0 d p rfl ho (by rw [hp]; rfl) j e' he' ho'
    have fr2 : ∀ (k : Nat) (d2 : D) (p : Addr), ds[k]? = some d2 → isOwn d2 = true → vs[k]? = some (.ref p) → ∀ (j : Nat) (e : D), (l.set i d)[j]? = some e → isOwn e = true → (st.set i (some v))[j]? ≠ some (some (.ref p)) := fun k d2 p hd2 ho2 hu2 j e' he' ho' hs => by
      by_cases hj : i = j
      · subst hj
        have hi : i < l.length := by have := (List.getElem?_eq_some_iff.mp he').1; rwa [List.length_set] at this
        rw [List.getElem?_set_self hi] at he'
        cases he'
        rw [List.getElem?_set_self (by rw [← S.lo.len]; exact hi)] at hs
        exact dist p (Option.some.inj (Option.some.inj hs)) ho' k d2 hd2 ho2 hu2
      · rw [List.getElem?_set_ne hj] at he' hs
        exact fr (k + 1) d2 p (by simpa using hd2) ho2 (by simpa using hu2) j e' he' ho' hs
    obtain ⟨h1, h2⟩ := set_allo (is := is) ⟨S.sm, S.gr, lo⟩ rs fr2 e
    exact ⟨congrArg (· + 1) h1, h2⟩
  | [], _, _, _, _, _, _, .cons _ _ _, _, e => by cases e
  | _ :: _, _, _, _, _, _, _, .nil, _, e => by cases e
theorem st_par {s : Stmt} {is : List Nat} {ta : TA} {gs : Mp.Loc → Mem → Res (List D)} {t : TS} (h : PS X s t) (hv : ∀ E st H, ta st H (fun vs H1 => vs.length = is.length ∧ E.nx (setV is vs st) H1) → t E st H) (ha : ∀ st H Q, tAo X.K G gs st H Q → ta st H Q) :
    PS X s (tS X.K G fun l m => (gs l m).stm fun xs m1 => match setAll is xs l with | some l1 => .nxt l1 m1 | none => .bad) := imp_s h fun E st H q => by
  obtain ⟨F, io, l, m, S, q⟩ := q
  obtain ⟨ds, m1, e1, q⟩ := stm_post q
  cases hp : setAll is ds l with
  | none => rw [hp] at q; exact q.elim
  | some l1 =>
    rw [hp] at q
    refine hv E st H (ha st H _ ⟨F, io, l, m, S, ds, m1, e1, fun vs F1 io1 H1 G1 S1 R1 => ?_⟩)
    have SG := S.grow G1 S1
    obtain ⟨h1, h2⟩ := set_allo SG (R1.earlier fun a z => S.gr.back z) (fun k d p hd ho hu j e he hoe hs => own_there (S.lo.slot j e he) hoe hs (resr_fresh (R1.get hd hu) ho rfl).1) hp
    exact ⟨h1, q _ F1 io1 H1 G1.ex G1.pre h2⟩
/-- a name's new list becomes a cell: it may be changed by whoever is handed it -/
theorem st_cell {s : Stmt} {i : Nat} {te : TE} {ge : EvL} (h : PS X s (tAsg te (gName i))) (he : ∀ st H Q, tE X.K G false ge st H Q → te st H Q) : PS X s (tS X.K G fun l m => (ge l m).stm fun x m1 => match x with
    | .own xs => .nxt (l.set i (.ref m1.length)) (m1 ++ [.lst xs])
    | _ => .bad) := imp_s h fun E st H q => by
  obtain ⟨F, io, l, m, S, q⟩ := q
  obtain ⟨d, m1, e1, q⟩ := stm_post q
  refine he st H _ ⟨F, io, l, m, S, d, m1, e1, fun v F1 io1 H1 G1 S1 R1 => ?_⟩
  have R9 : ResR X.K F1 io1 H H1 v d := R1.elim id fun z => nomatch z.1
  clear R1
  cases d <;> first | exact False.elim q | skip
  rename_i xs
  have R1 := R9
  obtain ⟨p, us, rfl, hp, r, nf, ni, n0⟩ := R1
  have SG := S.grow G1 S1
  have pre1 : io1 <+: io1 ++ [p] := ⟨[p], rfl⟩
  have sm2 : SimM X.K F1 (io1 ++ [p]) (m1 ++ [.lst xs]) H1 := by
    refine ⟨S1.ex, by simp [S1.len], ?_, fun a ha => ?_, fun k a c e1 e2 => ?_⟩
    · rw [List.nodup_append]
      refine ⟨S1.nd, by simp, fun a ha b hb z => ?_⟩
      simp at hb
      subst hb z
      exact ni ha
    · rcases List.mem_append.mp ha with ha | ha
      · exact S1.nf a ha
      · simp at ha; subst ha; exact nf
    · by_cases hk : k < io1.length
      · rw [List.getElem?_append_left hk] at e1
        rw [List.getElem?_append_left (by rw [← S1.len]; exact hk)] at e2
        exact (S1.cell k a c e1 e2).mono (Exh.refl _) pre1 fun _ e => e
      · have hk2 : k = io1.length := by
          have := (List.getElem?_eq_some_iff.mp e1).1
          simp at this; omega
        subst hk2
        rw [List.getElem?_append_right (Nat.le_refl _)] at e1
        rw [S1.len, List.getElem?_append_right (Nat.le_refl _)] at e2
        simp at e1 e2
        subst e1 e2
        exact ⟨us, hp, r.mono (Exh.refl _) pre1⟩
  have gr2 : Grow G.F G.io G.H F1 (io1 ++ [p]) H1 := by
    have g := SG.gr
    refine ⟨g.ex, g.pre.trans pre1, g.keep, g.nf, fun a ha => ?_, g.al⟩
    rcases List.mem_append.mp ha with ha | ha
    · exact g.ni a ha
    · simp at ha; subst ha; exact .inr (S.gr.back n0)
  have lo2 : Locs X.K G.H F1 (io1 ++ [p]) l st H1 := by
    refine ⟨SG.lo.len, fun j d hd => ?_, SG.lo.sep⟩
    have s2 := SG.lo.slot j d hd
    have np : ∀ q, isOwn d = true → st[j]? = some (some (.ref q)) → q ∉ io1 → q ∉ io1 ++ [p] := fun q ho hq hn z => by
      rcases List.mem_append.mp z with z | z
      · exact hn z
      · simp at z
        subst z
        exact own_there (S.lo.slot j d hd) ho hq n0
    cases d with
    | unb => trivial
    | own es => obtain ⟨q, ys, h1, h2, h3, h4, h5, h6⟩ := s2; exact ⟨q, ys, h1, h2, h3.mono (Exh.refl _) pre1, h4, np q rfl h1 h5, h6⟩
    | odct es fs => obtain ⟨q, ys, h1, h2, h3, h3', h4, h5, h6⟩ := s2; exact ⟨q, ys, h1, h2, h3, h3'.mono (Exh.refl _) pre1, h4, np q rfl h1 h5, h6⟩
    | _ => obtain ⟨v, h1, h2⟩ := s2; exact ⟨v, h1, h2.mono (Exh.refl _) pre1⟩
  refine q _ F1 (io1 ++ [p]) H1 G1.ex (G1.pre.trans pre1) ⟨sm2, gr2, lo2.put i (.ref ?_)⟩
  rw [← S1.len, List.getElem?_append_right (Nat.le_refl _)]
  simp

/-! ### loops -/
theorem turn_post {K : PySem.W.Frag} {F : Hp} {io : List Addr} {E : Ends} {r : ResS} {g : Mp.Loc → Mem → ResS} {N : L2.St → Hp → Prop} (h : Post K G F io E (r.turn g))
    (hN : ∀ l m st F' io' H', Exh F F' → io <+: io' → Sim K G F' io' l m st H' → Post K G F' io' E (g l m) → N st H') : Post K G F io { E with nx := N, ct := N, bk := E.nx } r := by
  cases r with
  | nxt l m => exact fun st F' io' H' e p S => hN l m st F' io' H' e p S (Post.later h e p)
  | cnt l m => exact fun st F' io' H' e p S => hN l m st F' io' H' e p S (Post.later h e p)
  | brk l m => exact h
  | ret d m => exact h
  | exc _ _ => exact h
  | bad => exact h
theorem st_loop {tg iter : Expr} {body : List Stmt} {t : Tg} {gsrc : EvL} {gb : Mp.Loc → Mem → ResS} (hp : PassesOwn (model X.prog X.w) X.A X.env X.xe) (hc : X.calm = true) (hi : PI X tg iter (iF X.K G gsrc)) (hg : PG X tg (tgR X.K t)) (hb : PSs X body (tS X.K G gb))
    (hs : ∀ x, foldedSetIterable iter X.env x = pure x) :
    PS X (.For tg iter body [] pos) (tS X.K G fun l m => (gsrc l m).stm fun s m1 => match items (frz s) with
      | none => .bad
      | some xs => forGo (fun x l m => match t.put x l with | some l1 => gb l1 m | none => .bad) xs l m1) := imp_s (ps_for hp hc hi hg hb hs) fun E st H q => by
  obtain ⟨F, io, l, m, S, q⟩ := q
  obtain ⟨s, m1, e1, q⟩ := stm_post q
  cases hx : items (frz s) with
  | none => rw [hx] at q; exact q.elim
  | some xs =>
    rw [hx] at q
    refine ⟨F, io, l, m, S, s, m1, xs, e1, hx, fun J F1 io1 H1 G1 S1 Y => ?_⟩
    refine ⟨fun i n st H => n = xs.length - i ∧ i ≤ xs.length ∧ ∃ F2 io2 l2 m2, Exh F1 F2 ∧ io1 <+: io2 ∧ Sim X.K G F2 io2 l2 m2 st H ∧ Post X.K G F2 io2 E (forGo (fun x l m => match t.put x l with | some l1 => gb l1 m | none => .bad) (xs.drop i) l2 m2),
      ⟨_, rfl, Nat.zero_le _, F1, io1, l, m1, Exh.refl _, List.prefix_refl _, S.grow G1 S1, q.later G1.ex G1.pre⟩, ?_⟩
    rintro i n st2 H2 ⟨rfl, hle, F2, io2, l2, m2, x2, p2, S2, q2⟩
    obtain ⟨y1, y2, y3⟩ := Y i F2 io2 m2 H2 ⟨x2, p2⟩ S2.sm
    by_cases hlt : i < xs.length
    · refine .inr ⟨y1 hlt, fun st' H' => ∃ F3 io3 l3 m3, Exh F1 F3 ∧ io1 <+: io3 ∧ Sim X.K G F3 io3 l3 m3 st' H' ∧ Post X.K G F3 io3 E (forGo (fun x l m => match t.put x l with | some l1 => gb l1 m | none => .bad) (xs.drop (i + 1)) l3 m3),
        fun st' H' s' => ⟨_, by omega, rfl, hlt, s'⟩, fun x H3 yl => ?_⟩
      obtain ⟨dx, F3, hdx, G3, S3, rx⟩ := y3 hlt x H3 yl
      have edx : xs.drop i = dx :: xs.drop (i + 1) := by
        rw [List.drop_eq_getElem_cons hlt]
        rw [List.getElem?_eq_getElem hlt] at hdx
        rw [Option.some.inj hdx]
      rw [edx] at q2
      have q3 : Post X.K G F2 io2 E ((match t.put dx l2 with | some l1 => gb l1 m2 | none => .bad).turn (forGo (fun x l m => match t.put x l with | some l1 => gb l1 m | none => .bad) (xs.drop (i + 1)))) := q2
      cases hp2 : t.put dx l2 with
      | none => rw [hp2] at q3; exact q3.elim
      | some l1 =>
        rw [hp2] at q3
        refine tg_ok (S2.grow G3 S3) rx hp2 fun st3 _ S4 => ⟨F3, io2, l1, m2, S4, ?_⟩
        refine turn_post (q3.later G3.ex (List.prefix_refl _)) fun l4 m4 st4 F4 io4 H4 e4 p4 S5 q5 => ?_
        exact ⟨F4, io4, l4, m4, (x2.trans G3.ex).trans e4, p2.trans p4, S5, q5⟩
    · refine .inl ⟨y2 (by omega), ?_⟩
      rw [List.drop_eq_nil_of_le (by omega)] at q2
      exact q2 st2 F2 io2 H2 (Exh.refl _) (List.prefix_refl _) S2
theorem st_whil {c : Expr} {body : List Stmt} {gc : EvL} {gb : Mp.Loc → Mem → ResS} {w : Nat} (hp : PassesOwn (model X.prog X.w) X.A X.env X.xe) (hc : PT X c (tTt X.K G gc)) (hb : PSs X body (tS X.K G gb)) :
    PS X (.While c body [] pos) (tS X.K G fun l m => whileGo gc gb w l m) := imp_s (ps_while hp hc hb) fun E st H q => by
  obtain ⟨F, io, l, m, S, q⟩ := q
  refine ⟨fun n st H => ∃ F2 io2 l2 m2, Sim X.K G F2 io2 l2 m2 st H ∧ Post X.K G F2 io2 E (whileGo gc gb n l2 m2), ⟨w, F, io, l, m, S, q⟩, ?_⟩
  rintro n st2 H2 ⟨F2, io2, l2, m2, S2, q2⟩
  cases n with
  | zero => exact q2.elim
  | succ n =>
    obtain ⟨d, m3, e3, q3⟩ := stm_post (show Post X.K G F2 io2 E ((gc l2 m2).stm fun x m1 => match truth x with | some true => (gb l2 m1).turn (whileGo gc gb n) | some false => .nxt l2 m1 | none => .bad) from q2)
    cases ht : truth d with
    | none => rw [ht] at q3; exact q3.elim
    | some k =>
      rw [ht] at q3
      refine ⟨F2, io2, l2, m2, S2, d, m3, k, e3, ht, fun F3 io3 H3 G3 S3 => ?_⟩
      cases k with
      | false => exact iteF (q3 st2 F3 io3 H3 G3.ex G3.pre (S2.grow G3 S3))
      | true =>
        refine iteT ⟨fun st' H' => ∃ F4 io4 l4 m4, Sim X.K G F4 io4 l4 m4 st' H' ∧ Post X.K G F4 io4 E (whileGo gc gb n l4 m4), fun st' H' s' => ⟨n, Nat.lt_succ_self _, s'⟩, F3, io3, l2, m3, S2.grow G3 S3, ?_⟩
        exact turn_post (q3.later G3.ex G3.pre) fun l4 m4 st4 F4 io4 H4 e4 p4 S5 q5 => ⟨F4, io4, l4, m4, S5, q5⟩
end
end Mp

set_option Elab.async false
set_option linter.all false
set_option maxRecDepth 100000
set_option maxHeartbeats 1000000
/-! MpK: statements that change a list, a dict, a cell. -/
namespace Mp
open PySem PySem.Spec PyProof.Rows L2

section
variable {K : PySem.W.Frag} {G : Gam} {F : Hp} {io : List Addr} {l : Mp.Loc} {m : Mem} {st : L2.St} {H : Hp}
theorem set_same {α : Type} {l : List α} {i : Nat} {x : α} (h : l[i]? = some x) : l.set i x = l := by
  apply List.ext_getElem?
  intro j
  by_cases hj : i = j
  · subst hj
    rw [List.getElem?_set_self (List.getElem?_eq_some_iff.mp h).1, h]
  · rw [List.getElem?_set_ne hj]
/-- a name's own object is written -/
theorem Sim.write {i : Nat} {p : Addr} {d d' : D} {o : HO} (S : Sim K G F io l m st H) (hd : l[i]? = some d) (ho : isOwn d = true) (ho' : isOwn d' = true) (e : st[i]? = some (some (.ref p))) (nf : F p = none) (ni : p ∉ io) (n0 : G.H p = none)
    (r : SlotR K G.H F io (upd H p o) (some (some (.ref p))) d') : Sim K G F io (l.set i d') m st (upd H p o) := by
  have other : ∀ (j : Nat) (a : D), i ≠ j → l[j]? = some a → SlotR K G.H F io (upd H p o) st[j]? a := fun j a hj ha => by
    have s2 := S.lo.slot j a ha
    have np : ∀ q, isOwn a = true → st[j]? = some (some (.ref q)) → q ≠ p := fun q h1 h2 z => by
      subst z
      exact S.lo.sep i j d a q hj hd ha ho h1 e h2
    cases a with
    | unb => trivial
    | own es => obtain ⟨q, ys, h1, h2, h3, h4⟩ := s2; exact ⟨q, ys, h1, by rw [upd_ne (np q rfl h1)]; exact h2, h3, h4⟩
    | odct es fs => obtain ⟨q, ys, h1, h2, h3, h4⟩ := s2; exact ⟨q, ys, h1, by rw [upd_ne (np q rfl h1)]; exact h2, h3, h4⟩
    | _ => exact s2
  have hi : i < l.length := (List.getElem?_eq_some_iff.mp hd).1
  refine ⟨S.sm.mut nf ni, S.gr.mut n0, by rw [List.length_set]; exact S.lo.len, fun j a ha => ?_, fun j k a b q hjk ha hb oa ob hq => ?_⟩
  · by_cases hj : i = j
    · subst hj
      rw [List.getElem?_set_self hi] at ha
      cases ha
      rw [e]; exact r
    · rw [List.getElem?_set_ne hj] at ha
      exact other j a hj ha
  · have back : ∀ {j : Nat} {a : D}, (l.set i d')[j]? = some a → isOwn a = true → ∃ a', l[j]? = some a' ∧ isOwn a' = true := fun {j a} ha oa => by
      by_cases hj : i = j
      · subst hj; exact ⟨d, hd, ho⟩
      · rw [List.getElem?_set_ne hj] at ha; exact ⟨a, ha, oa⟩
    obtain ⟨a', ha', oa'⟩ := back ha oa
    obtain ⟨b', hb', ob'⟩ := back hb ob
    exact S.lo.sep j k a' b' q hjk ha' hb' oa' ob' hq
theorem list_of {d : D} {ys : List D} (h : listOf d = some ys) : d = .lst ys ∨ d = .own ys := by
  cases d <;> first | cases h; done | (cases h; exact .inl rfl) | (cases h; exact .inr rfl)
theorem int_of {d : D} {i : Int} (h : intOf d = some i) : d = .int i := by
  cases d <;> first | cases h; done | (cases h; rfl)
theorem cell_at {d : D} {m : Mem} {c : Nat} {xs : List D} (h : cellAt d m = some (c, xs)) : d = .ref c ∧ m[c]? = some (.lst xs) := by
  unfold cellAt at h
  split at h
  · split at h
    · cases h; exact ⟨rfl, by assumption⟩
    · cases h
  · cases h
theorem own_at {i : Nat} {ds : List D} (h : ownAt i l = some ds) : l[i]? = some (.own ds) := by
  unfold ownAt at h
  split at h
  · cases h; assumption
  · cases h
theorem Sim.own {i : Nat} {ds : List D} (S : Sim K G F io l m st H) (h : ownAt i l = some ds) : ∃ p us, st[i]? = some (some (.ref p)) ∧ H p = some (.lst us) ∧ Reps K F io us ds ∧ F p = none ∧ p ∉ io ∧ G.H p = none := S.lo.slot i _ (own_at h)
theorem Sim.relist {i : Nat} {p : Addr} {ds ds' : List D} {us' : List V} (S : Sim K G F io l m st H) (h : ownAt i l = some ds) (e : st[i]? = some (some (.ref p))) (nf : F p = none) (ni : p ∉ io) (n0 : G.H p = none) (r : Reps K F io us' ds') :
    Sim K G F io (l.set i (.own ds')) m st (upd H p (.lst us')) := S.write (own_at h) rfl rfl e nf ni n0 ⟨p, us', rfl, upd_same, r, nf, ni, n0⟩
end

section
variable {X : Cx} {G : Gam} {pos apos cpos p : Pos} {x : Str} {i : Nat}
theorem few1 {e : Expr} {env : Env} (h : isStar e = false) : ((backTo cpos (starEach [e] env)).all (fun x => !x.1) && (backToKw cpos (keywordEach [] env)).all (fun x => x.1.isSome) && decide ([e].length + ([] : List Keyword).length + (if ([] : List Keyword).isEmpty then 0 else 1) < 30)) = true := by
  rw [star_ok h]; rfl
theorem few2 {e e2 : Expr} {env : Env} (h : isStar e = false) (h2 : isStar e2 = false) : ((backTo cpos (starEach [e, e2] env)).all (fun x => !x.1) && (backToKw cpos (keywordEach [] env)).all (fun x => x.1.isSome) && decide ([e, e2].length + ([] : List Keyword).length + (if ([] : List Keyword).isEmpty then 0 else 1) < 30)) = true := by
  rw [star_ok h, star_ok h2]; rfl
/-- x.append(e) -/
theorem st_app {e : Expr} {ge : EvL} (hx : PE X (.Name x p) (tVar i)) (he : PE X e (tE X.K G false ge)) (hs : isStar e = false) (hl : (apos.endLine == cpos.line) = true) :
    PS X (.Expr (.Call (.Attribute (.Name x p) "append" apos) [e] [] cpos) pos) (tS X.K G fun l m => (ge l m).stm fun x m1 => match ownAt i l with
    | some xs => if Nat.blt xs.length LIM then .nxt (l.set i (.own (xs ++ [frz x]))) m1 else .bad
    | none => .bad) := by
  refine imp_s (ps_expr (pe_bm PySem.F.plainAttrs_list PySem.F.slot_list_append PySem.F.type_list_append mt_append hx (pa_cons he pa_nil (star_ok hs)) rfl (few1 hs) hl (star_ok hs) rfl) rfl) fun E st H q => ?_
  obtain ⟨F, io, l, m, S, q⟩ := q
  obtain ⟨d, m1, e1, q⟩ := stm_post q
  cases ho : ownAt i l with
  | none => rw [ho] at q; exact q.elim
  | some ds =>
    rw [ho] at q
    dsimp only at q
    cases hz : Nat.blt ds.length LIM with
    | false => rw [hz] at q; exact q.elim
    | true =>
      rw [hz] at q
      obtain ⟨a, us, e, ha, r, nf, ni, n0⟩ := S.own ho
      refine ⟨.ref a, e, .inl ⟨rfl, _, .inl (.inl ha)⟩, F, io, l, m, S, d, m1, e1, fun v F1 io1 H1 G1 S1 R1 => ?_⟩
      obtain ⟨F2, G2, S2, rv⟩ := ResR.froze G1 S1 (R1.elim id fun z => nomatch z.1)
      have SG := S.grow G2 S2
      obtain ⟨b, us2, e', ha2, r2, nf2, ni2, n02⟩ := SG.own ho
      rw [e] at e'
      cases e'
      refine ⟨a, us2, v, rfl, rfl, ha2, by rw [r2.len]; exact lim_lt hz, ?_⟩
      exact q st F2 io1 _ G2.ex G2.pre (SG.relist ho e nf2 ni2 n02 (r2.append (.cons rv .nil)))
/-- x.extend(e), e a list -/
theorem st_ext {e : Expr} {ge : EvL} (hx : PE X (.Name x p) (tVar i)) (he : PE X e (tE X.K G true ge)) (hs : isStar e = false) (hl : (apos.endLine == cpos.line) = true) :
    PS X (.Expr (.Call (.Attribute (.Name x p) "extend" apos) [e] [] cpos) pos) (tS X.K G fun l m => (ge l m).stm fun x m1 => match ownAt i l, listOf x with
    | some xs, some ys => if Nat.ble (xs.length + ys.length) LIM then .nxt (l.set i (.own (xs ++ ys))) m1 else .bad
    | _, _ => .bad) := by
  refine imp_s (ps_expr (pe_bm PySem.F.plainAttrs_list PySem.F.slot_list_extend PySem.F.type_list_extend mt_extend hx (pa_cons he pa_nil (star_ok hs)) rfl (few1 hs) hl (star_ok hs) rfl) rfl) fun E st H q => ?_
  obtain ⟨F, io, l, m, S, q⟩ := q
  obtain ⟨d, m1, e1, q⟩ := stm_post q
  cases ho : ownAt i l with
  | none => rw [ho] at q; exact q.elim
  | some ds =>
    rw [ho] at q
    cases hl : listOf d with
    | none => rw [hl] at q; exact q.elim
    | some ys =>
    rw [hl] at q
    have hd := list_of hl
    dsimp only at q
    cases hz : Nat.ble (ds.length + ys.length) LIM with
    | false => rw [hz] at q; exact q.elim
    | true =>
      rw [hz] at q
      obtain ⟨a, us, e, ha, r, nf, ni, n0⟩ := S.own ho
      refine ⟨.ref a, e, .inl ⟨rfl, _, .inl (.inl ha)⟩, F, io, l, m, S, d, m1, e1, fun v F1 io1 H1 G1 S1 R1 => ?_⟩
      have SG := S.grow G1 S1
      obtain ⟨b, us2, e', ha2, r2, nf2, ni2, n02⟩ := SG.own ho
      rw [e] at e'
      cases e'
      obtain ⟨c, ws, rfl, hc, rc⟩ := lk_list S1 R1.lk hd
      refine ⟨a, c, us2, ws, rfl, rfl, ha2, hc, by rw [r2.len, rc.len]; exact lim_line hz, ?_⟩
      exact q st F1 io1 _ G1.ex G1.pre (SG.relist ho e nf2 ni2 n02 (r2.append rc))
/-- x.insert(a, e) -/
theorem st_ins {ea e : Expr} {ga ge : EvL} (hx : PE X (.Name x p) (tVar i)) (ha : PE X ea (tE X.K G true ga)) (he : PE X e (tE X.K G false ge)) (hs : isStar ea = false) (hs2 : isStar e = false) (hl : (apos.endLine == cpos.line) = true) :
    PS X (.Expr (.Call (.Attribute (.Name x p) "insert" apos) [ea, e] [] cpos) pos) (tS X.K G fun l m => (ga l m).stm fun x m1 => (ge l m1).stm fun v m2 => match ownAt i l, intOf x with
    | some xs, some k => if decide (0 ≤ k) && decide (k ≤ xs.length) && Nat.blt xs.length LIM then .nxt (l.set i (.own (xs.take k.toNat ++ Mp.frz v :: xs.drop k.toNat))) m2 else .bad
    | _, _ => .bad) := by
  refine imp_s (ps_expr (pe_bm PySem.F.plainAttrs_list PySem.F.slot_list_insert PySem.F.type_list_insert mt_insert hx (pa_cons ha (pa_cons he pa_nil (star_ok hs2)) (star_ok hs)) rfl (few2 hs hs2) hl (star_ok hs) (by rw [star_ok hs2]; rfl)) rfl) fun E st H q => ?_
  obtain ⟨F, io, l, m, S, q⟩ := q
  obtain ⟨k, m1, e1, q⟩ := stm_post q
  obtain ⟨d, m2, e2, q⟩ := stm_post q
  cases ho : ownAt i l with
  | none => rw [ho] at q; exact q.elim
  | some ds =>
    rw [ho] at q
    cases hk : intOf k with
    | none => rw [hk] at q; exact q.elim
    | some kk =>
    rw [hk] at q
    have hk := int_of hk
    dsimp only at q
    cases hz : (decide (0 ≤ kk) && decide (kk ≤ ds.length) && Nat.blt ds.length LIM) with
    | false => rw [hz] at q; exact q.elim
    | true =>
      rw [hz] at q
      simp only [Bool.and_eq_true, decide_eq_true_eq] at hz
      obtain ⟨a, us, e, hA, r, nf, ni, n0⟩ := S.own ho
      refine ⟨.ref a, e, .inl ⟨rfl, _, .inl (.inl hA)⟩, F, io, l, m, S, k, m1, e1, fun vk F1 io1 H1 G1 S1 R1 => ?_⟩
      rw [hk] at R1
      have h1 := lk_int R1.lk
      subst h1
      refine ⟨F1, io1, l, m1, S.grow G1 S1, d, m2, e2, fun v F2 io2 H2 G2 S2 R2 => ?_⟩
      obtain ⟨F3, G3, S3, rv⟩ := ResR.froze G2 S2 (R2.elim id fun z => nomatch z.1)
      have G13 := G1.trans G3
      have SG := S.grow G13 S3
      obtain ⟨b, us2, e', ha2, r2, nf2, ni2, n02⟩ := SG.own ho
      rw [e] at e'
      cases e'
      have hlim : ds.length < 1000000 := Nat.le_of_ble_eq_true hz.2
      refine ⟨a, us2, kk, v, rfl, rfl, ha2, by rw [r2.len]; exact lim_lt hz.2, hz.1.1, by omega, ?_⟩
      refine q st F3 io2 _ G13.ex G13.pre (SG.relist ho e nf2 ni2 n02 ?_)
      rw [List.append_assoc]
      exact (r2.take _).append (.cons rv (r2.drop _))
theorem dropLast_reps {K : PySem.W.Frag} {F : Hp} {io : List Addr} {us : List V} {ds : List D} (r : Reps K F io us ds) : Reps K F io us.dropLast ds.dropLast := by
  rw [List.dropLast_eq_take, List.dropLast_eq_take, r.len]
  exact r.take _
/-- x.pop() -/
theorem st_pop (hx : PE X (.Name x p) (tVar i)) (hl : (apos.endLine == cpos.line) = true) :
    PS X (.Expr (.Call (.Attribute (.Name x p) "pop" apos) [] [] cpos) pos) (tS X.K G fun l m => match ownAt i l with
    | some xs => match xs[xs.length - 1]? with
      | some _ => .nxt (l.set i (.own xs.dropLast)) m
      | none => .bad
    | none => .bad) := by
  refine imp_s (ps_expr (pe_bm0 PySem.F.plainAttrs_list PySem.F.slot_list_pop PySem.F.type_list_pop mt_pop hx rfl hl) rfl) fun E st H q => ?_
  obtain ⟨F, io, l, m, S, q⟩ := q
  dsimp only at q
  cases ho : ownAt i l with
  | none => rw [ho] at q; exact q.elim
  | some ds =>
    rw [ho] at q
    dsimp only at q
    cases hd : ds[ds.length - 1]? with
    | none => rw [hd] at q; exact q.elim
    | some y =>
      rw [hd] at q
      obtain ⟨a, us, e, hA, r, nf, ni, n0⟩ := S.own ho
      obtain ⟨u, hu, ru⟩ := r.get hd
      refine ⟨.ref a, e, .inl ⟨rfl, _, .inl (.inl hA)⟩, a, us, u, rfl, rfl, hA, by rw [r.len]; exact hu, ?_⟩
      exact q st F io _ (Exh.refl _) (List.prefix_refl _) (S.relist ho e nf ni n0 (dropLast_reps r))
/-- target = x.pop() -/
theorem st_popto {t : Tg} {s : Stmt} (hx : PE X (.Name x p) (tVar i)) (hl : (apos.endLine == cpos.line) = true) (h : ∀ {te : TE}, PE X (.Call (.Attribute (.Name x p) "pop" apos) [] [] cpos) te → PS X s (tAsg te (tgR X.K t))) :
    PS X s (tS X.K G fun l m => match ownAt i l with
    | some xs => match xs[xs.length - 1]? with
      | some y => match t.put y (l.set i (.own xs.dropLast)) with
        | some l1 => .nxt l1 m
        | none => .bad
      | none => .bad
    | none => .bad) := by
  refine imp_s (h (pe_bm0 PySem.F.plainAttrs_list PySem.F.slot_list_pop PySem.F.type_list_pop mt_pop hx rfl hl)) fun E st H q => ?_
  obtain ⟨F, io, l, m, S, q⟩ := q
  dsimp only at q
  cases ho : ownAt i l with
  | none => rw [ho] at q; exact q.elim
  | some ds =>
    rw [ho] at q
    dsimp only at q
    cases hd : ds[ds.length - 1]? with
    | none => rw [hd] at q; exact q.elim
    | some y =>
      rw [hd] at q
      dsimp only at q
      cases hp : t.put y (l.set i (.own ds.dropLast)) with
      | none => rw [hp] at q; exact q.elim
      | some l1 =>
        rw [hp] at q
        obtain ⟨a, us, e, hA, r, nf, ni, n0⟩ := S.own ho
        obtain ⟨u, hu, ru⟩ := r.get hd
        refine ⟨.ref a, e, .inl ⟨rfl, _, .inl (.inl hA)⟩, a, us, u, rfl, rfl, hA, by rw [r.len]; exact hu, ?_⟩
        exact tg_ok (S.relist ho e nf ni n0 (dropLast_reps r)) ru hp fun st' _ S' => q st' F io _ (Exh.refl _) (List.prefix_refl _) S'
/-- x[a] = e, x a name's own list -/
theorem st_seti {ea e : Expr} {ga ge : EvL} {p2 : Pos} (hx : PE X (.Name x p) (tVar i)) (ha : PE X ea (tE X.K G true ga)) (he : PE X e (tE X.K G false ge))
    (hsub : ∀ v, assign (.Subscript (.Name x p) ea p2) X.env v = (do
      let ov ← holding [v] (eval (.Name x p) X.env)
      let iv ← holding [v, ov] (eval ea X.env)
      standAt p2
      holding [v, ov, iv] (setItem ov iv v)
      release [v, ov, iv] [])) (hs : swapsWithSole [.Subscript (.Name x p) ea p2] e pos.line X.env = pure false) (hw : swappedStores [.Subscript (.Name x p) ea p2] e X.env = pure none) :
    PS X (.Assign [.Subscript (.Name x p) ea p2] e pos) (tS X.K G fun l m => (ge l m).stm fun v m1 => (ga l m1).stm fun x m2 => match ownAt i l, intOf x with
    | some xs, some k => match ixAt k xs.length with
      | some j => .nxt (l.set i (.own (xs.set j (Mp.frz v)))) m2
      | none => .bad
    | _, _ => .bad) := by
  refine imp_s (ps_asg he (pg_sub hx ha set_list hsub) hs hw rfl) fun E st H q => ?_
  obtain ⟨F, io, l, m, S, q⟩ := q
  obtain ⟨d, m1, e1, q⟩ := stm_post q
  obtain ⟨k, m2, e2, q⟩ := stm_post q
  cases ho : ownAt i l with
  | none => rw [ho] at q; exact q.elim
  | some ds =>
    rw [ho] at q
    cases hk : intOf k with
    | none => rw [hk] at q; exact q.elim
    | some kk =>
    rw [hk] at q
    have hk := int_of hk
    dsimp only at q
    cases hj : ixAt kk ds.length with
    | none => rw [hj] at q; exact q.elim
    | some j =>
      rw [hj] at q
      refine ⟨F, io, l, m, S, d, m1, e1, fun v F1 io1 H1 G1 S1 R1 => ?_⟩
      obtain ⟨F2, G2, S2, rv⟩ := ResR.froze G1 S1 (R1.elim id fun z => nomatch z.1)
      have SG := S.grow G2 S2
      obtain ⟨a, us, e, hA, r, nf, ni, n0⟩ := SG.own ho
      refine ⟨.ref a, e, F2, io1, l, m1, SG, k, m2, e2, fun vk F3 io3 H3 G3 S3 R3 => ?_⟩
      rw [hk] at R3
      have h1 := lk_int R3.lk
      subst h1
      have SG3 := SG.grow G3 S3
      obtain ⟨b, us2, e', ha2, r2, nf2, ni2, n02⟩ := SG3.own ho
      rw [e] at e'
      cases e'
      have G13 := G2.trans G3
      refine ⟨a, us2, kk, j, rfl, rfl, ha2, by rw [r2.len]; exact hj, ?_⟩
      exact q st F3 io3 _ G13.ex G13.pre (SG3.relist ho e nf2 ni2 n02 (Reps.set (rv.mono G3.ex G3.pre) j r2))
/-- a cell's object is written -/
theorem SimM.cellw {K : PySem.W.Frag} {F : Hp} {io : List Addr} {m : Mem} {H : Hp} {c : Nat} {a : Addr} {o : HO} {w : Cell} (s : SimM K F io m H) (ha : io[c]? = some a) (r : CellR K F io (upd H a o) a w) : SimM K F io (m.set c w) (upd H a o) where
  ex := fun b u e => by
    have : b ≠ a := fun z => by subst z; rw [s.nf b (List.mem_of_getElem? ha)] at e; cases e
    rw [upd_ne this]; exact s.ex b u e
  len := by rw [List.length_set]; exact s.len
  nd := s.nd
  nf := s.nf
  cell := fun k b w' e1 e2 => by
    by_cases hk : c = k
    · subst hk
      rw [ha] at e1
      cases e1
      have hc : c < m.length := by rw [← s.len]; exact (List.getElem?_eq_some_iff.mp ha).1
      rw [List.getElem?_set_self hc] at e2
      cases e2
      exact r
    · rw [List.getElem?_set_ne hk] at e2
      have hb : b ≠ a := fun z => by
        subst z
        exact hk ((List.getElem?_inj (List.getElem?_eq_some_iff.mp ha).1 s.nd).mp (ha.trans e1.symm))
      exact (s.cell k b w' e1 e2).mono (Exh.refl F) (List.prefix_refl _) fun u e => by rw [upd_ne hb]; exact e
/-- r[a] = e, r a cell with a list -/
theorem st_setr {er ea e : Expr} {gr ga ge : EvL} {p2 : Pos} (hx : PE X er (tE X.K G true gr)) (ha : PE X ea (tE X.K G true ga)) (he : PE X e (tE X.K G false ge))
    (hsub : ∀ v, assign (.Subscript er ea p2) X.env v = (do
      let ov ← holding [v] (eval er X.env)
      let iv ← holding [v, ov] (eval ea X.env)
      standAt p2
      holding [v, ov, iv] (setItem ov iv v)
      release [v, ov, iv] [])) (hs : swapsWithSole [.Subscript er ea p2] e pos.line X.env = pure false) (hw : swappedStores [.Subscript er ea p2] e X.env = pure none) :
    PS X (.Assign [.Subscript er ea p2] e pos) (tS X.K G fun l m => (ge l m).stm fun v m1 => (gr l m1).stm fun o m2 => (ga l m2).stm fun x m3 => match cellAt o m3, intOf x with
    | some (c, xs), some k => match ixAt k xs.length with
      | some j => .nxt l (m3.set c (.lst (xs.set j (Mp.frz v))))
      | none => .bad
    | _, _ => .bad) := by
  refine imp_s (ps_asg he (pg_sub hx ha set_list hsub) hs hw rfl) fun E st H q => ?_
  obtain ⟨F, io, l, m, S, q⟩ := q
  obtain ⟨d, m1, e1, q⟩ := stm_post q
  obtain ⟨o, m2, e2, q⟩ := stm_post q
  obtain ⟨k, m3, e3, q⟩ := stm_post q
  cases hc0 : cellAt o m3 with
  | none => rw [hc0] at q; exact q.elim
  | some cx =>
  obtain ⟨c, xs⟩ := cx
  rw [hc0] at q
  obtain ⟨ho, hm⟩ := cell_at hc0
  cases hk : intOf k with
  | none => rw [hk] at q; exact q.elim
  | some kk =>
  rw [hk] at q
  have hk := int_of hk
  dsimp only at q
  cases hj : ixAt kk xs.length with
  | none => rw [hj] at q; exact q.elim
  | some j =>
  rw [hj] at q
  refine ⟨F, io, l, m, S, d, m1, e1, fun v F1 io1 H1 G1 S1 R1 => ?_⟩
  obtain ⟨F2, G2, S2, rv⟩ := ResR.froze G1 S1 (R1.elim id fun z => nomatch z.1)
  have SG := S.grow G2 S2
  refine ⟨F2, io1, l, m1, SG, o, m2, e2, fun vo F3 io3 H3 G3 S3 R3 => ?_⟩
  rw [ho] at R3
  have SG3 := SG.grow G3 S3
  refine ⟨F3, io3, l, m2, SG3, k, m3, e3, fun vk F4 io4 H4 G4 S4 R4 => ?_⟩
  rw [hk] at R4
  have h1 := lk_int R4.lk
  subst h1
  have SG4 := SG3.grow G4 S4
  cases lk_rep (R3.lk.mono G4) with
  | @ref a _ hc =>
    obtain ⟨us, hH, r⟩ := S4.cell c a _ hc hm
    have G34 := G3.trans G4
    have G14 := G2.trans G34
    have rr := Reps.set (rv.mono G34.ex G34.pre) j r
    have a_in : a ∈ io4 := List.mem_of_getElem? hc
    refine ⟨a, us, kk, j, rfl, rfl, hH, by rw [r.len]; exact hj, ?_⟩
    refine q st F4 io4 _ G14.ex G14.pre ⟨S4.cellw hc ⟨_, upd_same, rr⟩, ?_, ?_⟩
    · have g := SG4.gr
      exact ⟨g.ex, g.pre, fun b u e n => by
        have : b ≠ a := fun z => by
          subst z
          rcases g.ni b a_in with z | z
          · exact n z
          · rw [e] at z; cases z
        rw [upd_ne this]; exact g.keep b u e n, g.nf, g.ni, fun b h => by
        by_cases z : b = a
        · subst z; rw [upd_same]; exact fun z => nomatch z
        · rw [upd_ne z]; exact g.al b h⟩
    · have lo := SG4.lo
      refine ⟨lo.len, fun j d hd => ?_, lo.sep⟩
      have s2 := lo.slot j d hd
      have ne : ∀ q, q ∉ io4 → q ≠ a := fun q h z => h (by rw [z]; exact a_in)
      cases d with
      | unb => trivial
      | own es => obtain ⟨q, ys, h1, h2, h3, h4, h5, h6⟩ := s2; exact ⟨q, ys, h1, by rw [upd_ne (ne q h5)]; exact h2, h3, h4, h5, h6⟩
      | odct es fs => obtain ⟨q, ys, h1, h2, h3, h3', h4, h5, h6⟩ := s2; exact ⟨q, ys, h1, by rw [upd_ne (ne q h5)]; exact h2, h3, h3', h4, h5, h6⟩
      | _ => exact s2
/-- x op= e, ints -/
theorem st_aug {e : Expr} {ge : EvL} {o : BOp} {op : Operator} {f : Int → Int → Int} (hN : X.N.Nodup) (hx : NameTo X i x) (he : PE X e (tE X.K G true ge)) (ho : PIp X op (ipI f)) (hf : ∀ a b, binop o (.int a) (.int b) = some (.int (f a b))) :
    PS X (.AugAssign (.Name x p) op e pos) (tS X.K G fun l m => (getV i l m).stm fun x m0 => (ge l m0).stm fun y m1 => match intOf x, intOf y with
    | some a, some b => (opt (binop o (.int a) (.int b)) m1).stm fun z m2 => .nxt (l.set i z) m2
    | _, _ => .bad) := imp_s (ps_aug hN hx.1 hx.2.1 he ho hx.2.2) fun E st H q => by
  obtain ⟨F, io, l, m, S, q⟩ := q
  obtain ⟨d, m0, e1, q⟩ := stm_post q
  obtain ⟨y, m1, e2, q⟩ := stm_post q
  cases hd : intOf d with
  | none => rw [hd] at q; exact q.elim
  | some a =>
  cases hy : intOf y with
  | none => rw [hd, hy] at q; exact q.elim
  | some b =>
  rw [hd, hy] at q
  have hd := int_of hd
  have hy := int_of hy
  have q9 : Post X.K G F io E ((opt (binop o (.int a) (.int b)) m1).stm fun z m2 => .nxt (l.set i z) m2) := q
  rw [hf] at q9
  rw [hd] at e1
  obtain ⟨hl, rfl⟩ : l[i]? = some (.int a) ∧ m0 = m := by
    unfold getV at e1
    cases hd9 : l[i]? with
    | none => rw [hd9] at e1; cases e1
    | some d9 =>
      rw [hd9] at e1
      have e1 : get1 d9 m = Res.ok (D.int a) m0 := e1
      cases d9 <;> first | cases e1; done | skip
      cases e1; exact ⟨rfl, rfl⟩
  obtain ⟨v, hv, r⟩ := S.lo.slot i _ hl
  cases r
  refine ⟨_, hv, F, io, l, m0, S, y, m1, e2, fun w F1 io1 H1 G1 S1 R1 => ?_⟩
  rw [hy] at R1
  have h1 := lk_int R1.lk
  subst h1
  refine ⟨a, b, rfl, rfl, ?_⟩
  exact q9 _ F1 io1 H1 G1.ex G1.pre ((S.grow G1 S1).put i (.int _))
/-- d[k] = v in a dict of one's own -/
theorem put_map {K : PySem.W.Frag} {F : Hp} {io : List Addr} {v : V} {x : D} {k : List Key} (rv : Rep K F io v x) : ∀ {kvs : List (List Key × V)} {ds : List D}, Reps K F io (kvs.map (·.2)) ds →
    (kvs.map (fun kv => if kv.1 = k then (kv.1, v) else kv)).map (fun p => tkD p.1) = kvs.map (fun p => tkD p.1) ∧
    Reps K F io ((kvs.map (fun kv => if kv.1 = k then (kv.1, v) else kv)).map (·.2)) (List.zipWith (fun a y => if eqv a (tkD k) then x else y) (kvs.map fun p => tkD p.1) ds)
  | [], _, .nil => ⟨rfl, .nil⟩
  | p :: r, _, .cons a b => by
    obtain ⟨h1, h2⟩ := put_map (k := k) rv b
    simp only [List.map_cons, List.zipWith_cons_cons, eqv_tk, decide_eq_true_eq]
    by_cases e : p.1 = k
    · simp only [if_pos e]
      refine ⟨by rw [h1], .cons rv ?_⟩
      simpa only [eqv_tk, decide_eq_true_eq] using h2
    · simp only [if_neg e]
      refine ⟨by rw [h1], .cons a ?_⟩
      simpa only [eqv_tk, decide_eq_true_eq] using h2
theorem put_reps {K : PySem.W.Frag} {F : Hp} {io : List Addr} {v : V} {x : D} {k : List Key} {kvs : List (List Key × V)} {ds : List D} (rv : Rep K F io v x) (r : Reps K F io (kvs.map (·.2)) ds) :
    (dictPut (tkD k) x (kvs.map fun p => tkD p.1) ds).1 = (putK kvs k v).map (fun p => tkD p.1) ∧ Reps K F io ((putK kvs k v).map (·.2)) (dictPut (tkD k) x (kvs.map fun p => tkD p.1) ds).2 := by
  unfold dictPut putK
  rw [keys_any]
  cases h : kvs.any fun p => decide (p.1 = k) with
  | true => exact ⟨(put_map rv r).1.symm, (put_map rv r).2⟩
  | false =>
    simp only [Bool.false_eq_true, if_false]
    refine ⟨by rw [List.map_append]; rfl, ?_⟩
    rw [List.map_append]
    exact r.append (.cons rv .nil)
def dctAt (i : Nat) (l : Mp.Loc) : Option (List D × List D) := match l[i]? with
  | some (.odct ks vs) => some (ks, vs)
  | _ => none
theorem st_dput {ea e : Expr} {ga ge : EvL} {p2 : Pos} (hu : X.A.units + 1 < cLine) (hx : PE X (.Name x p) (tVar i)) (ha : PE X ea (tE X.K G true ga)) (he : PE X e (tE X.K G false ge)) (hs : swapsWith e (some (.Subscript (.Name x p) ea p2)) pos.line X.env = pure false) :
    PS X (.Assign [.Subscript (.Name x p) ea p2] e pos) (tS X.K G fun l m => (ge l m).stm fun v m1 => (ga l m1).stm fun k m2 => match l[i]? with
    | some (.odct ks vs) => if isTK k && Nat.blt ks.length LIM then .nxt (l.set i (.odct (dictPut k (Mp.frz v) ks vs).1 (dictPut k (Mp.frz v) ks vs).2)) m2 else .bad
    | _ => .bad) := by
  refine imp_s (ps_dput hu hx ha he hs) fun E st H q => ?_
  obtain ⟨F, io, l, m, S, q⟩ := q
  obtain ⟨d, m1, e1, q⟩ := stm_post q
  obtain ⟨k, m2, e2, q⟩ := stm_post q
  obtain ⟨ks, vs, hl, q⟩ : ∃ ks vs, l[i]? = some (.odct ks vs) ∧ Post X.K G F io E (if (isTK k && Nat.blt ks.length LIM) = true then .nxt (l.set i (.odct (dictPut k (Mp.frz d) ks vs).1 (dictPut k (Mp.frz d) ks vs).2)) m2 else .bad) := by
    cases hl : l[i]? with
    | none => rw [hl] at q; exact q.elim
    | some y =>
      rw [hl] at q
      cases y <;> first | exact ⟨_, _, rfl, q⟩ | exact False.elim q
  cases hz : (isTK k && Nat.blt ks.length LIM) with
  | false => rw [hz] at q; exact q.elim
  | true =>
  rw [hz] at q
  rw [Bool.and_eq_true] at hz
  refine ⟨F, io, l, m, S, d, m1, e1, fun v F1 io1 H1 G1 S1 R1 => ?_⟩
  obtain ⟨F2, G2, S2, rv⟩ := ResR.froze G1 S1 (R1.elim id fun z => nomatch z.1)
  have SG := S.grow G2 S2
  obtain ⟨a, kvs, ea0, hA, ek, r, nf, ni, n0⟩ := SG.lo.slot i _ hl
  refine ⟨.ref a, ea0, F2, io1, l, m1, SG, k, m2, e2, fun vk F3 io3 H3 G3 S3 R3 => ?_⟩
  have SG3 := SG.grow G3 S3
  obtain ⟨b, kvs2, e', ha2, ek2, r2, nf2, ni2, n02⟩ := SG3.lo.slot i _ hl
  rw [ea0] at e'
  cases e'
  obtain ⟨c, kk, rfl, rfl, hc⟩ := lk_tk S3 R3.lk hz.1
  have hlen : kvs2.length < sizeLine := by
    have := lim_lt hz.2
    rw [ek2, List.length_map] at this; exact this
  refine ⟨a, _, rfl, DPut.t ha2 hc hlen, ?_⟩
  have G13 := G2.trans G3
  refine q st F3 io3 _ G13.ex G13.pre ?_
  have pr := put_reps (k := kk) (rv.mono G3.ex G3.pre) r2
  rw [← ek2] at pr
  exact SG3.write hl rfl rfl ea0 nf2 ni2 n02 ⟨a, _, rfl, upd_same, pr.1, pr.2, nf2, ni2, n02⟩
end
end Mp

set_option Elab.async false
set_option linter.all false
set_option maxRecDepth 100000
set_option maxHeartbeats 1000000
/-! MpL: a text and its small-language form, checked; expressions. -/
namespace Mp
open PySem PySem.Spec PyProof.Rows L2

/-- what a global name stands for -/
inductive GV where
  | fn (f : Nat) (shapes : List (Nat × List Str × List D))
  | val (d : D)
  | free
  | other
structure CE where
  N : List Str
  sc : Scope
  top : Bool
  glo : Str → GV

structure CxOk (X : Cx) (c : CE) (cs : CallS) (k : Nat) : Prop where
  N : X.N = c.N
  nd : c.N.Nodup
  sc : X.env.scope = c.sc
  kind : c.sc.kind = .function
  calm : X.calm = true
  room : Room k X.A
  fn : c.top = true → ∀ x, X.fn x = true
  po : c.top = true → PassesOwn (model X.prog X.w) X.A X.env X.xe
  call : ∀ x f sh, c.glo x = .fn f sh → ∀ n ks dfl, (n, ks, dfl) ∈ sh → CallOk X x k n ks dfl (cs f)
  val : ∀ x d, c.glo x = .val d → ∃ u v, X.mg x = some u ∧ RelV v u ∧ ∀ F io, Rep X.K F io v d
  free : ∀ x, c.glo x = .free → X.mg x = none

def blk (c : CE) (scope : Scope) : CE := { c with sc := relS scope c.sc, top := false }
theorem CxOk.blk {X : Cx} {c : CE} {cs : CallS} {k : Nat} (h : CxOk X c cs k) {scope : Scope} (hk : scope.kind = .function) (s : Shared) (H : Hp) (C : Addr) (cl : List (Str × Addr)) (fp : List Addr) : CxOk (X.blk s H scope (compEnvC scope cl C X.env) fp) (blk c scope) cs k where
  N := h.N
  nd := h.nd
  sc := by
    show relS scope X.env.scope = relS scope c.sc
    rw [h.sc]
  kind := hk
  calm := h.calm
  room := ⟨h.room.hd, h.room.dp, h.room.un⟩
  fn := fun z => nomatch z
  po := fun z => nomatch z
  call := fun x f sh e n ks dfl m => h.call x f sh e n ks dfl m
  val := fun x d e => h.val x d e
  free := fun x e => h.free x e

/-! ### small tests -/
mutual
def deq : D → D → Bool
  | .unb, .unb => true
  | .non, .non => true
  | .bl a, .bl b => decide (a = b)
  | .int a, .int b => decide (a = b)
  | .str a, .str b => decide (a = b)
  | .tup a, .tup b => deqs a b
  | .lst a, .lst b => deqs a b
  | _, _ => false
def deqs : List D → List D → Bool
  | [], [] => true
  | a :: as, b :: bs => deq a b && deqs as bs
  | _, _ => false
end
mutual
theorem deq_ok : ∀ {a b : D}, deq a b = true → a = b := by
  intro a b h
  cases a <;> cases b <;> simp only [deq, decide_eq_true_eq, Bool.false_eq_true] at h <;> first | rfl | (subst h; rfl) | (rw [deqs_ok h])
theorem deqs_ok : ∀ {a b : List D}, deqs a b = true → a = b
  | [], [], _ => rfl
  | a :: as, b :: bs, h => by
    simp only [deqs, Bool.and_eq_true] at h
    rw [deq_ok h.1, deqs_ok h.2]
  | [], _ :: _, h => by simp [deqs] at h
  | _ :: _, [], h => by simp [deqs] at h
end
def litOk : Const → D → Bool
  | .none, .non => true
  | .bool a, .bl b => decide (a = b)
  | .int a, .int b => decide (a = b)
  | .str a, .str b => decide (a = b)
  | _, _ => false
def seen (c : CE) (i : Nat) (x : Str) : Bool := decide (c.N[i]? = some x) && (match c.sc.names.lookup x with | some .local => true | some .cell => true | some .free => true | _ => false) && !(x == ("__debug__" : Str)) && !(x == ("__classdict__" : Str))
def glob (c : CE) (x : Str) : Bool := decide (c.sc.names.lookup x = some .globalImplicit) && !(x == ("__debug__" : Str))
def isFree : GV → Bool
  | .free => true
  | _ => false
def bltin (c : CE) (x y : Str) : Bool := decide (x = y) && decide (c.sc.names.lookup x = some .globalImplicit) && isFree (c.glo x)
def opOf : BOp → Operator
  | .add => .Add
  | .sub => .Sub
  | .mul => .Mult
  | .fdiv => .FloorDiv
  | .mod => .Mod
  | .pow => .Pow
def cmOf : COp → CmpOp
  | .eq => .Eq
  | .ne => .NotEq
  | .lt => .Lt
  | .le => .LtE
  | .gt => .Gt
  | .ge => .GtE
  | .is => .Is
  | .isnot => .IsNot
  | .inn => .In
  | .notin => .NotIn
def plainIx : Expr → Bool
  | .Slice .. => false
  | _ => true
theorem plainIx_ok {e : Expr} (h : plainIx e = true) : PlainIx e := by
  cases e <;> first | (intro _ _; rfl) | cases h
/-- its truth is its value's -/
def plainT : Expr → Bool
  | .UnaryOp .Not _ _ => false
  | .BoolOp .. => false
  | .IfExp .. => false
  | .Compare .. => false
  | _ => true
theorem plainT_ok {e : Expr} {env : Env} (h : plainT e = true) : ∀ whole, isTrue e env whole = (do let v ← whole; standAt e.pos; holding [v] (truthy v)) := by
  intro whole
  cases e <;> first | rfl | (cases h; done) | skip
  case UnaryOp op _ _ => cases op <;> first | rfl | cases h
def isSet : Expr → Bool
  | .Set .. => true
  | _ => false
theorem notSet_ok {e : Expr} {env : Env} (h : isSet e = false) : ∀ x, foldedSetIterable e env x = pure x := by
  intro x
  cases e <;> first | rfl | cases h
def isComp : Expr → Bool
  | .ListComp .. => true
  | .SetComp .. => true
  | .DictComp .. => true
  | _ => false
def primName : Prim → Str
  | .len => "len"
  | .abs => "abs"
  | .toInt => "int"
  | .toList => "list"
  | .toTuple => "tuple"
  | .all => "all"
  | .any => "any"
  | .isinst _ => "isinstance"
  | .range => "range"
def isRange : Prim → Bool
  | .range => true
  | _ => false
def isIsinst : Prim → Bool
  | .isinst _ => true
  | _ => false
def own (c : CE) (is : List Nat) : List (Str × Nat) := is.map fun i => (c.N.getD i "", i)
theorem own_snd (c : CE) : ∀ is : List Nat, (own c is).map (·.2) = is
  | [] => rfl
  | i :: is => by
    show i :: (own c is).map (·.2) = _
    rw [own_snd c is]
def nameTo (c : CE) (i : Nat) (x : Str) : Bool := decide (c.N[i]? = some x) && (decide (c.sc.names.lookup x = some .local) || (c.top && decide (c.sc.names.lookup x = some .cell)))
def chkNs (c : CE) : List Expr → List Nat → Bool
  | [], [] => true
  | .Name x _ :: es, i :: is => nameTo c i x && chkNs c es is
  | _, _ => false
def chkTg (c : CE) : Expr → Tg → Bool
  | .Name x _, .nm i => nameTo c i x
  | .Tuple es _ _, .tp is => chkNs c es is
  | _, _ => false
def noBehind (op : COp) (e : Expr) : Bool := match op, e with
  | .inn, .Set .. => false
  | .notin, .Set .. => false
  | _, _ => true
theorem noBehind_ok {op : COp} {e : Expr} (h : noBehind op e = true) : behindInMarks (cmOf op) e = false := by
  cases op <;> cases e <;> first | rfl | (cases h; done) | (simp [behindInMarks, cmOf]; done)

/-! ### the check -/
mutual
def chkE (c : CE) : Nat → Expr → E → Bool
  | 0, _, _ => false
  | n + 1, e, i => match i, e with
    | .lit d, .Constant k _ _ => litOk k d
    | .lit d, .Name x _ => glob c x && (match c.glo x with | .val v => deq v d | _ => false)
    | .var j, .Name x _ => seen c j x
    | .bor j, .Name x _ => seen c j x
    | .neg a, .UnaryOp .USub e _ => chkE c n e a
    | .not a, .UnaryOp .Not e _ => chkE c n e a
    | .and a b, .BoolOp .And [x, y] _ => chkE c n x a && chkE c n y b
    | .and a b, .BoolOp .And (x :: y :: z :: r) p => chkE c n x a && chkE c n (.BoolOp .And (y :: z :: r) p) b
    | .or a b, .BoolOp .Or [x, y] _ => chkE c n x a && chkE c n y b
    | .or a b, .BoolOp .Or (x :: y :: z :: r) p => chkE c n x a && chkE c n (.BoolOp .Or (y :: z :: r) p) b
    | .ite t a b, .IfExp x y z _ => chkT c n x t && chkE c n y a && chkE c n z b
    | .bin o a b, .BinOp x op y _ => decide (opOf o = op) && chkE c n x a && chkE c n y b
    | .cmp o a b, .Compare x [op] [y] _ => decide (cmOf o = op) && noBehind o y && chkE c n x a && chkE c n y b
    | .chain o o' a b d, .Compare x [op, op'] [y, z] _ => decide (cmOf o = op) && decide (cmOf o' = op') && noBehind o y && noBehind o' z && chkE c n x a && chkE c n y b && chkE c n z d
    | .tup es, .Tuple xs _ _ => noStars xs && chkEs c n xs es
    | .lst es, .List xs _ => noStars xs && chkEs c n xs es
    | .dnew, .Dict [] [] _ => true
    | .idx a b, .Subscript x y _ => plainIx y && chkE c n x a && chkE c n y b
    | .slc a lo hi, .Subscript x (.Slice l h none _) _ => chkE c n x a && chkO c n l lo && chkO c n h hi
    | .call f es ks dfl, .Call (.Name x _) xs kws _ => glob c x && (match c.glo x with
        | .fn g sh => decide (g = f) && sh.any (fun s => decide (s.1 = es.length) && kwOk kws s.2.1 && decide (ks.length = s.2.1.length) && deqs s.2.2 dfl)
        | _ => false) && decide (xs.length = es.length) && noStars xs && chkEs c n xs es && chkKs c n kws ks
    | .prim p es, .Call (.Name x _) xs [] _ => bltin c x (primName p) && (match p, xs, es with
        | .isinst t, [y, .Name z _], [a] => bltin c z (tyStr t) && !isStar y && chkE c n y a
        | .isinst _, _, _ => false
        | .range, _, _ => false
        | _, y :: ys, es => noStars (y :: ys) && chkEs c n (y :: ys) es
        | _, [], _ => false)
    | .comp elt t src d, .ListComp x [⟨tg, iter, ifs, 0⟩] scope _ => blkC c.N c.sc scope (own c t.slots) && !isSet iter && chkI c n iter src && chkTg (blk c scope) tg t && chkE (blk c scope) n x elt &&
        (match ifs, d with
        | [], .lit (.bl true) => true
        | [y], d => chkT (blk c scope) n y d
        | _, _ => false)
    | _, _ => false
def chkO (c : CE) : Nat → Option Expr → E → Bool
  | 0, _, _ => false
  | n + 1, e, i => match e, i with
    | none, .lit .unb => true
    | some x, i => chkE c n x i
    | _, _ => false
def chkT (c : CE) : Nat → Expr → E → Bool
  | 0, _, _ => false
  | n + 1, e, i => match e, i with
    | .UnaryOp .Not e _, .not a => chkT c n e a
    | .BoolOp .And [x, y] _, .and a b => chkT c n x a && chkT c n y b
    | .BoolOp .And (x :: y :: z :: r) p, .and a b => chkT c n x a && chkT c n (.BoolOp .And (y :: z :: r) p) b
    | .BoolOp .Or [x, y] _, .or a b => chkT c n x a && chkT c n y b
    | .BoolOp .Or (x :: y :: z :: r) p, .or a b => chkT c n x a && chkT c n (.BoolOp .Or (y :: z :: r) p) b
    | .Compare x [op] [y] _, .cmp o a b => decide (cmOf o = op) && noBehind o y && chkE c n x a && chkE c n y b
    | .Compare x [op, op'] [y, z] _, .chain o o' a b d => decide (cmOf o = op) && decide (cmOf o' = op') && noBehind o y && noBehind o' z && chkE c n x a && chkE c n y b && chkE c n z d
    | .IfExp x y z _, .ite t a b => chkT c n x t && chkT c n y a && chkT c n z b
    | e, i => plainT e && chkE c n e i
def chkEs (c : CE) : Nat → List Expr → List E → Bool
  | 0, _, _ => false
  | n + 1, xs, is => match xs, is with
    | [], [] => true
    | x :: xs, i :: is => chkE c n x i && chkEs c n xs is
    | _, _ => false
def chkKs (c : CE) : Nat → List Keyword → List E → Bool
  | 0, _, _ => false
  | n + 1, xs, is => match xs, is with
    | [], [] => true
    | ⟨_, x, _⟩ :: xs, i :: is => chkE c n x i && chkKs c n xs is
    | _, _ => false
def chkI (c : CE) : Nat → Expr → E → Bool
  | 0, _, _ => false
  | n + 1, e, i => match i, e with
    | .prim .range [a], .Call (.Name x _) [y] [] _ => bltin c x "range" && !isStar y && chkE c n y a
    | .prim .range [a, b], .Call (.Name x _) [y, z] [] _ => bltin c x "range" && !isStar y && !isStar z && chkE c n y a && chkE c n z b
    | i, e => chkE c n e i
end
end Mp

set_option Elab.async false
set_option linter.all false
set_option maxRecDepth 100000
set_option maxHeartbeats 1000000
/-! MpM: what is checked keeps: expressions. -/
namespace Mp
open PySem PySem.Spec PyProof.Rows L2

structure SoundN (cs : CallS) (k n : Nat) : Prop where
  e : ∀ {X : Cx} {c : CE}, CxOk X c cs k → ∀ {x : Expr} {i : E}, chkE c n x i = true → ∀ (G : Gam) (b : Bool), PE X x (tE X.K G b (evE cs b i))
  o : ∀ {X : Cx} {c : CE}, CxOk X c cs k → ∀ {x : Option Expr} {i : E}, chkO c n x i = true → ∀ (G : Gam), PO X x (tPt X.K G (evE cs true i))
  w : ∀ {X : Cx} {c : CE}, CxOk X c cs k → ∀ {op : BoolOp} {xs : List Expr} {p : Pos} {i : E}, chkT c n (.BoolOp op xs p) i = true → ∀ (G : Gam), PW X (.BoolOp op xs p) (tTt X.K G (evE cs true i))
  t : ∀ {X : Cx} {c : CE}, CxOk X c cs k → ∀ {x : Expr} {i : E}, chkT c n x i = true → ∀ (G : Gam), PT X x (tTt X.K G (evE cs true i))
  as : ∀ {X : Cx} {c : CE}, CxOk X c cs k → ∀ {xs : List Expr} {is : List E}, chkEs c n xs is = true → noStars xs = true → ∀ (G : Gam), xs.length = is.length ∧ PA X xs (tAs X.K G (evEs cs is)) ∧ PA X xs (tAb X.K G (evEb cs is)) ∧ PA X xs (tAo X.K G (evEo cs is))
  ks : ∀ {X : Cx} {c : CE}, CxOk X c cs k → ∀ {xs : List Keyword} {is : List E}, chkKs c n xs is = true → ∀ (G : Gam), PK X xs (tAs X.K G (evEs cs is))
  i : ∀ {X : Cx} {c : CE}, CxOk X c cs k → ∀ {x : Expr} {i : E}, chkI c n x i = true → ∀ (G : Gam) (tg : Expr), PI X tg x (iG X.K G (evE cs true i)) ∧ PI X tg x (iF X.K G (evE cs false i))

section
variable {cs : CallS} {k n : Nat} {X : Cx} {c : CE} {G : Gam} {b : Bool}
theorem seen_ok (C : CxOk X c cs k) {j : Nat} {x : Str} {p : Pos} (h : seen c j x = true) : PE X (.Name x p) (tVar j) := by
  simp only [seen, Bool.and_eq_true, decide_eq_true_eq, Bool.not_eq_true'] at h
  obtain ⟨⟨⟨h1, h2⟩, h3⟩, h4⟩ := h
  refine pe_var (by rw [C.N]; exact h1) ?_ h3 h4
  rw [Vis, C.sc]
  split at h2 <;> first | exact .inl (by assumption) | exact .inr (.inl (by assumption)) | exact .inr (.inr (by assumption)) | cases h2
theorem glob_ok (C : CxOk X c cs k) {x : Str} (h : glob c x = true) : Gl X x ∧ (x == ("__debug__" : Str)) = false := by
  simp only [glob, Bool.and_eq_true, decide_eq_true_eq, Bool.not_eq_true'] at h
  refine ⟨?_, h.2⟩
  show X.env.scope.names.lookup x = _
  rw [C.sc]; exact h.1
theorem bltin_ok (C : CxOk X c cs k) {x y : Str} (h : bltin c x y = true) : x = y ∧ Gl X y ∧ X.mg y = none := by
  simp only [bltin, Bool.and_eq_true, decide_eq_true_eq] at h
  obtain ⟨⟨rfl, h2⟩, h3⟩ := h
  refine ⟨rfl, ?_, C.free x ?_⟩
  · show X.env.scope.names.lookup x = _
    rw [C.sc]; exact h2
  · cases e : c.glo x <;> rw [e] at h3 <;> first | rfl | cases h3
theorem lit_ok {kc : Const} {d : D} (h : litOk kc d = true) {j : Nat} {p : Pos} : PE X (.Constant kc j p) (tE X.K G b fun _ m => .ok d m) := by
  cases kc <;> cases d <;> first | (cases h; done) | skip
  · exact s_lit pe_non fun _ _ => .non
  · obtain rfl := of_decide_eq_true h; exact s_lit pe_bl fun _ _ => .bl _
  · obtain rfl := of_decide_eq_true h; exact s_lit pe_int fun _ _ => .int _
  · obtain rfl := of_decide_eq_true h; exact s_lit pe_str fun _ _ => .str _
theorem bin_ok (C : CxOk X c cs k) (o : BOp) : ∃ r, OpR X (binaryOp (opOf o)) r ∧ OpS X.K r (binop o) := by
  cases o
  · exact ⟨_, opr_add, ops_add⟩
  · exact ⟨_, op_sub, ops_sub⟩
  · exact ⟨_, opr_mul, ops_mul⟩
  · exact ⟨_, op_fdivA, ops_fdiv⟩
  · exact ⟨_, op_modN, ops_mod⟩
  · exact ⟨_, op_pow, ops_pow⟩
theorem room_cmp (C : CxOk X c cs k) : X.A.units + 65 < cLine := by have := C.room.un; omega
theorem cmp_ok (C : CxOk X c cs k) (o : COp) : ∃ r, OpR X (compareOp (cmOf o)) r ∧ OpS X.K r (cmpop o) := by
  have hu := room_cmp C
  have hu2 : X.A.units + 64 < cLine := by omega
  cases o
  · exact ⟨_, op_eqD hu2, ops_eq⟩
  · exact ⟨_, op_neD hu2, ops_ne⟩
  · exact ⟨_, op_lt, ops_lt⟩
  · exact ⟨_, op_le, ops_le⟩
  · exact ⟨_, op_gt, ops_gt⟩
  · exact ⟨_, op_ge, ops_ge⟩
  · exact ⟨_, opr_is, ops_is⟩
  · exact ⟨_, opr_isnot, ops_isnot⟩
  · exact ⟨_, opr_in hu, ops_in⟩
  · exact ⟨_, opr_notin hu, ops_notin⟩
theorem marks_ok {o o' : COp} {y z : Expr} (h1 : noBehind o y = true) (h2 : noBehind o' z = true) : lastMarks [cmOf o, cmOf o'] [y, z] = false := by
  show behindInMarks (cmOf o') z = false
  exact noBehind_ok h2
theorem nameTo_ok (C : CxOk X c cs k) {i : Nat} {x : Str} (h : nameTo c i x = true) : NameTo X i x := by
  simp only [nameTo, Bool.and_eq_true, Bool.or_eq_true, decide_eq_true_eq] at h
  obtain ⟨h1, h2⟩ := h
  refine ⟨by rw [C.N]; exact h1, ?_, ?_⟩
  · rw [L2.Loc, C.sc]
    exact h2.imp id (·.2)
  · rcases h2 with h2 | ⟨ht, h2⟩
    · right; rw [C.sc]; exact h2
    · exact .inl (C.fn ht x)
theorem chkNs_ok (C : CxOk X c cs k) : ∀ {es : List Expr} {is : List Nat}, chkNs c es is = true → Paired (fun e i => ∃ x p, e = Expr.Name x p ∧ NameTo X i x) es is
  | [], [], _ => .nil
  | .Name x p :: es, i :: is, h => by
    simp only [chkNs, Bool.and_eq_true] at h
    exact .cons ⟨x, p, rfl, nameTo_ok C h.1⟩ (chkNs_ok C h.2)
  | [], _ :: _, h => by simp [chkNs] at h
  | e :: es, [], h => by cases e <;> simp [chkNs] at h
  | e :: es, i :: is, h => by
    cases e <;> first
      | (simp only [chkNs, Bool.and_eq_true] at h
         exact .cons ⟨_, _, rfl, nameTo_ok C h.1⟩ (chkNs_ok C h.2))
      | simp [chkNs] at h
theorem chkTg_ok (C : CxOk X c cs k) {tg : Expr} {t : Tg} (h : chkTg c tg t = true) : PG X tg (tgR X.K t) := by
  have hN : X.N.Nodup := by rw [C.N]; exact C.nd
  unfold chkTg at h
  split at h
  · exact pg_nm hN (nameTo_ok C h)
  · exact pg_tp C.calm hN (chkNs_ok C h)
  · cases h
theorem boots (p : Prim) : (isRange p = true ∨ isIsinst p = true) ∨ (bootBuiltins (primName p) = some (.builtin (match p with | .len => "len" | .abs => "abs" | .all => "all" | _ => "any")) ∧ (p = .len ∨ p = .abs ∨ p = .all ∨ p = .any)) ∨
    (bootBuiltins (primName p) = some (.type (match p with | .toInt => "int" | .toList => "list" | _ => "tuple")) ∧ (p = .toInt ∨ p = .toList ∨ p = .toTuple)) := by
  cases p
  · exact .inr (.inl ⟨by decide +kernel, .inl rfl⟩)
  · exact .inr (.inl ⟨by decide +kernel, .inr (.inl rfl)⟩)
  · exact .inr (.inr ⟨by decide +kernel, .inl rfl⟩)
  · exact .inr (.inr ⟨by decide +kernel, .inr (.inl rfl)⟩)
  · exact .inr (.inr ⟨by decide +kernel, .inr (.inr rfl)⟩)
  · exact .inr (.inl ⟨by decide +kernel, .inr (.inr (.inl rfl))⟩)
  · exact .inr (.inl ⟨by decide +kernel, .inr (.inr (.inr rfl))⟩)
  · exact .inl (.inr rfl)
  · exact .inl (.inl rfl)
/-- a call of a built-in that is no range, no isinstance -/
theorem prim_ok (C : CxOk X c cs k) {p : Prim} (h1 : isRange p = false) (h2 : isIsinst p = false) {y : Expr} {ys : List Expr} {es : List E} {q pos : Pos} (hg : Gl X (primName p)) (hm : X.mg (primName p) = none) (hn : noStars (y :: ys) = true)
    (ha : PA X (y :: ys) (tAb X.K G (evEb cs es))) : PE X (.Call (.Name (primName p) q) (y :: ys) [] pos) (tE X.K G b (evE cs b (.prim p es))) := by
  have d1 : primName p ≠ "__name__" := by cases p <;> first | (cases h2; done) | decide +kernel
  have d2 : (primName p == ("__debug__" : Str)) = false := by cases p <;> first | (cases h2; done) | decide +kernel
  cases p
  · exact s_blt (id := "len") callr_len hg hm (by decide +kernel) ha cs_len hn d1 d2
  · exact s_blt (id := "abs") call_abs hg hm (by decide +kernel) ha cs_abs hn d1 d2
  · exact s_bty (id := "int") call_int1 hg hm (by decide +kernel) ha cs_toInt hn d1 d2
  · exact s_bty (id := "list") call_list_of hg hm (by decide +kernel) ha cs_toList hn d1 d2
  · exact s_bty (id := "tuple") call_tuple_of hg hm (by decide +kernel) ha cs_toTuple hn d1 d2
  · exact s_blt (id := "all") (cr_all C.calm) hg hm (by decide +kernel) ha cs_all hn d1 d2
  · exact s_blt (id := "any") (cr_any C.calm) hg hm (by decide +kernel) ha cs_any hn d1 d2
  · cases h2
  · cases h1
/-- a type's name as a value -/
theorem ty_ok {t : Ty} {p : Pos} (hg : Gl X (tyStr t)) (hm : X.mg (tyStr t) = none) : PE X (.Name (tyStr t) p) (tC (.ty (tyName t))) := by
  cases t
  · exact pe_bltn hg hm (u := .type "int") (by decide +kernel) rfl (by decide +kernel) (by decide +kernel)
  · exact pe_bltn hg hm (u := .type "bool") (by decide +kernel) rfl (by decide +kernel) (by decide +kernel)
  · exact pe_bltn hg hm (u := .type "str") (by decide +kernel) rfl (by decide +kernel) (by decide +kernel)
  · exact pe_bltn hg hm (u := .type "tuple") (by decide +kernel) rfl (by decide +kernel) (by decide +kernel)
  · exact pe_bltn hg hm (u := .type "list") (by decide +kernel) rfl (by decide +kernel) (by decide +kernel)
theorem t_chain {o o' : COp} {ea eb ec : Expr} {ga gb gc : EvL} {e : Expr} {r r' : R2} (ha : PE X ea (tE X.K G true ga)) (hb : PE X eb (tE X.K G true gb)) (hc : PE X ec (tE X.K G true gc))
    (h : ∀ {ta tb tc : TE}, PE X ea ta → PE X eb tb → PE X ec tc → PT X e (tTest (tChain r r' ta tb tc))) (ho : OpS X.K r (cmpop o)) (ho' : OpS X.K r' (cmpop o')) :
    PT X e (tTt X.K G fun l m => (ga l m).bind fun v m1 => (gb l m1).bind fun w m2 => (opt (cmpop o v w) m2).bind fun r m3 => match r with
    | .bl true => (gc l m3).bind fun u m4 => opt (cmpop o' w u) m4
    | .bl false => .ok (.bl false) m3
    | _ => .bad) := imp_t (h ha hb hc) fun st H Q q => by
  obtain ⟨F, io, l, m, S, d, m', cc, e1, et, q⟩ := q
  obtain ⟨x, m1, e2, e1⟩ := bind_ok e1
  obtain ⟨y, m2, e3, e1⟩ := bind_ok e1
  obtain ⟨z, m3, e4, e1⟩ := bind_ok e1
  obtain ⟨e40, rfl⟩ := opt_ok e4
  obtain ⟨c, rfl⟩ := cmp_bool x y z e40
  refine ⟨F, io, l, m, S, x, m1, e2, fun v F1 io1 H1 G1 S1 R1 => ?_⟩
  refine ⟨F1, io1, l, m1, S.grow G1 S1, y, m3, e3, fun w F2 io2 H2 G2 S2 R2 => ?_⟩
  refine ho x y _ e40 F2 io2 m3 H2 v w S2 (R1.lk.mono G2) R2.lk _ fun u F3 io3 H3 G3 S3 R3 => ?_
  cases R3
  refine ⟨c, rfl, ?_⟩
  have G13 := (G1.trans G2).trans G3
  cases c with
  | false => cases e1; cases et; exact iteF ⟨false, rfl, q F3 io3 H3 G13 S3⟩
  | true =>
    obtain ⟨z2, m4, e5, e1⟩ := bind_ok e1
    obtain ⟨e6, rfl⟩ := opt_ok e1
    refine iteT ⟨F3, io3, l, m3, S.grow G13 S3, z2, m', e5, fun u2 F4 io4 H4 G4 S4 R4 => ?_⟩
    refine ho' y z2 d e6 F4 io4 m' H4 w u2 S4 (R2.lk.mono (G3.trans G4)) R4.lk _ fun u3 F5 io5 H5 G5 S5 R5 => ?_
    obtain ⟨c2, rfl⟩ := cmp_bool y z2 d e6
    cases R5
    cases et
    exact ⟨_, rfl, q F5 io5 H5 ((G13.trans G4).trans G5) S5⟩
theorem pt_ifExp {a x y : Expr} {pos : Pos} {ta tx ty : TT} (ha : PT X a ta) (hx : PT X x tx) (hy : PT X y ty) : PT X (.IfExp a x y pos) (fun st H Q => ta st H fun k H1 => if k = true then tx st H1 Q else ty st H1 Q) := by
  refine ⟨fun pins s σ H Q I h => ?_⟩
  refine isTrue_IfExp (thn (ha.run pins s σ H _ I h) fun k s1 ⟨H1, I1, q1⟩ => ?_)
  cases k with
  | true => exact iteT (hx.run pins s1 σ H1 Q I1 q1)
  | false => exact iteF (hy.run pins s1 σ H1 Q I1 q1)
theorem t_ite {c x y : Expr} {pos : Pos} {gc gx gy : EvL} (hc : PT X c (tTt X.K G gc)) (hx : PT X x (tTt X.K G gx)) (hy : PT X y (tTt X.K G gy)) :
    PT X (.IfExp c x y pos) (tTt X.K G fun l m => (gc l m).bind fun v m1 => match truth v with | some true => gx l m1 | some false => gy l m1 | none => .bad) := imp_t (pt_ifExp hc hx hy) fun st H Q q => by
  obtain ⟨F, io, l, m, S, d, m', kk, e, et, q⟩ := q
  obtain ⟨u, m1, e1, e⟩ := bind_ok e
  cases ht : truth u with
  | none => rw [ht] at e; cases e
  | some k =>
    rw [ht] at e
    refine ⟨F, io, l, m, S, u, m1, k, e1, ht, fun F1 io1 H1 G1 S1 => ?_⟩
    cases k with
    | true => exact iteT ⟨F1, io1, l, m1, S.grow G1 S1, d, m', kk, e, et, fun F2 io2 H2 G2 S2 => q F2 io2 H2 (G1.trans G2) S2⟩
    | false => exact iteF ⟨F1, io1, l, m1, S.grow G1 S1, d, m', kk, e, et, fun F2 io2 H2 G2 S2 => q F2 io2 H2 (G1.trans G2) S2⟩
end
end Mp

set_option Elab.async false
set_option linter.all false
set_option maxRecDepth 100000
set_option maxHeartbeats 1000000
/-! MpN: what is checked keeps: the step of the proof. -/
namespace Mp
open PySem PySem.Spec PyProof.Rows L2

section
variable {cs : CallS} {k n : Nat} {X : Cx} {c : CE}
theorem step_o (S : SoundN cs k n) (C : CxOk X c cs k) {x : Option Expr} {i : E} (h : chkO c (n + 1) x i = true) (G : Gam) : PO X x (tPt X.K G (evE cs true i)) := by
  unfold chkO at h
  split at h
  · exact o_none (cs := cs)
  · exact o_some (S.e C h G true)
  · cases h
theorem step_w (S : SoundN cs k n) (C : CxOk X c cs k) {op : BoolOp} {xs : List Expr} {p : Pos} {i : E} (h : chkT c (n + 1) (.BoolOp op xs p) i = true) (G : Gam) : PW X (.BoolOp op xs p) (tTt X.K G (evE cs true i)) := by
  unfold chkT at h
  split at h
  case h_2 h1 =>
    cases h1
    rw [Bool.and_eq_true] at h
    exact w_and (S.t C h.1 G) (pw_and1 (S.t C h.2 G))
  case h_3 h1 =>
    cases h1
    rw [Bool.and_eq_true] at h
    exact w_and (S.t C h.1 G) (S.w C h.2 G)
  case h_4 h1 =>
    cases h1
    rw [Bool.and_eq_true] at h
    exact w_or (S.t C h.1 G) (pw_or1 (S.t C h.2 G))
  case h_5 h1 =>
    cases h1
    rw [Bool.and_eq_true] at h
    exact w_or (S.t C h.1 G) (S.w C h.2 G)
  all_goals first
    | (rename_i h1; cases h1; done)
    | (rw [Bool.and_eq_true] at h; cases h.1)
theorem step_t (S : SoundN cs k n) (C : CxOk X c cs k) {x : Expr} {i : E} (h : chkT c (n + 1) x i = true) (G : Gam) : PT X x (tTt X.K G (evE cs true i)) := by
  by_cases hb : ∃ op xs p, x = .BoolOp op xs p
  · obtain ⟨op, xs, p, rfl⟩ := hb
    exact (step_w S C h G).pt
  unfold chkT at h
  split at h
  case h_1 => exact t_not (S.t C h G)
  case h_2 => exact absurd ⟨_, _, _, rfl⟩ hb
  case h_3 => exact absurd ⟨_, _, _, rfl⟩ hb
  case h_4 => exact absurd ⟨_, _, _, rfl⟩ hb
  case h_5 => exact absurd ⟨_, _, _, rfl⟩ hb
  case h_6 =>
    rename_i o a b
    simp only [Bool.and_eq_true, decide_eq_true_eq] at h
    obtain ⟨⟨⟨rfl, h2⟩, h3⟩, h4⟩ := h
    obtain ⟨r, ho, hs⟩ := cmp_ok C o
    exact t_cmp (S.e C h3 G true) (S.e C h4 G true) (fun ha hb => pt_cmpR ho ha hb (noBehind_ok h2)) hs (cmp_bool (o := o))
  case h_7 =>
    rename_i o o' a b d
    simp only [Bool.and_eq_true, decide_eq_true_eq] at h
    obtain ⟨⟨⟨⟨⟨⟨rfl, rfl⟩, h2⟩, h3⟩, h4⟩, h5⟩, h6⟩ := h
    obtain ⟨r, ho, hs⟩ := cmp_ok C o
    obtain ⟨r', ho', hs'⟩ := cmp_ok C o'
    exact t_chain (S.e C h4 G true) (S.e C h5 G true) (S.e C h6 G true) (fun ha hb hc => pt_chain ho ho' ha hb hc (marks_ok h2 h3)) hs hs'
  case h_8 =>
    simp only [Bool.and_eq_true] at h
    exact t_ite (S.t C h.1.1 G) (S.t C h.1.2 G) (S.t C h.2 G)
  case h_9 =>
    rw [Bool.and_eq_true] at h
    exact t_plain (S.e C h.2 G true) (plainT_ok h.1)
theorem step_as (S : SoundN cs k n) (C : CxOk X c cs k) {xs : List Expr} {is : List E} (h : chkEs c (n + 1) xs is = true) (hn : noStars xs = true) (G : Gam) :
    xs.length = is.length ∧ PA X xs (tAs X.K G (evEs cs is)) ∧ PA X xs (tAb X.K G (evEb cs is)) ∧ PA X xs (tAo X.K G (evEo cs is)) := by
  unfold chkEs at h
  split at h
  · exact ⟨rfl, a_nil, b_nil, o_nil⟩
  · rw [Bool.and_eq_true] at h
    simp only [noStars, Bool.and_eq_true, Bool.not_eq_true'] at hn
    obtain ⟨l, h1, h2, h3⟩ := S.as C h.2 hn.2 G
    exact ⟨congrArg (· + 1) l, a_cons (S.e C h.1 G false) h1 hn.1, b_cons (S.e C h.1 G true) h2 hn.1, o_cons (S.e C h.1 G false) h3 hn.1⟩
  · cases h
theorem step_ks (S : SoundN cs k n) (C : CxOk X c cs k) {xs : List Keyword} {is : List E} (h : chkKs c (n + 1) xs is = true) (G : Gam) : PK X xs (tAs X.K G (evEs cs is)) := by
  unfold chkKs at h
  split at h
  · exact k_nil
  · rw [Bool.and_eq_true] at h
    exact k_cons (S.e C h.1 G false) (S.ks C h.2 G)
  · cases h
theorem rng_itr {xs : List D} {d : D} (e : prim .range xs = some d) : ∃ ys, d = .itr ys := by
  unfold prim at e
  split at e <;> first
    | (rename_i h; cases h; done)
    | (obtain ⟨_, rfl⟩ := ite_some e; exact ⟨_, rfl⟩)
    | (rename_i h _; cases h; done)
    | cases e
theorem evEb_len {l : Loc} : ∀ {es : List E} {m m' : Mem} {xs : List D}, evEb cs es l m = .ok xs m' → xs.length = es.length
  | [], _, _, _, h => by cases h; rfl
  | e :: es, m, m', xs, h => by
    obtain ⟨x, m1, e1, h⟩ := bind_ok (show (evE cs true e l m).bind _ = _ from h)
    obtain ⟨ys, m2, e2, h⟩ := bind_ok h
    cases h
    exact congrArg (· + 1) (evEb_len e2)
theorem step_i (S : SoundN cs k n) (C : CxOk X c cs k) {x : Expr} {i : E} (h : chkI c (n + 1) x i = true) (G : Gam) (tg : Expr) : PI X tg x (iG X.K G (evE cs true i)) ∧ PI X tg x (iF X.K G (evE cs false i)) := by
  unfold chkI at h
  split at h
  · simp only [Bool.and_eq_true, Bool.not_eq_true'] at h
    obtain ⟨⟨hx, h2⟩, h3⟩ := h
    obtain ⟨rfl, hg, hm⟩ := bltin_ok C hx
    refine (fun hr => ⟨i_of hr, f_of hr fun l m d m' e => ?_⟩) (i_rng1 (tg := tg) (G := G) (gs := evEb cs [_]) hg hm (b_cons (S.e C h3 G true) (b_nil (cs := cs)) h2) h2 (fun l m ys m1 e => evEb_len (cs := cs) e))
    obtain ⟨ys, m1, e1, e2⟩ := bind_ok e
    exact rng_itr (opt_ok e2).1
  · simp only [Bool.and_eq_true, Bool.not_eq_true'] at h
    obtain ⟨⟨⟨⟨hx, h2⟩, h3⟩, h4⟩, h5⟩ := h
    obtain ⟨rfl, hg, hm⟩ := bltin_ok C hx
    refine (fun hr => ⟨i_of hr, f_of hr fun l m d m' e => ?_⟩) (i_rng2 (tg := tg) (G := G) (gs := evEb cs [_, _]) hg hm (b_cons (S.e C h4 G true) (b_cons (S.e C h5 G true) (b_nil (cs := cs)) h3) h2) h2 h3 (fun l m ys m1 e => evEb_len (cs := cs) e))
    obtain ⟨ys, m1, e1, e2⟩ := bind_ok e
    exact rng_itr (opt_ok e2).1
  · exact ⟨i_seq (S.e C h G true), f_seq (S.e C h G false)⟩
theorem step_e (S : SoundN cs k n) (C : CxOk X c cs k) {x : Expr} {i : E} (h : chkE c (n + 1) x i = true) (G : Gam) (b : Bool) : PE X x (tE X.K G b (evE cs b i)) := by
  unfold chkE at h
  split at h
  case h_1 => exact lit_ok h
  case h_2 =>
    rename_i d y p
    rw [Bool.and_eq_true] at h
    obtain ⟨h1, h2⟩ := h
    obtain ⟨hg, hd⟩ := glob_ok C h1
    cases e : c.glo y <;> rw [e] at h2 <;> first | (cases h2; done) | skip
    obtain rfl := deq_ok h2
    obtain ⟨u, v, hm, rv, rr⟩ := C.val _ _ e
    exact s_lit (pe_glob hg hm rv hd) rr
  case h_3 => exact s_var (seen_ok C h)
  case h_4 => exact s_bor (seen_ok C h)
  case h_5 => exact s_neg (S.e C h G true)
  case h_6 => exact s_not (S.e C h G true)
  case h_7 =>
    rw [Bool.and_eq_true] at h
    exact s_and (S.e C h.1 G b) (pe_one (S.e C h.2 G b))
  case h_8 =>
    rw [Bool.and_eq_true] at h
    exact s_and (S.e C h.1 G b) (S.e C h.2 G b)
  case h_9 =>
    rw [Bool.and_eq_true] at h
    exact s_or (S.e C h.1 G b) (pe_one (S.e C h.2 G b))
  case h_10 =>
    rw [Bool.and_eq_true] at h
    exact s_or (S.e C h.1 G b) (S.e C h.2 G b)
  case h_11 =>
    simp only [Bool.and_eq_true] at h
    exact s_ite (S.t C h.1.1 G) (S.e C h.1.2 G b) (S.e C h.2 G b)
  case h_12 =>
    rename_i o a' b' x' op y' p
    simp only [Bool.and_eq_true, decide_eq_true_eq] at h
    obtain ⟨⟨rfl, h3⟩, h4⟩ := h
    obtain ⟨r, ho, hs⟩ := bin_ok C o
    exact s_two (S.e C h3 G true) (S.e C h4 G true) (fun ha hb => pe_op ho ha hb) hs
  case h_13 =>
    rename_i o a' b' x' op y' p
    simp only [Bool.and_eq_true, decide_eq_true_eq] at h
    obtain ⟨⟨⟨rfl, h2⟩, h3⟩, h4⟩ := h
    obtain ⟨r, ho, hs⟩ := cmp_ok C o
    exact s_two (S.e C h3 G true) (S.e C h4 G true) (fun ha hb => pe_cmpR ho ha hb (noBehind_ok h2)) hs
  case h_14 =>
    rename_i o o' a b d x' op op' y' z' p
    simp only [Bool.and_eq_true, decide_eq_true_eq] at h
    obtain ⟨⟨⟨⟨⟨⟨rfl, rfl⟩, h2⟩, h3⟩, h4⟩, h5⟩, h6⟩ := h
    obtain ⟨r, ho, hs⟩ := cmp_ok C o
    obtain ⟨r', ho', hs'⟩ := cmp_ok C o'
    exact s_chain (S.e C h4 G true) (S.e C h5 G true) (S.e C h6 G true) (fun ha hb hc => pe_chain ho ho' ha hb hc (marks_ok h2 h3)) hs hs'
  case h_15 =>
    rw [Bool.and_eq_true] at h
    exact s_tup (S.as C h.2 h.1 G).2.1
  case h_16 =>
    rw [Bool.and_eq_true] at h
    exact s_lst (S.as C h.2 h.1 G).2.1
  case h_17 => exact s_dnew
  case h_18 =>
    simp only [Bool.and_eq_true] at h
    exact s_idx (S.e C h.1.2 G true) (S.e C h.2 G true) (plainIx_ok h.1.1)
  case h_19 =>
    simp only [Bool.and_eq_true] at h
    exact s_slc (S.e C h.1.1 G true) (S.o C h.1.2 G) (S.o C h.2 G)
  case h_20 =>
    rename_i f es ks dfl y q1 xs kws q2
    simp only [Bool.and_eq_true, decide_eq_true_eq] at h
    obtain ⟨⟨⟨⟨⟨h1, h2⟩, h3⟩, h4⟩, h5⟩, h6⟩ := h
    obtain ⟨hg, hd⟩ := glob_ok C h1
    cases e : c.glo y <;> rw [e] at h2 <;> first | (cases h2; done) | skip
    rename_i g sh
    simp only [Bool.and_eq_true, decide_eq_true_eq, List.any_eq_true] at h2
    obtain ⟨rfl, ⟨n0, kn, df⟩, hs, ⟨⟨h7, h8⟩, h9⟩, h10⟩ := h2
    obtain rfl := deqs_ok h10
    have h7 : n0 = es.length := h7
    subst h7
    exact s_call (C.call y g sh e _ _ _ hs) C.room hg (S.as C h5 h4 G).2.1 (S.ks C h6 G) h3 h9 h4 h8 hd
  case h_21 =>
    rename_i p es y q1 xs q2
    rw [Bool.and_eq_true] at h
    obtain ⟨h1, h2⟩ := h
    obtain ⟨rfl, hg, hm⟩ := bltin_ok C h1
    split at h2
    · simp only [Bool.and_eq_true, Bool.not_eq_true'] at h2
      obtain ⟨⟨h3, h4⟩, h5⟩ := h2
      obtain ⟨rfl, hg2, hm2⟩ := bltin_ok C h3
      exact s_isi hg hm (by show bootBuiltins "isinstance" = _; decide +kernel) (S.e C h5 G true) h4 (by show ("isinstance" : Str) ≠ _; decide +kernel) (by show (("isinstance" : Str) == _) = false; decide +kernel) (ty_ok hg2 hm2)
    · cases h2
    · cases h2
    · rename_i h7 h8 h9
      rw [Bool.and_eq_true] at h2
      refine prim_ok C ?_ ?_ hg hm h2.1 (S.as C h2.2 h2.1 G).2.2.1
      · cases p <;> first | rfl | exact (h8 rfl).elim
      · cases p <;> first | rfl | exact (h7 _ rfl).elim
    · cases h2
  case h_22 =>
    rename_i elt t src d x' tg iter ifs scope p
    simp only [Bool.and_eq_true, Bool.not_eq_true'] at h
    obtain ⟨⟨⟨⟨⟨h1, h2⟩, h3⟩, h4⟩, h5⟩, h6⟩ := h
    have bo := blkOk_by h1
    have hk := bo.kind
    have hC := fun s H C0 cl fp => C.blk (scope := scope) hk s H C0 cl fp
    have hN : X.N.Nodup := by rw [C.N]; exact C.nd
    have ifs_ok : ∃ tt, (∀ s H C0 cl fp, PTs (X.blk s H scope (compEnvC scope cl C0 X.env) fp) ifs tt) ∧ ∀ st H Q, tTt X.K G (evE cs true d) st H Q → tt st H Q := by
      split at h6
      · refine ⟨tYes, fun s H C0 cl fp => pts_nil, fun st H Q q => ?_⟩
        obtain ⟨F, io, l, m, S, d', m', c', e, et, q⟩ := q
        cases e
        cases et
        exact q F io H (.refl _ _ _) S.sm
      · exact ⟨_, fun s H C0 cl fp => pts_one (S.t (hC s H C0 cl fp) h6 G), fun _ _ _ q => q⟩
      · cases h6
    obtain ⟨tt, p1, p2⟩ := ifs_ok
    refine imp_e (pe_lc (wi := iG X.K G (evE cs true src)) (g := tgR X.K t) (tt := tt) (te := tE X.K G false (evE cs false elt)) (own := own c t.slots) C.calm hN (S.i C h3 G tg).1 ?_ (fun s H C0 cl fp => chkTg_ok (hC s H C0 cl fp) h4) p1 (fun s H C0 cl fp => S.e (hC s H C0 cl fp) h5 G false) (notSet_ok h2)) ?_
    · rw [C.N, C.sc]; exact bo
    · rw [own_snd]
      exact lc_ok (fun _ _ _ q => q) p2 (fun _ _ _ q => q) rfl
  case h_23 => cases h
theorem sound (cs : CallS) (k : Nat) : ∀ n, SoundN cs k n
  | 0 => ⟨fun _ _ _ h => by simp [chkE] at h, fun _ _ _ h => by simp [chkO] at h, fun _ _ _ _ _ h => by simp [chkT] at h, fun _ _ _ h => by simp [chkT] at h, fun _ _ _ h => by simp [chkEs] at h, fun _ _ _ h => by simp [chkKs] at h, fun _ _ _ h => by simp [chkI] at h⟩
  | n + 1 =>
    have S := sound cs k n
    ⟨fun C _ _ h G b => step_e S C h G b, fun C _ _ h G => step_o S C h G, fun C _ _ _ _ h G => step_w S C h G, fun C _ _ h G => step_t S C h G, fun C _ _ h hn G => step_as S C h hn G, fun C _ _ h G => step_ks S C h G, fun C _ _ h G tg => step_i S C h G tg⟩
end
end Mp

set_option Elab.async false
set_option linter.all false
set_option maxRecDepth 100000
set_option maxHeartbeats 1000000
/-! MpO: what is checked keeps: statements. -/
namespace Mp
open PySem PySem.Spec PyProof.Rows L2

/-- how a pair's stores go: none where the text cannot say -/
def swapS (ts vs : List Expr) (sc : Scope) : Option (Option (List Str)) :=
  if (!(ts.length == 2 || ts.length == 3) || vs.length != ts.length) = true then some none
  else if (vs.any fun | .Starred .. => true | _ => false) = true then some none
  else
    let names := ts.filterMap fun
      | .Name id pos => if (sc.names.lookup id == some .local && pos.line == (ts.head?.map (·.pos.line)).getD 0) = true then some id else none
      | _ => none
    if (names.length != ts.length || names.eraseDups.length != names.length) = true then some none
    else if vs.all (foldedForSure 8) = true then some none
    else if vs.all (constantsAlone 8) = true then none
    else some (some names)
theorem swap_tup {ts vs : List Expr} {kt k2 : Nat} {pt p2 : Pos} {env : Env} (hk : env.scope.kind = .function) {r : Option (List Str)} (h : swapS ts vs env.scope = some r) : swappedStores [.Tuple ts kt pt] (.Tuple vs k2 p2) env = pure r := by
  have hb : env.blockKind = .function := by unfold Env.blockKind; rw [hk]; rfl
  have hb2 : (env.blockKind != .function) = false := by rw [hb]; rfl
  unfold swappedStores
  unfold swapS at h
  simp only [hb2, Bool.or_false]
  by_cases h1 : (!(ts.length == 2 || ts.length == 3) || vs.length != ts.length) = true
  · rw [if_pos h1] at h
    rw [if_pos h1]
    cases h; rfl
  rw [if_neg h1] at h
  rw [if_neg h1]
  by_cases h2 : (vs.any fun | .Starred .. => true | _ => false) = true
  · rw [if_pos h2] at h
    cases h
    exact if_pos h2
  rw [if_neg h2] at h
  refine (if_neg h2).trans ?_
  dsimp only at h
  generalize hn : (ts.filterMap fun
      | .Name id pos => if (env.scope.names.lookup id == some .local && pos.line == (ts.head?.map (·.pos.line)).getD 0) = true then some id else none
      | _ => none) = names at h
  subst hn
  split at h
  · rename_i h3
    cases h
    exact if_pos h3
  · rename_i h3
    refine (if_neg h3).trans ?_
    split at h
    · rename_i h4
      cases h
      exact if_pos h4
    · rename_i h4
      refine (if_neg h4).trans ?_
      split at h
      · cases h
      · rename_i h5
        cases h
        exact if_neg h5
def swapNo (ts : List Expr) (v : Expr) (sc : Scope) : Bool := match v with
  | .Tuple vs _ _ => decide (swapS ts vs sc = some none)
  | _ => true
theorem swapNo_ok {ts : List Expr} {v : Expr} {kt : Nat} {pt : Pos} {env : Env} (hk : env.scope.kind = .function) (h : swapNo ts v env.scope = true) : swappedStores [.Tuple ts kt pt] v env = pure none := by
  cases v <;> first | rfl | exact swap_tup hk (of_decide_eq_true h)
theorem sw_no {v : Expr} {t : Option Expr} {l : Nat} {env : Env} (h : isComp v = false) : swapsWith v t l env = pure false := by
  cases v <;> first | rfl | cases h
def isName : Expr → Bool
  | .Name .. => true
  | _ => false
theorem sw_to {v t : Expr} {l : Nat} {env : Env} (h : isName t = false) : swapsWith v (some t) l env = pure false := by
  cases v <;> first | rfl | (cases t <;> first | rfl | cases h)
theorem sw_sole {v t : Expr} {l : Nat} {env : Env} (h : isName t = false) : swapsWithSole [t] v l env = pure false := sw_to (v := v) (t := t) (l := l) (env := env) h
theorem sw_sole_no {v t : Expr} {l : Nat} {env : Env} (h : isComp v = false) : swapsWithSole [t] v l env = pure false := sw_no (v := v) (t := some t) (l := l) (env := env) h
theorem sw_sub {o i v : Expr} {p : Pos} {env : Env} : swappedStores [.Subscript o i p] v env = pure none := by
  cases v <;> rfl
def parNames (c : CE) : List Expr → List Nat → Bool
  | [], [] => true
  | .Name x _ :: ts, i :: is => decide (c.N[i]? = some x) && decide (c.sc.names.lookup x = some .local) && parNames c ts is
  | _, _ => false
def namesOf : List Expr → List Str
  | .Name x _ :: ts => x :: namesOf ts
  | _ => []
def parOk (c : CE) (ts vs : List Expr) (is : List Nat) : Bool := parNames c ts is && decide is.Nodup && decide (swapS ts vs c.sc = some (some (namesOf ts))) && (match is with
  | [_, _] => true
  | [_, _, _] => true
  | _ => false)
def kindIs (c : CE) (y : Str) : Bool := decide (c.sc.names.lookup y = some .local)
/-- name = value -/
def chkA (c : CE) (n : Nat) (y : Str) (py : Pos) (v : Expr) (j : Nat) (e : E) : Bool := match e, v with
  | .comp elt t src d, .ListComp x [⟨tg, iter, ifs, 0⟩] scope p => decide (c.N[j]? = some y) && kindIs c y && (py.line == p.line) && !(scope.names.any fun (n, k) => n == y && (k == .local || k == .cell)) && chkE c n v e
  | _, v => !isComp v && nameTo c j y && chkE c n v e

mutual
def chkS (c : CE) : Nat → Stmt → S → Bool
  | 0, _, _ => false
  | n + 1, s, i => match i, s with
    | .pass, .Pass _ => true
    | .expr e, .Expr v _ => !isComp v && chkE c n v e
    | .set j e, .Assign [.Name y q] v _ => chkA c n y q v j e
    | .seto j e, .Assign [.Name y q] v _ => chkA c n y q v j e
    | .cell j e, .Assign [.Name y q] v _ => chkA c n y q v j e
    | .unp t e, .Assign [.Tuple ts k q] v _ => chkTg c (.Tuple ts k q) t && chkE c n v e && swapNo ts v c.sc
    | .par is es, .Assign [.Tuple ts _ _] (.Tuple vs _ _) _ => noStars vs && chkEs c n vs es && parOk c ts vs is
    | .ret e, .Return (some v) _ => chkE c n v e
    | .ret (.lit .non), .Return none _ => true
    | .reto j, .Return (some (.Name x _)) _ => seen c j x
    | .ite t a b, .If x y z _ => chkT c n x t && chkSs c n y a && chkSs c n z b
    | .loop t src body, .For tg iter b [] _ => chkI c n iter src && chkTg c tg t && chkSs c n b body && !isSet iter
    | .whil t body, .While x b [] _ => chkT c n x t && chkSs c n b body
    | .cont, .Continue _ => true
    | .brk, .Break _ => true
    | .app j e, .Expr (.Call (.Attribute (.Name x _) m ap) [v] [] cp) _ => decide (m = "append") && seen c j x && chkE c n v e && !isStar v && (ap.endLine == cp.line)
    | .ext j e, .Expr (.Call (.Attribute (.Name x _) m ap) [v] [] cp) _ => decide (m = "extend") && seen c j x && chkE c n v e && !isStar v && (ap.endLine == cp.line)
    | .pop j, .Expr (.Call (.Attribute (.Name x _) m ap) [] [] cp) _ => decide (m = "pop") && seen c j x && (ap.endLine == cp.line)
    | .popto t j, .Assign [tg] (.Call (.Attribute (.Name x _) m ap) [] [] cp) _ => decide (m = "pop") && seen c j x && (ap.endLine == cp.line) && chkTg c tg t
    | .ins j a e, .Expr (.Call (.Attribute (.Name x _) m ap) [u, v] [] cp) _ => decide (m = "insert") && seen c j x && chkE c n u a && chkE c n v e && !isStar u && !isStar v && (ap.endLine == cp.line)
    | .seti j a e, .Assign [.Subscript (.Name x _) u _] v _ => plainIx u && seen c j x && chkE c n u a && chkE c n v e
    | .setr r a e, .Assign [.Subscript o u _] v _ => plainIx u && chkE c n o r && chkE c n u a && chkE c n v e
    | .dput j a e, .Assign [.Subscript (.Name x _) u _] v _ => seen c j x && chkE c n u a && chkE c n v e
    | .aug j o e, .AugAssign (.Name x _) op v _ => nameTo c j x && chkE c n v e && (match o, op with | .add, .Add => true | .sub, .Sub => true | _, _ => false)
    | _, _ => false
def chkSs (c : CE) : Nat → List Stmt → List S → Bool
  | 0, _, _ => false
  | n + 1, ss, is => match is, ss with
    | [], [] => true
    | .frz _ :: is, ss => chkSs c n ss is
    | i :: is, s :: ss => chkS c n s i && chkSs c n ss is
    | _, _ => false
end

structure SoundS (cs : CallS) (k w n : Nat) : Prop where
  s : ∀ {X : Cx} {c : CE}, CxOk X c cs k → c.top = true → ∀ {s : Stmt} {i : S}, chkS c n s i = true → ∀ G : Gam, PS X s (tS X.K G (evS cs w i))
  ss : ∀ {X : Cx} {c : CE}, CxOk X c cs k → c.top = true → ∀ {ss : List Stmt} {is : List S}, chkSs c n ss is = true → ∀ G : Gam, PSs X ss (tS X.K G (evSs cs w is))

section
variable {cs : CallS} {k w n : Nat} {X : Cx} {c : CE}
theorem tAo_mono {K : PySem.W.Frag} {G : Gam} {g : Mp.Loc → Mem → Res (List D)} {st : L2.St} {H : Hp} {Q Q' : List V → Hp → Prop} (h : tAo K G g st H Q) (i : ∀ vs H, Q vs H → Q' vs H) : tAo K G g st H Q' := by
  obtain ⟨F, io, l, m, S, ds, m', e, q⟩ := h
  exact ⟨F, io, l, m, S, ds, m', e, fun vs F1 io1 H1 G1 S1 R1 => i _ _ (q vs F1 io1 H1 G1 S1 R1)⟩
theorem par_nil {ts : List Expr} (h : parNames c ts [] = true) : ts = [] := by
  cases ts with
  | nil => rfl
  | cons t ts => cases t <;> simp [parNames] at h
theorem par_cons {ts : List Expr} {i : Nat} {is : List Nat} (h : parNames c ts (i :: is) = true) : ∃ x p r, ts = .Name x p :: r ∧ c.N[i]? = some x ∧ c.sc.names.lookup x = some .local ∧ parNames c r is = true := by
  cases ts with
  | nil => simp [parNames] at h
  | cons t ts =>
    cases t <;> simp only [parNames, Bool.and_eq_true, decide_eq_true_eq, Bool.false_eq_true] at h
    exact ⟨_, _, _, rfl, h.1.1, h.1.2, h.2⟩
theorem par_st (C : CxOk X c cs k) {ts vs : List Expr} {is : List Nat} {es : List E} {G : Gam} {kt k2 : Nat} {q q2 pos : Pos} (ho : parOk c ts vs is = true) (hp : PA X vs (tAo X.K G (evEo cs es))) :
    PS X (.Assign [.Tuple ts kt q] (.Tuple vs k2 q2) pos) (tS X.K G (evS cs w (.par is es))) := by
  have hN : X.N.Nodup := by rw [C.N]; exact C.nd
  simp only [parOk, Bool.and_eq_true, decide_eq_true_eq] at ho
  obtain ⟨⟨⟨h1, h2⟩, h3⟩, h4⟩ := ho
  have hsw := swap_tup (kt := kt) (k2 := k2) (pt := q) (p2 := q2) (env := X.env) (by rw [C.sc]; exact C.kind) (by rw [C.sc]; exact h3)
  have hl : vs.length = ts.length := by
    unfold swapS at h3
    split at h3
    · cases h3
    · rename_i h5
      simp at h5
      exact h5.2
  split at h4
  · rename_i i j
    obtain ⟨x, px, ts, rfl, a1, a2, h1⟩ := par_cons h1
    obtain ⟨y, py, ts, rfl, b1, b2, h1⟩ := par_cons h1
    obtain rfl := par_nil h1
    match vs, hl with
    | [va, vb], _ =>
    rw [List.nodup_cons] at h2
    refine st_par (ps_par C.calm hN (by rw [C.N]; exact a1) (by rw [C.N]; exact b1) (fun z => h2.1 (by simp [z])) (by rw [C.sc]; exact a2) (by rw [C.sc]; exact b2) hp hsw rfl) (fun E st H hq => ?_) (fun _ _ _ q => q)
    refine tAo_mono hq fun us H1 hu => ?_
    obtain ⟨hu, hq⟩ := hu
    match us, hu with
    | [u1, u2], _ => exact ⟨u1, u2, rfl, hq⟩
  · rename_i i j l
    obtain ⟨x, px, ts, rfl, a1, a2, h1⟩ := par_cons h1
    obtain ⟨y, py, ts, rfl, b1, b2, h1⟩ := par_cons h1
    obtain ⟨z, pz, ts, rfl, c1, c2, h1⟩ := par_cons h1
    obtain rfl := par_nil h1
    match vs, hl with
    | [va, vb, vc], _ =>
    simp only [List.nodup_cons, List.mem_cons, List.not_mem_nil, or_false, not_or] at h2
    refine st_par (ps_par3 C.calm hN (by rw [C.N]; exact a1) (by rw [C.N]; exact b1) (by rw [C.N]; exact c1) h2.1.1 h2.1.2 h2.2.1 (by rw [C.sc]; exact a2) (by rw [C.sc]; exact b2) (by rw [C.sc]; exact c2) hp hsw rfl) (fun E st H hq => ?_) (fun _ _ _ q => q)
    refine tAo_mono hq fun us H1 hu => ?_
    obtain ⟨hu, hq⟩ := hu
    match us, hu with
    | [u1, u2, u3], _ => exact ⟨u1, u2, u3, rfl, hq⟩
  · cases h4
/-- the parts of a list comprehension -/
theorem lc_parts {S : SoundN cs k n} (C : CxOk X c cs k) {elt : E} {t : Tg} {src d : E} {x tg iter : Expr} {ifs : List Expr} {scope : Scope} {p : Pos} (h : chkE c (n + 1) (.ListComp x [⟨tg, iter, ifs, 0⟩] scope p) (.comp elt t src d) = true) (G : Gam) :
    ∃ tt, PI X tg iter (iG X.K G (evE cs true src)) ∧ BlkOk X.N X.env.scope scope (own c t.slots) ∧ (∀ s H C0 cl fp, PG (X.blk s H scope (compEnvC scope cl C0 X.env) fp) tg (tgR X.K t)) ∧ (∀ s H C0 cl fp, PTs (X.blk s H scope (compEnvC scope cl C0 X.env) fp) ifs tt) ∧
      (∀ s H C0 cl fp, PE (X.blk s H scope (compEnvC scope cl C0 X.env) fp) x (tE X.K G false (evE cs false elt))) ∧ (∀ x, foldedSetIterable iter X.env x = pure x) ∧
      ∀ b st H Q, tE X.K G b (evE cs b (.comp elt t src d)) st H Q → tLc (iG X.K G (evE cs true src)) (tgR X.K t) tt (tE X.K G false (evE cs false elt)) ((own c t.slots).map (·.2)) st H Q := by
  simp only [chkE, Bool.and_eq_true, Bool.not_eq_true'] at h
  obtain ⟨⟨⟨⟨⟨h1, h2⟩, h3⟩, h4⟩, h5⟩, h6⟩ := h
  have bo := blkOk_by h1
  have hC := fun s H C0 cl fp => C.blk (scope := scope) bo.kind s H C0 cl fp
  have ifs_ok : ∃ tt, (∀ s H C0 cl fp, PTs (X.blk s H scope (compEnvC scope cl C0 X.env) fp) ifs tt) ∧ ∀ st H Q, tTt X.K G (evE cs true d) st H Q → tt st H Q := by
    split at h6
    · refine ⟨tYes, fun s H C0 cl fp => pts_nil, fun st H Q q => ?_⟩
      obtain ⟨F, io, l, m, S, d', m', c', e, et, q⟩ := q
      cases e
      cases et
      exact q F io H (.refl _ _ _) S.sm
    · exact ⟨_, fun s H C0 cl fp => pts_one (S.t (hC s H C0 cl fp) h6 G), fun _ _ _ q => q⟩
    · cases h6
  obtain ⟨tt, p1, p2⟩ := ifs_ok
  refine ⟨tt, (S.i C h3 G tg).1, by rw [C.N, C.sc]; exact bo, fun s H C0 cl fp => chkTg_ok (hC s H C0 cl fp) h4, p1, fun s H C0 cl fp => S.e (hC s H C0 cl fp) h5 G false, notSet_ok h2, fun b st H Q q => ?_⟩
  rw [own_snd]
  exact lc_ok (fun _ _ _ q => q) p2 (fun _ _ _ q => q) rfl st H Q q
theorem asg_ok (C : CxOk X c cs k) {y : Str} {py : Pos} {v : Expr} {j : Nat} {e : E} {pos : Pos} (h : chkA c n y py v j e = true) (G : Gam) : ∃ te, PS X (.Assign [.Name y py] v pos) (tAsg te (gName j)) ∧ ∀ st H Q, tE X.K G false (evE cs false e) st H Q → te st H Q := by
  have hN : X.N.Nodup := by rw [C.N]; exact C.nd
  unfold chkA at h
  split at h
  · simp only [Bool.and_eq_true, decide_eq_true_eq, Bool.not_eq_true', kindIs] at h
    obtain ⟨⟨⟨⟨h1, h2⟩, h3⟩, h4⟩, h5⟩ := h
    cases n with
    | zero => simp [chkE] at h5
    | succ n =>
      obtain ⟨tt, p1, p2, p3, p4, p5, p6, p7⟩ := lc_parts (S := sound cs k n) C h5 G
      have hl : X.env.scope.names.lookup y = some .local := by rw [C.sc]; exact h2
      refine ⟨_, ps_setLc C.calm hN (by rw [C.N]; exact h1) hl (sw_true (by rw [C.sc]; exact C.kind) hl h3 h4) p1 p2 p3 p4 p5 p6, p7 false⟩
  · simp only [Bool.and_eq_true, Bool.not_eq_true'] at h
    obtain ⟨⟨h1, h2⟩, h3⟩ := h
    have nt := nameTo_ok C h2
    exact ⟨_, ps_set hN nt.1 nt.2.1 ((sound cs k n).e C h3 G false) (sw_no h1) nt.2.2, fun _ _ _ q => q⟩
theorem sub_assign {o i : Expr} {p : Pos} {env : Env} (h : plainIx i = true) : ∀ v, assign (.Subscript o i p) env v = (do
      let ov ← holding [v] (eval o env)
      let iv ← holding [v, ov] (eval i env)
      standAt p
      holding [v, ov, iv] (setItem ov iv v)
      release [v, ov, iv] []) := by
  intro v
  cases i <;> first | rfl | cases h
theorem put_col {t : Tg} {d : D} {l l' : Mp.Loc} {ts : List Expr} {kk : Nat} {q : Pos} (h : chkTg c (.Tuple ts kk q) t = true) (hp : t.put d l = some l') : isCol d = false := by
  cases t with
  | nm i => simp [chkTg] at h
  | tp is => cases d <;> first | rfl | cases hp
theorem tg_asg {tg : Expr} {t : Tg} (h : chkTg c tg t = true) {env : Env} : (assignEach [tg] env).map (·.2) = [assign tg env] := by
  cases tg <;> first | rfl | simp [chkTg] at h
theorem sw_call {tg f : Expr} {es : List Expr} {ks : List Keyword} {p : Pos} {env : Env} : swappedStores [tg] (.Call f es ks p) env = pure none := by
  cases tg <;> rfl
theorem pe_pop_base {x m : Str} {p : Pos} {env : Env} : attributeBase (.Name x p) m env (eval (.Name x p) env) = eval (.Name x p) env := rfl
theorem step_s (SS : SoundS cs k w n) (C : CxOk X c cs k) (ht : c.top = true) {s : Stmt} {i : S} (h : chkS c (n + 1) s i = true) (G : Gam) : PS X s (tS X.K G (evS cs w i)) := by
  have S := sound cs k n
  have hN : X.N.Nodup := by rw [C.N]; exact C.nd
  unfold chkS at h
  split at h
  case h_1 => exact st_pass
  case h_2 =>
    rw [Bool.and_eq_true, Bool.not_eq_true'] at h
    exact st_expr (S.e C h.2 G true) (sw_no h.1)
  case h_3 =>
    obtain ⟨te, h1, h2⟩ := asg_ok C h G
    exact st_set h1 h2
  case h_4 =>
    obtain ⟨te, h1, h2⟩ := asg_ok C h G
    exact st_seto h1 h2
  case h_5 =>
    obtain ⟨te, h1, h2⟩ := asg_ok C h G
    exact st_cell h1 h2
  case h_6 =>
    simp only [Bool.and_eq_true] at h
    obtain ⟨⟨h1, h2⟩, h3⟩ := h
    exact st_unp (ps_asg (S.e C h2 G true) (chkTg_ok C h1) (sw_sole rfl) (swapNo_ok (by rw [C.sc]; exact C.kind) (by rw [C.sc]; exact h3)) rfl) (fun _ _ _ q => q) fun d l l' hp => put_col h1 hp
  case h_7 =>
    simp only [Bool.and_eq_true] at h
    obtain ⟨⟨h1, h2⟩, h3⟩ := h
    exact par_st C h3 (S.as C h2 h1 G).2.2.2
  case h_8 => exact st_ret (S.e C h G false)
  case h_9 => exact st_retn
  case h_10 => exact st_reto (seen_ok C h)
  case h_11 =>
    simp only [Bool.and_eq_true] at h
    exact st_ite (S.t C h.1.1 G) (SS.ss C ht h.1.2 G) (SS.ss C ht h.2 G)
  case h_12 =>
    simp only [Bool.and_eq_true, Bool.not_eq_true'] at h
    obtain ⟨⟨⟨h1, h2⟩, h3⟩, h4⟩ := h
    exact st_loop (C.po ht) C.calm (S.i C h1 G _).2 (chkTg_ok C h2) (SS.ss C ht h3 G) (notSet_ok h4)
  case h_13 =>
    rw [Bool.and_eq_true] at h
    exact st_whil (C.po ht) (S.t C h.1 G) (SS.ss C ht h.2 G)
  case h_14 => exact st_cont
  case h_15 => exact st_brk
  case h_16 =>
    simp only [Bool.and_eq_true, decide_eq_true_eq, Bool.not_eq_true'] at h
    obtain ⟨⟨⟨⟨rfl, h2⟩, h3⟩, h4⟩, h5⟩ := h
    exact st_app (seen_ok C h2) (S.e C h3 G false) h4 h5
  case h_17 =>
    simp only [Bool.and_eq_true, decide_eq_true_eq, Bool.not_eq_true'] at h
    obtain ⟨⟨⟨⟨rfl, h2⟩, h3⟩, h4⟩, h5⟩ := h
    exact st_ext (seen_ok C h2) (S.e C h3 G true) h4 h5
  case h_18 =>
    simp only [Bool.and_eq_true, decide_eq_true_eq] at h
    obtain ⟨⟨rfl, h2⟩, h3⟩ := h
    exact st_pop (seen_ok C h2) h3
  case h_19 =>
    simp only [Bool.and_eq_true, decide_eq_true_eq] at h
    obtain ⟨⟨⟨rfl, h2⟩, h3⟩, h4⟩ := h
    exact st_popto (seen_ok C h2) h3 fun he => ps_asg he (chkTg_ok C h4) (sw_sole_no rfl) sw_call (tg_asg h4)
  case h_20 =>
    simp only [Bool.and_eq_true, decide_eq_true_eq, Bool.not_eq_true'] at h
    obtain ⟨⟨⟨⟨⟨⟨rfl, h2⟩, h3⟩, h4⟩, h5⟩, h6⟩, h7⟩ := h
    exact st_ins (seen_ok C h2) (S.e C h3 G true) (S.e C h4 G false) h5 h6 h7
  case h_21 =>
    simp only [Bool.and_eq_true] at h
    obtain ⟨⟨⟨h1, h2⟩, h3⟩, h4⟩ := h
    exact st_seti (seen_ok C h2) (S.e C h3 G true) (S.e C h4 G false) (sub_assign h1) (sw_sole rfl) sw_sub
  case h_22 =>
    simp only [Bool.and_eq_true] at h
    obtain ⟨⟨⟨h1, h2⟩, h3⟩, h4⟩ := h
    exact st_setr (S.e C h2 G true) (S.e C h3 G true) (S.e C h4 G false) (sub_assign h1) (sw_sole rfl) sw_sub
  case h_23 =>
    simp only [Bool.and_eq_true] at h
    obtain ⟨⟨h1, h2⟩, h3⟩ := h
    exact st_dput (by have := C.room.un; omega) (seen_ok C h1) (S.e C h2 G true) (S.e C h3 G false) (sw_to rfl)
  case h_24 =>
    simp only [Bool.and_eq_true] at h
    obtain ⟨⟨h1, h2⟩, h3⟩ := h
    split at h3
    · exact st_aug hN (nameTo_ok C h1) (S.e C h2 G true) ip_add fun a b => rfl
    · exact st_aug hN (nameTo_ok C h1) (S.e C h2 G true) ip_sub fun a b => rfl
    · cases h3
  case h_25 => cases h
theorem step_ss (SS : SoundS cs k w n) (C : CxOk X c cs k) (ht : c.top = true) {ss : List Stmt} {is : List S} (h : chkSs c (n + 1) ss is = true) (G : Gam) : PSs X ss (tS X.K G (evSs cs w is)) := by
  unfold chkSs at h
  split at h
  · exact ss_nil
  · exact ss_frz (SS.ss C ht h G)
  · rw [Bool.and_eq_true] at h
    exact ss_cons (SS.s C ht h.1 G) (SS.ss C ht h.2 G)
  · cases h
theorem soundS (cs : CallS) (k w : Nat) : ∀ n, SoundS cs k w n
  | 0 => ⟨fun _ _ _ _ h => by simp [chkS] at h, fun _ _ _ _ h => by simp [chkSs] at h⟩
  | n + 1 => ⟨fun C ht _ _ h G => step_s (soundS cs k w n) C ht h G, fun C ht _ _ h G => step_ss (soundS cs k w n) C ht h G⟩
end
end Mp

set_option Elab.async false
set_option linter.all false
set_option maxRecDepth 100000
set_option maxHeartbeats 1000000
/-! MpP: all defs of a text keep what their small-language forms say. -/
namespace Mp
open PySem PySem.Spec PyProof.Rows L2

abbrev Shape := Nat × List Str × List D
/-- a def of the text and its form -/
structure DefI where
  x : Str
  qual : Str
  params : Arguments
  body : List Stmt
  scope : Scope
  N : List Str
  ps : List Str
  fn : Fn
  shapes : List Shape
def gFind : List DefI → Nat → Str → Option (Nat × List Shape)
  | [], _, _ => none
  | d :: r, i, x => if d.x = x then some (i, d.shapes) else gFind r (i + 1) x
def vFind : List (Str × D) → Str → Option D
  | [], _ => none
  | (y, d) :: r, x => if y = x then some d else vFind r x
def mkGlo (tab : List DefI) (vals : List (Str × D)) (frees : List Str) (x : Str) : GV := match gFind tab 0 x with
  | some (f, sh) => .fn f sh
  | none => match vFind vals x with
    | some d => .val d
    | none => if frees.contains x then .free else .other
theorem gFind_ok {x : Str} {f : Nat} {sh : List Shape} : ∀ {tab : List DefI} {i : Nat}, gFind tab i x = some (f, sh) → ∃ d, i ≤ f ∧ tab[f - i]? = some d ∧ d.x = x ∧ d.shapes = sh
  | [], _, h => by simp [gFind] at h
  | d :: r, i, h => by
    unfold gFind at h
    split at h
    · cases h
      exact ⟨d, Nat.le_refl _, by simp, by assumption, rfl⟩
    · obtain ⟨d', h1, h2, h3⟩ := gFind_ok h
      refine ⟨d', by omega, ?_, h3⟩
      have : f - i = (f - (i + 1)) + 1 := by omega
      rw [this]; simpa using h2
theorem vFind_ok {x : Str} {d : D} : ∀ {vals : List (Str × D)}, vFind vals x = some d → (x, d) ∈ vals
  | [], h => by simp [vFind] at h
  | (y, e) :: r, h => by
    unfold vFind at h
    split at h
    · cases h; rename_i hx; subst hx; exact List.mem_cons_self
    · exact List.mem_cons_of_mem _ (vFind_ok h)

def fuel : Nat := 4000
def scopeOk (N P : List Str) (sc : Scope) : Bool := decide (sc.kind = .function) && !sc.isCoroutine && !sc.isGenerator && decide N.Nodup && decide (N.take P.length = P) &&
  P.all (fun x => match sc.names.lookup x with | some .local => true | some .cell => true | _ => false) && sc.names.all (fun y => decide (y.2 ≠ .free))
theorem scope_ok {N P : List Str} {sc : Scope} (h : scopeOk N P sc = true) : FnScope N P sc := by
  simp only [scopeOk, Bool.and_eq_true, decide_eq_true_eq, Bool.not_eq_true', List.all_eq_true] at h
  obtain ⟨⟨⟨⟨⟨⟨h1, h2⟩, h3⟩, h4⟩, h5⟩, h6⟩, h7⟩ := h
  refine ⟨h1, h2, h3, h4, h5, fun x hx => ?_, h7⟩
  have := h6 x hx
  split at this <;> first | exact .inl (by assumption) | exact .inr (by assumption) | cases this
def chkD (glo : Str → GV) (d : DefI) : Bool := scopeOk d.N d.ps d.scope && decide (d.fn.np = d.ps.length) && decide (d.fn.ns = d.N.length) && chkSs ⟨d.N, d.scope, true, glo⟩ fuel d.body d.fn.body
def tabOf (tab : List DefI) : Tab := fun f => (tab[f]?).map (·.fn)

/-- what the heap says of the text's names -/
structure Says (K : PySem.W.Frag) (mg : Str → Option Value) (tab : List DefI) (vals : List (Str × D)) (frees : List Str) : Prop where
  fn : ∀ d ∈ tab, ∃ a fd, mg d.x = some (.ref a) ∧ (∃ dvs kws, FunD K d.x d.qual d.params d.body d.scope dvs kws a fd) ∧
    ∀ s ∈ d.shapes, ∃ dvs ds, KBn K fd d.ps s.1 s.2.1 (fun us ws => us ++ ws ++ ds) (fun vs zs => vs ++ zs ++ dvs) ∧ ∀ F io, Reps K F io dvs s.2.2
  val : ∀ (x : Str) (d : D), (x, d) ∈ vals → ∃ u v, mg x = some u ∧ RelV v u ∧ ∀ F io, Rep K F io v d
  free : ∀ x : Str, frees.contains x = true → mg x = none

section
variable {P : Program} {w : World} {K : PySem.W.Frag} {mg : Str → Option Value} {base : Heap} {tab : List DefI} {vals : List (Str × D)} {frees : List Str}
theorem run_ok {cs : CallS} {w : Nat} {f : Fn} {ds : List D} {m m' : Mem} {d : D} (h : runB cs w f ds m = .ok d m') : ds.length = f.np ∧ ((∃ l, evSs cs w f.body (ds ++ List.replicate (f.ns - f.np) .unb) m = .nxt l m' ∧ d = .non) ∨ evSs cs w f.body (ds ++ List.replicate (f.ns - f.np) .unb) m = .ret d m') := by
  unfold runB at h
  split at h
  · rename_i hl
    refine ⟨by simpa using hl, ?_⟩
    split at h
    · cases h; exact .inl ⟨_, by assumption, rfl⟩
    · cases h; exact .inr (by assumption)
    · cases h
    · cases h
  · cases h
theorem locs_start {F : Hp} {io : List Addr} {H : Hp} {vs : List V} {ds : List D} {N : List Str} (r : Reps K F io vs ds) (hl : ds.length ≤ N.length) : Locs K H F io (ds ++ List.replicate (N.length - ds.length) .unb) (L2.start N vs) H := by
  have len := r.len
  refine ⟨by simp [L2.start, len], fun i d hd => ?_, fun i j d e p hij hd he od oe hp => ?_⟩
  · by_cases hi : i < ds.length
    · rw [List.getElem?_append_left hi] at hd
      obtain ⟨v, hv, rv⟩ := r.get hd
      have : (L2.start N vs)[i]? = some (some v) := by
        unfold L2.start
        rw [List.getElem?_append_left (by simpa [len] using hi), List.getElem?_map, hv]; rfl
      rw [this]
      exact rep_slot rv
    · rw [List.getElem?_append_right (by omega), List.getElem?_replicate] at hd
      split at hd
      · cases hd; trivial
      · cases hd
  · by_cases hi : i < ds.length
    · rw [List.getElem?_append_left hi] at hd
      obtain ⟨v, hv, rv⟩ := r.get hd
      rw [rep_own rv] at od; cases od
    · rw [List.getElem?_append_right (by omega), List.getElem?_replicate] at hd
      split at hd
      · cases hd; cases od
      · cases hd
theorem fns_ok (hs : Says K mg tab vals frees) (hc : ∀ d ∈ tab, chkD (mkGlo tab vals frees) d = true) (wf : Nat) : ∀ (n i : Nat) (d : DefI) (a : Addr) (fd : FuncData), tab[i]? = some d → (∃ dvs kws, FunD K d.x d.qual d.params d.body d.scope dvs kws a fd) →
    FnOk P w K mg base CX0 n a fd d.ps (spI K (callI (tabOf tab) wf n i))
  | 0, i, d, a, fd, _, _ => by
    refine ⟨fun vs H Q E h => ?_, fun A outer s H args us vs Q E _ _ _ _ h => ?_⟩
    · obtain ⟨F, io, m, ds, _, _, d, m', e, _⟩ := h
      cases e
    · obtain ⟨F, io, m, ds, _, _, d, m', e, _⟩ := h
      cases e
  | n + 1, i, d, a, fd, hi, ⟨dvs, kws, FD⟩ => by
    have hd := hc d (List.mem_of_getElem? hi)
    simp only [chkD, Bool.and_eq_true, decide_eq_true_eq] at hd
    obtain ⟨⟨⟨h1, h2⟩, h3⟩, h4⟩ := hd
    have hT : tabOf tab i = some d.fn := by unfold tabOf; rw [hi]; rfl
    have hcall : ∀ ds m, callI (tabOf tab) wf (n + 1) i ds m = runB (callI (tabOf tab) wf n) wf d.fn ds m := fun ds m => by
      show (match tabOf tab i with | some fn => runB (callI (tabOf tab) wf n) wf fn ds m | none => .bad) = _
      rw [hT]
    have FS := scope_ok h1
    have hpl : d.ps.length ≤ d.N.length := by have := congrArg List.length FS.pre; rw [List.length_take] at this; omega
    refine FD.ok FS (fun vs H Q E h => ?_) (fun cdv A outer s H vs Q E hr h => ?_)
    · obtain ⟨F, io, m, ds, S, r, d', m', e, q⟩ := h
      rw [hcall] at e
      rw [r.len, (run_ok e).1, h2]
    · obtain ⟨F, io, m, ds, S, r, d', m', e, q⟩ := h
      rw [hcall] at e
      obtain ⟨el, e9⟩ := run_ok e
      have C : CxOk (cxOf CX0 P w K mg base d.N d.qual d.scope a cdv A outer s H E).nox ⟨d.N, d.scope, true, mkGlo tab vals frees⟩ (callI (tabOf tab) wf n) n := by
        refine ⟨rfl, FS.nd, rfl, FS.kind, rfl, hr, fun _ _ => rfl, fun _ => PassesOwn.never, fun x f sh hx ks' ks dfl hm => ?_, fun x d hx => ?_, fun x hx => ?_⟩
        · have hx : mkGlo tab vals frees x = .fn f sh := hx
          unfold mkGlo at hx
          split at hx
          · rename_i f' sh' hg
            cases hx
            obtain ⟨d2, _, h5, h6, h7⟩ := gFind_ok hg
            rw [Nat.sub_zero] at h5
            obtain ⟨a2, fd2, g1, g2, g3⟩ := hs.fn d2 (List.mem_of_getElem? h5)
            subst h7 h6
            obtain ⟨dvs2, ds2, g4, g5⟩ := g3 _ hm
            obtain ⟨dv3, kw3, g6⟩ := g2
            exact ⟨a2, fd2, d2.ps, dvs2, ds2, g1, g6.kp, fns_ok hs hc wf n f d2 a2 fd2 h5 ⟨dv3, kw3, g6⟩, g4, g5⟩
          · split at hx
            · cases hx
            · split at hx <;> cases hx
        · have hx : mkGlo tab vals frees x = .val d := hx
          unfold mkGlo at hx
          split at hx
          · cases hx
          · split at hx
            · rename_i hv
              cases hx
              exact hs.val x d (vFind_ok hv)
            · split at hx <;> cases hx
        · have hx : mkGlo tab vals frees x = .free := hx
          unfold mkGlo at hx
          split at hx
          · cases hx
          · split at hx
            · cases hx
            · split at hx
              · exact hs.free x (by assumption)
              · cases hx
      refine ⟨tS K ⟨F, io, H⟩ (evSs (callI (tabOf tab) wf n) wf d.fn.body), PSs.nox ((soundS (callI (tabOf tab) wf n) n wf fuel).ss C rfl h4 ⟨F, io, H⟩), ?_⟩
      refine ⟨F, io, ds ++ List.replicate (d.fn.ns - d.fn.np) .unb, m, ⟨S, .refl _ _ _, ?_⟩, ?_⟩
      · rw [h3, ← el]
        exact locs_start r (by rw [el, h2]; exact hpl)
      · rcases e9 with ⟨l, e8, rfl⟩ | e8
        · rw [e8]
          exact fun st F' io' H' _ _ S' => q .non F' io' H' S'.gr S'.sm .non
        · rw [e8]
          exact fun v F' io' H' g s rr => q v F' io' H' g s rr
/-- a shape that no default fills -/
def ShapeOk (d : DefI) (s : Shape) : Prop := s.2.2 = [] ∧ ∀ (kV doc pm : Value) (an : Option Addr) (cdv ct : Value) (us ws : List Value), us.length = s.1 → ws.length = s.2.1.length → bindArgs (PySem.W.fnOf d.x d.qual d.params d.body d.scope .none kV doc pm an cdv ct) ⟨us, s.2.1.zip ws⟩ = pure (d.ps.zip (us ++ ws))
theorem kbn_of {x qual : Str} {params : Arguments} {body : List Stmt} {scope : Scope} {kws : List (Str × V)} {f : Addr} {fd : FuncData} {ps : List Str} (F : FunD K x qual params body scope [] kws f fd) (n : Nat) (ks : List Str)
    (h : ∀ (kV doc pm : Value) (an : Option Addr) (cdv ct : Value) (us ws : List Value), us.length = n → ws.length = ks.length → bindArgs (PySem.W.fnOf x qual params body scope .none kV doc pm an cdv ct) ⟨us, ks.zip ws⟩ = pure (ps.zip (us ++ ws))) :
    KBn K fd ps n ks (fun us ws => us ++ ws ++ []) (fun vs zs => vs ++ zs ++ []) := by
  obtain ⟨oc, od, dV, kV, doc, pm, an, cdv, ct, osl, rfl, lk, hcd, hD, hK⟩ := F.ex
  rcases hD with ⟨_, rfl⟩ | ⟨e, _⟩
  · refine ⟨fun s us ws X l1 l2 => ?_, fun r1 r2 => ?_⟩
    · rw [List.append_nil]
      exact .of_eq (h kV doc pm an cdv ct us ws l1 l2)
    · rw [List.append_nil, List.append_nil]
      exact r1.append r2
  · exact absurd rfl e
/-- one def's facts -/
theorem fn_says {d : DefI} {a : Addr} (hm : mg d.x = some (.ref a)) (F : ∃ fd kws, FunD K d.x d.qual d.params d.body d.scope [] kws a fd) (hs : ∀ s ∈ d.shapes, ShapeOk d s) :
    ∃ a fd, mg d.x = some (.ref a) ∧ (∃ dvs kws, FunD K d.x d.qual d.params d.body d.scope dvs kws a fd) ∧
    ∀ s ∈ d.shapes, ∃ dvs ds, KBn K fd d.ps s.1 s.2.1 (fun us ws => us ++ ws ++ ds) (fun vs zs => vs ++ zs ++ dvs) ∧ ∀ F io, Reps K F io dvs s.2.2 := by
  obtain ⟨fd, kws, F⟩ := F
  refine ⟨a, fd, hm, ⟨[], kws, F⟩, fun s h => ⟨[], [], ?_, fun F io => ?_⟩⟩
  · exact kbn_of F s.1 s.2.1 (hs s h).2
  · rw [(hs s h).1]; exact .nil
theorem int_says {h : Heap} {x : Str} {i : Int} (X : K.In h) (G : h.Ns mainGlobals mg) (c : (He.Fa.int x i).ok K = true) : ∃ u v, mg x = some u ∧ RelV v u ∧ ∀ F io, Rep K F io v (.int i) := by
  obtain ⟨t, ht⟩ := He.int_ok X G c
  exact ⟨_, .int i, ht, ⟨t, rfl⟩, fun _ _ => .int i⟩
theorem str_says {h : Heap} {x z : Str} (X : K.In h) (G : h.Ns mainGlobals mg) (c : (He.Fa.str x z).ok K = true) : ∃ u v, mg x = some u ∧ RelV v u ∧ ∀ F io, Rep K F io v (.str z) := by
  obtain ⟨t, ht⟩ := He.str_ok X G c
  exact ⟨_, .str z, ht, ⟨t, rfl⟩, fun _ _ => .str z⟩
theorem scr_reps {F : Hp} {io : List Addr} : ∀ ns : List Int, Reps K F io (ns.map V.int) (ns.map D.int)
  | [] => .nil
  | n :: ns => .cons (.int n) (scr_reps ns)
/-- the law's promise -/
theorem law_sp {wf n li : Nat} {tab : List DefI} (h : ∀ ns : List Int, ns.length ≤ 63 → ∃ m', callI (tabOf tab) wf n li [.scr (ns.map .int)] [] = .ok (.bl true) m') (H : Hp) (a : Addr) (ns : List Int) (hn : ns.length ≤ 63) (hS : SqL K H a (ns.map V.int)) :
    spI K (callI (tabOf tab) wf n li) [.ref a] H (fun v _ => v = .bl true) fun _ _ _ => False := by
  obtain ⟨m', e⟩ := h ns hn
  refine ⟨H, [], [], [.scr (ns.map .int)], ⟨Exh.refl H, rfl, List.nodup_nil, fun _ h => (List.not_mem_nil h).elim, fun k a c h => by simp at h⟩, .cons (.scr hS (scr_reps ns)) .nil, .bl true, m', e, fun v F' io' H' _ _ r => ?_⟩
  have r : Rep K F' io' v (.bl true) := r
  cases r; rfl
end
end Mp

set_option Elab.async false
set_option linter.all false
set_option maxRecDepth 100000
set_option maxHeartbeats 1000000
/-! MpY: the evaluator, stepped from the front. -/
namespace Mp
open PySem

/-- it comes to a value, and P holds of it -/
def Ev {α : Type} (r : Res α) (P : α → Mem → Prop) : Prop := match r with
  | .ok a m => P a m
  | _ => False
theorem Ev_congr {α : Type} {r r' : Res α} {P : α → Mem → Prop} (h : r = r') : Ev r P = Ev r' P := by rw [h]
@[simp ↓] theorem Ev_ok {α : Type} (a : α) (m : Mem) (P : α → Mem → Prop) : Ev (.ok a m) P = P a m := (Eq.refl _).trans rfl
@[simp ↓] theorem Ev_bad {α : Type} (P : α → Mem → Prop) : Ev .bad P = False := (Eq.refl _).trans rfl
@[simp ↓] theorem Ev_bind {α β : Type} (r : Res α) (k : α → Mem → Res β) (P : β → Mem → Prop) : Ev (r.bind k) P = Ev r fun a m => Ev (k a m) P := by cases r <;> rfl
theorem Ev.mono {α : Type} {r : Res α} {P Q : α → Mem → Prop} (h : Ev r P) (i : ∀ a m, P a m → Q a m) : Ev r Q := by
  cases r with
  | ok a m => exact i a m h
  | exc _ _ => exact h
  | bad => exact h
theorem Ev.eq {α : Type} {r : Res α} {P : α → Mem → Prop} (h : Ev r P) : ∃ a m, r = .ok a m ∧ P a m := by
  cases r with
  | ok a m => exact ⟨a, m, rfl, h⟩
  | exc _ _ => exact h.elim
  | bad => exact h.elim
theorem Ev.of {α : Type} {r : Res α} {a : α} {m : Mem} {P : α → Mem → Prop} (e : r = .ok a m) (h : P a m) : Ev r P := by rw [e]; exact h
/-- what a truth chooses -/
def br (o : Option Bool) (A B : Prop) : Prop := match o with
  | some true => A
  | some false => B
  | none => False
theorem br_congr {o o' : Option Bool} {A B : Prop} (h : o = o') : br o A B = br o' A B := by rw [h]
@[simp ↓] theorem br_true (A B : Prop) : br (some true) A B = A := (Eq.refl _).trans rfl
@[simp ↓] theorem br_false (A B : Prop) : br (some false) A B = B := (Eq.refl _).trans rfl
theorem br_of {b : Bool} {A B : Prop} (h1 : b = true → A) (h2 : b = false → B) : br (some b) A B := by
  cases b
  · exact h2 rfl
  · exact h1 rfl
theorem br_dec {p : Prop} [Decidable p] {A B : Prop} (h1 : p → A) (h2 : ¬p → B) : br (some (decide p)) A B := br_of (fun h => h1 (of_decide_eq_true h)) fun h => h2 (of_decide_eq_false h)
/-- a partial pure value -/
def op {α : Type} (o : Option α) (P : α → Prop) : Prop := match o with
  | some a => P a
  | none => False
theorem op_congr {α : Type} {o o' : Option α} {P : α → Prop} (h : o = o') : op o P = op o' P := by rw [h]
@[simp ↓] theorem op_some {α : Type} (a : α) (P : α → Prop) : op (some a) P = P a := (Eq.refl _).trans rfl
@[simp ↓] theorem op_ite {α : Type} (p : Prop) [Decidable p] (o : Option α) (P : α → Prop) : op (if p then o else none) P = (p ∧ op o P) := by
  by_cases h : p <;> simp [op, h]
@[simp ↓] theorem Ev_opt {α : Type} (o : Option α) (m : Mem) (P : α → Mem → Prop) : Ev (opt o m) P = op o fun a => P a m := by cases o <;> rfl

structure Fin where
  nx : Loc → Mem → Prop
  rt : D → Mem → Prop
  bk : Loc → Mem → Prop
  ct : Loc → Mem → Prop
def EvS (r : ResS) (K : Fin) : Prop := match r with
  | .nxt l m => K.nx l m
  | .ret v m => K.rt v m
  | .brk l m => K.bk l m
  | .cnt l m => K.ct l m
  | _ => False
theorem EvS_congr {r r' : ResS} {K : Fin} (h : r = r') : EvS r K = EvS r' K := by rw [h]
@[simp ↓] theorem EvS_nxt (l : Loc) (m : Mem) (K : Fin) : EvS (.nxt l m) K = K.nx l m := (Eq.refl _).trans rfl
@[simp ↓] theorem EvS_ret (v : D) (m : Mem) (K : Fin) : EvS (.ret v m) K = K.rt v m := (Eq.refl _).trans rfl
@[simp ↓] theorem EvS_brk (l : Loc) (m : Mem) (K : Fin) : EvS (.brk l m) K = K.bk l m := (Eq.refl _).trans rfl
@[simp ↓] theorem EvS_cnt (l : Loc) (m : Mem) (K : Fin) : EvS (.cnt l m) K = K.ct l m := (Eq.refl _).trans rfl
@[simp ↓] theorem EvS_bad (K : Fin) : EvS .bad K = False := (Eq.refl _).trans rfl
@[simp ↓] theorem EvS_stm {α : Type} (r : Res α) (k : α → Mem → ResS) (K : Fin) : EvS (r.stm k) K = Ev r fun a m => EvS (k a m) K := by cases r <;> rfl
theorem EvS.mono {r : ResS} {K K' : Fin} (h : EvS r K) (h1 : ∀ l m, K.nx l m → K'.nx l m) (h2 : ∀ v m, K.rt v m → K'.rt v m) (h3 : ∀ l m, K.bk l m → K'.bk l m) (h4 : ∀ l m, K.ct l m → K'.ct l m) : EvS r K' := by
  cases r <;> first | exact h1 _ _ h | exact h2 _ _ h | exact h3 _ _ h | exact h4 _ _ h | exact h

/-! ### expressions -/
section
variable (cs : CallS) (b : Bool) (l : Loc) (m : Mem) (P : D → Mem → Prop) (PS : List D → Mem → Prop)
@[simp ↓] theorem Ev_lit (d : D) : Ev (evE cs b (.lit d) l m) P = P d m := (Eq.refl _).trans rfl
@[simp ↓] theorem Ev_var (i : Nat) : Ev (evE cs b (.var i) l m) P = Ev (get1 (l.getD i .unb) m) P := by
  show Ev (getV i l m) P = _
  unfold getV
  rw [List.getD_eq_getElem?_getD]
  cases l[i]? <;> rfl
@[simp ↓] theorem Ev_bor (i : Nat) : Ev (evE cs true (.bor i) l m) P = Ev (bor1 (l.getD i .unb) m) P := by
  show Ev (borV i l m) P = _
  unfold borV
  rw [List.getD_eq_getElem?_getD]
  cases l[i]? <;> rfl
@[simp ↓] theorem Ev_neg (a : E) : Ev (evE cs b (.neg a) l m) P = Ev (evE cs true a l m) fun x m1 => op (intOf x) fun i => P (.int (-i)) m1 := by
  show Ev ((evE cs true a l m).bind _) P = _
  rw [Ev_bind]
  congr; funext x m1; cases x <;> rfl
@[simp ↓] theorem Ev_not (a : E) : Ev (evE cs b (.not a) l m) P = Ev (evE cs true a l m) fun x m1 => op (truth x) fun c => P (.bl (!c)) m1 := by
  show Ev ((evE cs true a l m).bind _) P = _
  rw [Ev_bind]
  congr; funext x m1
  cases truth x <;> rfl
@[simp ↓] theorem Ev_and (x y : E) : Ev (evE cs b (.and x y) l m) P = Ev (evE cs b x l m) fun v m1 => br (truth v) (Ev (evE cs b y l m1) P) (P v m1) := by
  show Ev ((evE cs b x l m).bind _) P = _
  rw [Ev_bind]
  congr; funext v m1
  cases truth v with
  | none => rfl
  | some c => cases c <;> rfl
@[simp ↓] theorem Ev_or (x y : E) : Ev (evE cs b (.or x y) l m) P = Ev (evE cs b x l m) fun v m1 => br (truth v) (P v m1) (Ev (evE cs b y l m1) P) := by
  show Ev ((evE cs b x l m).bind _) P = _
  rw [Ev_bind]
  congr; funext v m1
  cases truth v with
  | none => rfl
  | some c => cases c <;> rfl
@[simp ↓] theorem Ev_ite (c x y : E) : Ev (evE cs b (.ite c x y) l m) P = Ev (evE cs true c l m) fun v m1 => br (truth v) (Ev (evE cs b x l m1) P) (Ev (evE cs b y l m1) P) := by
  show Ev ((evE cs true c l m).bind _) P = _
  rw [Ev_bind]
  congr; funext v m1
  cases truth v with
  | none => rfl
  | some c => cases c <;> rfl
@[simp ↓] theorem Ev_bin (o : BOp) (x y : E) : Ev (evE cs b (.bin o x y) l m) P = Ev (evE cs true x l m) fun v m1 => Ev (evE cs true y l m1) fun w m2 => op (binop o v w) fun d => P d m2 := by
  show Ev ((evE cs true x l m).bind _) P = _
  simp only [Ev_bind, Ev_opt]
@[simp ↓] theorem Ev_cmp (o : COp) (x y : E) : Ev (evE cs b (.cmp o x y) l m) P = Ev (evE cs true x l m) fun v m1 => Ev (evE cs true y l m1) fun w m2 => op (cmpop o v w) fun d => P d m2 := by
  show Ev ((evE cs true x l m).bind _) P = _
  simp only [Ev_bind, Ev_opt]
@[simp ↓] theorem Ev_chain (o o' : COp) (x y z : E) : Ev (evE cs b (.chain o o' x y z) l m) P = Ev (evE cs true x l m) fun v m1 => Ev (evE cs true y l m1) fun w m2 => op (cmpop o v w) fun r => br (truth r) (Ev (evE cs true z l m2) fun u m4 => op (cmpop o' w u) fun d => P d m4) (P (.bl false) m2) := by
  show Ev ((evE cs true x l m).bind _) P = _
  simp only [Ev_bind, Ev_opt]
  congr; funext v m1; congr; funext w m2
  cases h : cmpop o v w with
  | none => rfl
  | some r =>
    obtain ⟨c, rfl⟩ := cmp_bool (o := o) _ _ _ h
    cases c
    · rfl
    · show Ev ((evE cs true z l m2).bind _) P = Ev _ _
      simp only [Ev_bind, Ev_opt]
@[simp ↓] theorem Ev_tup (es : List E) : Ev (evE cs b (.tup es) l m) P = Ev (evEs cs es l m) fun xs m1 => sz xs = true ∧ P (.tup xs) m1 := by
  show Ev ((evEs cs es l m).bind _) P = _
  rw [Ev_bind]
  congr; funext xs m1
  cases sz xs <;> simp [Ev]
@[simp ↓] theorem Ev_lst (es : List E) : Ev (evE cs b (.lst es) l m) P = Ev (evEs cs es l m) fun xs m1 => sz xs = true ∧ P (.own xs) m1 := by
  show Ev ((evEs cs es l m).bind _) P = _
  rw [Ev_bind]
  congr; funext xs m1
  cases sz xs <;> simp [Ev]
@[simp ↓] theorem Ev_dnew : Ev (evE cs b .dnew l m) P = P (.odct [] []) m := (Eq.refl _).trans rfl
@[simp ↓] theorem Ev_idx (x y : E) : Ev (evE cs b (.idx x y) l m) P = Ev (evE cs true x l m) fun v m1 => Ev (evE cs true y l m1) fun w m2 => Ev (index v w m2) P := by
  show Ev ((evE cs true x l m).bind _) P = _
  simp only [Ev_bind]
@[simp ↓] theorem Ev_slc (x lo hi : E) : Ev (evE cs b (.slc x lo hi) l m) P = Ev (evE cs true x l m) fun v m1 => Ev (evE cs true lo l m1) fun y m2 => Ev (evE cs true hi l m2) fun z m3 => op (sliced v y z) fun d => P d m3 := by
  show Ev ((evE cs true x l m).bind _) P = _
  simp only [Ev_bind, Ev_opt]
@[simp ↓] theorem Ev_call (f : Nat) (es ks : List E) (dfl : List D) : Ev (evE cs b (.call f es ks dfl) l m) P = Ev (evEs cs es l m) fun xs m1 => Ev (evEs cs ks l m1) fun ys m2 => Ev (cs f (xs ++ ys ++ dfl) m2) P := by
  show Ev ((evEs cs es l m).bind _) P = _
  simp only [Ev_bind]
@[simp ↓] theorem Ev_prim (p : Prim) (es : List E) : Ev (evE cs b (.prim p es) l m) P = Ev (evEb cs es l m) fun xs m1 => op (prim p xs) fun d => P d m1 := by
  show Ev ((evEb cs es l m).bind _) P = _
  simp only [Ev_bind, Ev_opt]
@[simp ↓] theorem Ev_comp (elt : E) (t : Tg) (src c : E) : Ev (evE cs b (.comp elt t src c) l m) P = Ev (evE cs true src l m) fun s m1 => op (items s) fun xs => Ev (compGo (turnC cs elt t c l) xs [] m1) fun ys m2 => P (.own ys) m2 := by
  show Ev ((evE cs true src l m).bind _) P = _
  rw [Ev_bind]
  congr; funext s m1
  cases items s with
  | none => rfl
  | some xs =>
    show Ev ((compGo (turnC cs elt t c l) xs [] m1).bind _) P = Ev _ _
    simp only [Ev_bind, Ev_ok]
@[simp ↓] theorem Evs_nil : Ev (evEs cs [] l m) PS = PS [] m := (Eq.refl _).trans rfl
@[simp ↓] theorem Evs_cons (e : E) (es : List E) : Ev (evEs cs (e :: es) l m) PS = Ev (evE cs false e l m) fun x m1 => Ev (evEs cs es l m1) fun xs m2 => PS (frz x :: xs) m2 := by
  show Ev ((evE cs false e l m).bind _) PS = _
  simp only [Ev_bind, Ev_ok]
@[simp ↓] theorem Evo_nil : Ev (evEo cs [] l m) PS = PS [] m := (Eq.refl _).trans rfl
@[simp ↓] theorem Evo_cons (e : E) (es : List E) : Ev (evEo cs (e :: es) l m) PS = Ev (evE cs false e l m) fun x m1 => Ev (evEo cs es l m1) fun xs m2 => PS (x :: xs) m2 := by
  show Ev ((evE cs false e l m).bind _) PS = _
  simp only [Ev_bind, Ev_ok]
@[simp ↓] theorem Evb_nil : Ev (evEb cs [] l m) PS = PS [] m := (Eq.refl _).trans rfl
@[simp ↓] theorem Evb_cons (e : E) (es : List E) : Ev (evEb cs (e :: es) l m) PS = Ev (evE cs true e l m) fun x m1 => Ev (evEb cs es l m1) fun xs m2 => PS (x :: xs) m2 := by
  show Ev ((evE cs true e l m).bind _) PS = _
  simp only [Ev_bind, Ev_ok]
theorem Ev_turn (elt : E) (t : Tg) (c : E) (x : D) (P : Option D → Mem → Prop) : Ev (turnC cs elt t c l x m) P = op (t.put x (t.clear l)) fun l1 => Ev (evE cs true c l1 m) fun v m2 => br (truth v) (Ev (evE cs false elt l1 m2) fun v m3 => P (some v) m3) (P none m2) := by
  unfold turnC
  cases t.put x (t.clear l) with
  | none => rfl
  | some l1 =>
    show Ev ((evE cs true c l1 m).bind _) P = Ev _ _
    rw [Ev_bind]
    congr; funext v m2
    cases truth v with
    | none => rfl
    | some c =>
      cases c
      · rfl
      · show Ev ((evE cs false elt l1 m2).bind _) P = Ev _ _
        simp only [Ev_bind, Ev_ok]
end

/-! ### statements -/
section
variable (cs : CallS) (w : Nat) (l : Loc) (m : Mem) (K : Fin)
@[simp ↓] theorem EvSs_nil : EvS (evSs cs w [] l m) K = K.nx l m := (Eq.refl _).trans rfl
@[simp ↓] theorem EvSs_cons (s : S) (ss : List S) : EvS (evSs cs w (s :: ss) l m) K = EvS (evS cs w s l m) ⟨fun l m => EvS (evSs cs w ss l m) K, K.rt, K.bk, K.ct⟩ := by
  show EvS ((evS cs w s l m).then _) K = _
  cases evS cs w s l m <;> rfl
@[simp ↓] theorem EvS_pass : EvS (evS cs w .pass l m) K = K.nx l m := (Eq.refl _).trans rfl
@[simp ↓] theorem EvS_expr (e : E) : EvS (evS cs w (.expr e) l m) K = Ev (evE cs true e l m) fun _ m1 => K.nx l m1 := EvS_stm _ _ _
@[simp ↓] theorem EvS_set (i : Nat) (e : E) : EvS (evS cs w (.set i e) l m) K = Ev (evE cs false e l m) fun x m1 => K.nx (l.set i (frz x)) m1 := EvS_stm _ _ _
@[simp ↓] theorem EvS_seto (i : Nat) (e : E) : EvS (evS cs w (.seto i e) l m) K = Ev (evE cs false e l m) fun x m1 => K.nx (l.set i x) m1 := EvS_stm _ _ _
def ownOf : D → Option (List D)
  | .own xs => some xs
  | _ => none
@[simp ↓] theorem EvS_cell (i : Nat) (e : E) : EvS (evS cs w (.cell i e) l m) K = Ev (evE cs false e l m) fun x m1 => op (ownOf x) fun xs => K.nx (l.set i (.ref m1.length)) (m1 ++ [.lst xs]) := by
  show EvS ((evE cs false e l m).stm _) K = _
  rw [EvS_stm]
  congr; funext x m1
  cases x <;> rfl
@[simp ↓] theorem EvS_unp (t : Tg) (e : E) : EvS (evS cs w (.unp t e) l m) K = Ev (evE cs true e l m) fun x m1 => op (t.put x l) fun l1 => K.nx l1 m1 := by
  show EvS ((evE cs true e l m).stm _) K = _
  rw [EvS_stm]
  congr; funext x m1
  cases t.put x l <;> rfl
@[simp ↓] theorem EvS_par (is : List Nat) (es : List E) : EvS (evS cs w (.par is es) l m) K = Ev (evEo cs es l m) fun xs m1 => op (setAll is xs l) fun l1 => K.nx l1 m1 := by
  show EvS ((evEo cs es l m).stm _) K = _
  rw [EvS_stm]
  congr; funext xs m1
  cases setAll is xs l <;> rfl
@[simp ↓] theorem EvS_frz (i : Nat) : EvS (evS cs w (.frz i) l m) K = op (l[i]?) fun d => K.nx (l.set i (frz d)) m := by
  show EvS (match l[i]? with | some d => .nxt (l.set i (Mp.frz d)) m | none => .bad) K = _
  cases l[i]? <;> rfl
@[simp ↓] theorem EvS_retE (e : E) : EvS (evS cs w (.ret e) l m) K = Ev (evE cs false e l m) fun x m1 => K.rt x m1 := EvS_stm _ _ _
def bnd : D → Option D
  | .unb => none
  | d => some d
@[simp ↓] theorem EvS_reto (i : Nat) : EvS (evS cs w (.reto i) l m) K = op (bnd (l.getD i .unb)) fun d => K.rt d m := by
  show EvS (match l[i]? with | some .unb => .bad | some d => .ret d m | none => .bad) K = _
  rw [List.getD_eq_getElem?_getD]
  cases l[i]? with
  | none => rfl
  | some d => cases d <;> rfl
@[simp ↓] theorem EvS_ite (c : E) (a b : List S) : EvS (evS cs w (.ite c a b) l m) K = Ev (evE cs true c l m) fun x m1 => br (truth x) (EvS (evSs cs w a l m1) K) (EvS (evSs cs w b l m1) K) := by
  show EvS ((evE cs true c l m).stm _) K = _
  rw [EvS_stm]
  congr; funext x m1
  cases truth x with
  | none => rfl
  | some c => cases c <;> rfl
@[simp ↓] theorem EvS_cont : EvS (evS cs w .cont l m) K = K.ct l m := (Eq.refl _).trans rfl
@[simp ↓] theorem EvS_break : EvS (evS cs w .brk l m) K = K.bk l m := (Eq.refl _).trans rfl
/-- one turn's body -/
def turnS (cs : CallS) (w : Nat) (t : Tg) (body : List S) (x : D) (l : Loc) (m : Mem) : ResS := match t.put x l with
  | some l1 => evSs cs w body l1 m
  | none => .bad
theorem EvS_turn (t : Tg) (body : List S) (x : D) : EvS (turnS cs w t body x l m) K = op (t.put x l) fun l1 => EvS (evSs cs w body l1 m) K := by
  unfold turnS
  cases t.put x l <;> rfl
@[simp ↓] theorem EvS_loop (t : Tg) (src : E) (body : List S) : EvS (evS cs w (.loop t src body) l m) K = Ev (evE cs false src l m) fun s m1 => op (items (frz s)) fun xs => EvS (forGo (turnS cs w t body) xs l m1) K := by
  show EvS ((evE cs false src l m).stm _) K = _
  rw [EvS_stm]
  congr; funext s m1
  cases items (Mp.frz s) <;> rfl
@[simp ↓] theorem EvS_whil (c : E) (body : List S) : EvS (evS cs w (.whil c body) l m) K = EvS (whileGo (fun l m => evE cs true c l m) (fun l m => evSs cs w body l m) w l m) K := (Eq.refl _).trans rfl
@[simp ↓] theorem EvS_app (i : Nat) (e : E) : EvS (evS cs w (.app i e) l m) K = Ev (evE cs false e l m) fun x m1 => op (ownAt i l) fun xs => Nat.blt xs.length LIM = true ∧ K.nx (l.set i (.own (xs ++ [frz x]))) m1 := by
  show EvS ((evE cs false e l m).stm _) K = _
  rw [EvS_stm]
  congr; funext x m1
  cases ownAt i l with
  | none => rfl
  | some xs =>
    show EvS (if _ then _ else _) K = (_ ∧ _)
    cases Nat.blt xs.length LIM <;> simp
@[simp ↓] theorem EvS_ext (i : Nat) (e : E) : EvS (evS cs w (.ext i e) l m) K = Ev (evE cs true e l m) fun x m1 => op (ownAt i l) fun xs => op (listOf x) fun ys => Nat.ble (xs.length + ys.length) LIM = true ∧ K.nx (l.set i (.own (xs ++ ys))) m1 := by
  show EvS ((evE cs true e l m).stm _) K = _
  rw [EvS_stm]
  congr; funext x m1
  cases ownAt i l with
  | none => rfl
  | some xs =>
    cases listOf x with
    | none => rfl
    | some ys =>
      show EvS (if _ then _ else _) K = (_ ∧ _)
      cases Nat.ble (xs.length + ys.length) LIM <;> simp
@[simp ↓] theorem EvS_pop (i : Nat) : EvS (evS cs w (.pop i) l m) K = op (ownAt i l) fun xs => op (xs[xs.length - 1]?) fun _ => K.nx (l.set i (.own xs.dropLast)) m := by
  show EvS (match ownAt i l with | some xs => _ | none => .bad) K = _
  cases ownAt i l with
  | none => rfl
  | some xs => 
    show EvS (match xs[xs.length - 1]? with | some _ => _ | none => .bad) K = op (xs[xs.length - 1]?) _
    cases xs[xs.length - 1]? <;> rfl
@[simp ↓] theorem EvS_popto (t : Tg) (i : Nat) : EvS (evS cs w (.popto t i) l m) K = op (ownAt i l) fun xs => op (xs[xs.length - 1]?) fun x => op (t.put x (l.set i (.own xs.dropLast))) fun l1 => K.nx l1 m := by
  show EvS (match ownAt i l with | some xs => _ | none => .bad) K = _
  cases ownAt i l with
  | none => rfl
  | some xs =>
    show EvS (match xs[xs.length - 1]? with | some x => _ | none => .bad) K = op (xs[xs.length - 1]?) _
    cases xs[xs.length - 1]? with
    | none => rfl
    | some x =>
      show EvS (match t.put x (l.set i (.own xs.dropLast)) with | some l1 => _ | none => .bad) K = op (t.put x (l.set i (.own xs.dropLast))) _
      cases t.put x (l.set i (.own xs.dropLast)) <;> rfl
@[simp ↓] theorem EvS_seti (i : Nat) (a e : E) : EvS (evS cs w (.seti i a e) l m) K = Ev (evE cs false e l m) fun v m1 => Ev (evE cs true a l m1) fun x m2 => op (ownAt i l) fun xs => op (intOf x) fun k => op (ixAt k xs.length) fun j => K.nx (l.set i (.own (xs.set j (frz v)))) m2 := by
  show EvS ((evE cs false e l m).stm _) K = _
  rw [EvS_stm]
  congr; funext v m1
  rw [EvS_stm]
  congr; funext x m2
  cases ownAt i l with
  | none => rfl
  | some xs =>
    cases intOf x with
    | none => rfl
    | some k =>
      show EvS (match ixAt k xs.length with | some j => _ | none => .bad) K = op (ixAt k xs.length) _
      cases ixAt k xs.length <;> rfl
@[simp ↓] theorem EvS_setr (r a e : E) : EvS (evS cs w (.setr r a e) l m) K = Ev (evE cs false e l m) fun v m1 => Ev (evE cs true r l m1) fun o m2 => Ev (evE cs true a l m2) fun x m3 => op (cellAt o m3) fun c => op (intOf x) fun k => op (ixAt k c.2.length) fun j => K.nx l (m3.set c.1 (.lst (c.2.set j (frz v)))) := by
  show EvS ((evE cs false e l m).stm _) K = _
  rw [EvS_stm]
  congr; funext v m1
  rw [EvS_stm]
  congr; funext o m2
  rw [EvS_stm]
  congr; funext x m3
  cases cellAt o m3 with
  | none => rfl
  | some c =>
    obtain ⟨c, xs⟩ := c
    cases intOf x with
    | none => rfl
    | some k =>
      show EvS (match ixAt k xs.length with | some j => _ | none => .bad) K = op (ixAt k xs.length) _
      cases ixAt k xs.length <;> rfl
@[simp ↓] theorem EvS_dput (i : Nat) (a e : E) : EvS (evS cs w (.dput i a e) l m) K = Ev (evE cs false e l m) fun v m1 => Ev (evE cs true a l m1) fun k m2 => op (dctAt i l) fun c => (isTK k = true ∧ Nat.blt c.1.length LIM = true) ∧ K.nx (l.set i (.odct (dictPut k (frz v) c.1 c.2).1 (dictPut k (frz v) c.1 c.2).2)) m2 := by
  show EvS ((evE cs false e l m).stm _) K = _
  rw [EvS_stm]
  congr; funext v m1
  rw [EvS_stm]
  congr; funext k m2
  unfold dctAt
  generalize (l[i]? : Option D) = z
  cases z with
  | none => rfl
  | some y =>
    cases y <;> first
      | rfl
      | (rename_i ks vs
         show EvS (if (isTK k && Nat.blt ks.length LIM) = true then _ else _) K = ((_ ∧ _) ∧ _)
         cases isTK k <;> cases Nat.blt ks.length LIM <;> simp)
@[simp ↓] theorem EvS_aug (i : Nat) (o : BOp) (e : E) : EvS (evS cs w (.aug i o e) l m) K = Ev (get1 (l.getD i .unb) m) fun x m0 => Ev (evE cs true e l m0) fun y m1 => op (intOf x) fun a => op (intOf y) fun b => op (binop o (.int a) (.int b)) fun z => K.nx (l.set i z) m1 := by
  show EvS ((getV i l m).stm _) K = _
  have : getV i l m = get1 (l.getD i .unb) m := by
    unfold getV
    rw [List.getD_eq_getElem?_getD]
    cases l[i]? <;> rfl
  rw [EvS_stm, this]
  congr; funext x m0
  rw [EvS_stm]
  congr; funext y m1
  cases intOf x with
  | none => rfl
  | some a =>
    cases intOf y with
    | none => rfl
    | some b =>
      show EvS ((opt (binop o (.int a) (.int b)) m1).stm _) K = op (binop o (.int a) (.int b)) _
      rw [EvS_stm, Ev_opt]
      rfl
end
/-- a def's body -/
@[simp ↓] theorem Ev_runB (cs : CallS) (w : Nat) (f : Fn) (xs : List D) (m : Mem) (P : D → Mem → Prop) : Ev (runB cs w f xs m) P = (xs.length = f.np ∧ EvS (evSs cs w f.body (xs ++ List.replicate (f.ns - f.np) .unb) m) ⟨fun _ m => P .non m, P, fun _ _ => False, fun _ _ => False⟩) := by
  unfold runB
  by_cases h : xs.length = f.np
  · simp only [h, beq_self_eq_true, if_true, true_and]
    cases evSs cs w f.body (xs ++ List.replicate (f.ns - f.np) .unb) m <;> rfl
  · have : (xs.length == f.np) = false := by simpa using h
    simp only [this, h, false_and]
    rfl
/-! ### values, by their form -/
section
variable (b b2 : Bool) (i j : Int) (x y : Str) (xs ys : List D) (c k : Nat) (ns : List Str) (ks : List Nat) (m : Mem) (d e : D)
@[simp] theorem frz_unb : frz (.unb) = .unb := (Eq.refl _).trans rfl
@[simp] theorem frz_non : frz (.non) = .non := (Eq.refl _).trans rfl
@[simp] theorem get1_non : get1 (.non) m = .ok (.non) m := (Eq.refl _).trans rfl
@[simp] theorem bor1_non : bor1 (.non) m = .ok (.non) m := (Eq.refl _).trans rfl
@[simp] theorem fro_non : fro (.non) = true := (Eq.refl _).trans rfl
@[simp] theorem bnd_non : bnd (.non) = some (.non) := (Eq.refl _).trans rfl
@[simp] theorem frz_bl : frz (.bl b) = .bl b := (Eq.refl _).trans rfl
@[simp] theorem get1_bl : get1 (.bl b) m = .ok (.bl b) m := (Eq.refl _).trans rfl
@[simp] theorem bor1_bl : bor1 (.bl b) m = .ok (.bl b) m := (Eq.refl _).trans rfl
@[simp] theorem fro_bl : fro (.bl b) = true := (Eq.refl _).trans rfl
@[simp] theorem bnd_bl : bnd (.bl b) = some (.bl b) := (Eq.refl _).trans rfl
@[simp] theorem frz_int : frz (.int i) = .int i := (Eq.refl _).trans rfl
@[simp] theorem get1_int : get1 (.int i) m = .ok (.int i) m := (Eq.refl _).trans rfl
@[simp] theorem bor1_int : bor1 (.int i) m = .ok (.int i) m := (Eq.refl _).trans rfl
@[simp] theorem fro_int : fro (.int i) = true := (Eq.refl _).trans rfl
@[simp] theorem bnd_int : bnd (.int i) = some (.int i) := (Eq.refl _).trans rfl
@[simp] theorem frz_str : frz (.str x) = .str x := (Eq.refl _).trans rfl
@[simp] theorem get1_str : get1 (.str x) m = .ok (.str x) m := (Eq.refl _).trans rfl
@[simp] theorem bor1_str : bor1 (.str x) m = .ok (.str x) m := (Eq.refl _).trans rfl
@[simp] theorem fro_str : fro (.str x) = true := (Eq.refl _).trans rfl
@[simp] theorem bnd_str : bnd (.str x) = some (.str x) := (Eq.refl _).trans rfl
@[simp] theorem frz_tup : frz (.tup xs) = .tup xs := (Eq.refl _).trans rfl
@[simp] theorem get1_tup : get1 (.tup xs) m = .ok (.tup xs) m := (Eq.refl _).trans rfl
@[simp] theorem bor1_tup : bor1 (.tup xs) m = .ok (.tup xs) m := (Eq.refl _).trans rfl
@[simp] theorem fro_tup : fro (.tup xs) = true := (Eq.refl _).trans rfl
@[simp] theorem bnd_tup : bnd (.tup xs) = some (.tup xs) := (Eq.refl _).trans rfl
@[simp] theorem frz_lst : frz (.lst xs) = .lst xs := (Eq.refl _).trans rfl
@[simp] theorem get1_lst : get1 (.lst xs) m = .ok (.lst xs) m := (Eq.refl _).trans rfl
@[simp] theorem bor1_lst : bor1 (.lst xs) m = .ok (.lst xs) m := (Eq.refl _).trans rfl
@[simp] theorem fro_lst : fro (.lst xs) = true := (Eq.refl _).trans rfl
@[simp] theorem bnd_lst : bnd (.lst xs) = some (.lst xs) := (Eq.refl _).trans rfl
@[simp] theorem frz_own : frz (.own xs) = .lst xs := (Eq.refl _).trans rfl
@[simp] theorem frz_scr : frz (.scr xs) = .scr xs := (Eq.refl _).trans rfl
@[simp] theorem get1_scr : get1 (.scr xs) m = .ok (.scr xs) m := (Eq.refl _).trans rfl
@[simp] theorem bor1_scr : bor1 (.scr xs) m = .ok (.scr xs) m := (Eq.refl _).trans rfl
@[simp] theorem fro_scr : fro (.scr xs) = true := (Eq.refl _).trans rfl
@[simp] theorem bnd_scr : bnd (.scr xs) = some (.scr xs) := (Eq.refl _).trans rfl
@[simp] theorem frz_dct : frz (.dct xs ys) = .dct xs ys := (Eq.refl _).trans rfl
@[simp] theorem get1_dct : get1 (.dct xs ys) m = .ok (.dct xs ys) m := (Eq.refl _).trans rfl
@[simp] theorem bor1_dct : bor1 (.dct xs ys) m = .ok (.dct xs ys) m := (Eq.refl _).trans rfl
@[simp] theorem fro_dct : fro (.dct xs ys) = true := (Eq.refl _).trans rfl
@[simp] theorem bnd_dct : bnd (.dct xs ys) = some (.dct xs ys) := (Eq.refl _).trans rfl
@[simp] theorem frz_odct : frz (.odct xs ys) = .dct xs ys := (Eq.refl _).trans rfl
@[simp] theorem frz_set : frz (.set xs) = .set xs := (Eq.refl _).trans rfl
@[simp] theorem get1_set : get1 (.set xs) m = .ok (.set xs) m := (Eq.refl _).trans rfl
@[simp] theorem bor1_set : bor1 (.set xs) m = .ok (.set xs) m := (Eq.refl _).trans rfl
@[simp] theorem fro_set : fro (.set xs) = true := (Eq.refl _).trans rfl
@[simp] theorem bnd_set : bnd (.set xs) = some (.set xs) := (Eq.refl _).trans rfl
@[simp] theorem frz_itr : frz (.itr xs) = .itr xs := (Eq.refl _).trans rfl
@[simp] theorem get1_itr : get1 (.itr xs) m = .ok (.itr xs) m := (Eq.refl _).trans rfl
@[simp] theorem bor1_itr : bor1 (.itr xs) m = .ok (.itr xs) m := (Eq.refl _).trans rfl
@[simp] theorem fro_itr : fro (.itr xs) = true := (Eq.refl _).trans rfl
@[simp] theorem bnd_itr : bnd (.itr xs) = some (.itr xs) := (Eq.refl _).trans rfl
@[simp] theorem frz_obj : frz (.obj c ns ys) = .obj c ns ys := (Eq.refl _).trans rfl
@[simp] theorem get1_obj : get1 (.obj c ns ys) m = .ok (.obj c ns ys) m := (Eq.refl _).trans rfl
@[simp] theorem bor1_obj : bor1 (.obj c ns ys) m = .ok (.obj c ns ys) m := (Eq.refl _).trans rfl
@[simp] theorem fro_obj : fro (.obj c ns ys) = true := (Eq.refl _).trans rfl
@[simp] theorem bnd_obj : bnd (.obj c ns ys) = some (.obj c ns ys) := (Eq.refl _).trans rfl
@[simp] theorem frz_exc : frz (.exc c ns ys) = .exc c ns ys := (Eq.refl _).trans rfl
@[simp] theorem get1_exc : get1 (.exc c ns ys) m = .ok (.exc c ns ys) m := (Eq.refl _).trans rfl
@[simp] theorem bor1_exc : bor1 (.exc c ns ys) m = .ok (.exc c ns ys) m := (Eq.refl _).trans rfl
@[simp] theorem fro_exc : fro (.exc c ns ys) = true := (Eq.refl _).trans rfl
@[simp] theorem bnd_exc : bnd (.exc c ns ys) = some (.exc c ns ys) := (Eq.refl _).trans rfl
@[simp] theorem frz_ref : frz (.ref k) = .ref k := (Eq.refl _).trans rfl
@[simp] theorem get1_ref : get1 (.ref k) m = .ok (.ref k) m := (Eq.refl _).trans rfl
@[simp] theorem bor1_ref : bor1 (.ref k) m = .ok (.ref k) m := (Eq.refl _).trans rfl
@[simp] theorem fro_ref : fro (.ref k) = true := (Eq.refl _).trans rfl
@[simp] theorem bnd_ref : bnd (.ref k) = some (.ref k) := (Eq.refl _).trans rfl
@[simp] theorem frz_clo : frz (.clo k ks) = .clo k ks := (Eq.refl _).trans rfl
@[simp] theorem get1_clo : get1 (.clo k ks) m = .ok (.clo k ks) m := (Eq.refl _).trans rfl
@[simp] theorem bor1_clo : bor1 (.clo k ks) m = .ok (.clo k ks) m := (Eq.refl _).trans rfl
@[simp] theorem fro_clo : fro (.clo k ks) = true := (Eq.refl _).trans rfl
@[simp] theorem bnd_clo : bnd (.clo k ks) = some (.clo k ks) := (Eq.refl _).trans rfl
@[simp] theorem bor1_own : bor1 (.own xs) m = .ok (.lst xs) m := (Eq.refl _).trans rfl
@[simp] theorem bor1_odct : bor1 (.odct xs ys) m = .ok (.dct xs ys) m := (Eq.refl _).trans rfl
@[simp] theorem bnd_own : bnd (.own xs) = some (.own xs) := (Eq.refl _).trans rfl
@[simp] theorem ownOf_own : ownOf (.own xs) = some xs := (Eq.refl _).trans rfl
@[simp] theorem truth_non : truth .non = some false := (Eq.refl _).trans rfl
@[simp] theorem truth_bl : truth (.bl b) = some b := (Eq.refl _).trans rfl
@[simp] theorem truth_int : truth (.int i) = some (i != 0) := (Eq.refl _).trans rfl
@[simp] theorem truth_tup : truth (.tup xs) = some (!xs.isEmpty) := (Eq.refl _).trans rfl
@[simp] theorem truth_lst : truth (.lst xs) = some (!xs.isEmpty) := (Eq.refl _).trans rfl
@[simp] theorem truth_own : truth (.own xs) = some (!xs.isEmpty) := (Eq.refl _).trans rfl
@[simp] theorem add_int : binop .add (.int i) (.int j) = some (.int (i + j)) := (Eq.refl _).trans rfl
@[simp] theorem add_tup : binop .add (.tup xs) (.tup ys) = if Nat.ble (xs.length + ys.length) LIM then some (.tup (xs ++ ys)) else none := (Eq.refl _).trans rfl
@[simp] theorem add_ll : binop .add (.lst xs) (.lst ys) = if Nat.ble (xs.length + ys.length) LIM then some (.own (xs ++ ys)) else none := (Eq.refl _).trans rfl
@[simp] theorem add_ol : binop .add (.own xs) (.lst ys) = if Nat.ble (xs.length + ys.length) LIM then some (.own (xs ++ ys)) else none := (Eq.refl _).trans rfl
@[simp] theorem add_lo : binop .add (.lst xs) (.own ys) = if Nat.ble (xs.length + ys.length) LIM then some (.own (xs ++ ys)) else none := (Eq.refl _).trans rfl
@[simp] theorem add_oo : binop .add (.own xs) (.own ys) = if Nat.ble (xs.length + ys.length) LIM then some (.own (xs ++ ys)) else none := (Eq.refl _).trans rfl
@[simp] theorem add_str : binop .add (.str x) (.str y) = if Nat.ble (x.length + y.length) LIM then some (.str (x ++ y)) else none := (Eq.refl _).trans rfl
@[simp] theorem sub_int : binop .sub (.int i) (.int j) = some (.int (i - j)) := (Eq.refl _).trans rfl
@[simp] theorem mul_int : binop .mul (.int i) (.int j) = if mulOk i j then some (.int (i * j)) else none := (Eq.refl _).trans rfl
@[simp] theorem mul_tup : binop .mul (.tup xs) (.int j) = if repOk j xs then some (.tup (rep j xs)) else none := (Eq.refl _).trans rfl
@[simp] theorem mul_lst : binop .mul (.lst xs) (.int j) = if repOk j xs then some (.own (rep j xs)) else none := (Eq.refl _).trans rfl
@[simp] theorem mul_own : binop .mul (.own xs) (.int j) = if repOk j xs then some (.own (rep j xs)) else none := (Eq.refl _).trans rfl
@[simp] theorem fdiv_int : binop .fdiv (.int i) (.int j) = if divOk j then some (.int (i.fdiv j)) else none := (Eq.refl _).trans rfl
@[simp] theorem mod_int : binop .mod (.int i) (.int j) = if j != 0 then some (.int (i.fmod j)) else none := (Eq.refl _).trans rfl
@[simp] theorem pow_int : binop .pow (.int i) (.int j) = if powOk i j then some (.int (i ^ j.toNat)) else none := (Eq.refl _).trans rfl
@[simp] theorem cmp_eq : cmpop .eq d e = if plain 40 d && plain 40 e then some (.bl (eqv d e)) else none := (Eq.refl _).trans rfl
@[simp] theorem cmp_ne : cmpop .ne d e = if plain 40 d && plain 40 e then some (.bl (!eqv d e)) else none := (Eq.refl _).trans rfl
@[simp] theorem cmp_lt : cmpop .lt (.int i) (.int j) = some (.bl (decide (i < j))) := (Eq.refl _).trans rfl
@[simp] theorem cmp_le : cmpop .le (.int i) (.int j) = some (.bl (decide (i ≤ j))) := (Eq.refl _).trans rfl
@[simp] theorem cmp_gt : cmpop .gt (.int i) (.int j) = some (.bl (decide (j < i))) := (Eq.refl _).trans rfl
@[simp] theorem cmp_ge : cmpop .ge (.int i) (.int j) = some (.bl (decide (j ≤ i))) := (Eq.refl _).trans rfl
@[simp] theorem cmp_is_non : cmpop .is d .non = some (.bl (isNon d)) := by cases d <;> rfl
@[simp] theorem cmp_isnot_non : cmpop .isnot d .non = some (.bl (!isNon d)) := by cases d <;> rfl
@[simp] theorem cmp_is_bl : cmpop .is (.bl b) (.bl b2) = some (.bl (b == b2)) := (Eq.refl _).trans rfl
@[simp] theorem cmp_isnot_bl : cmpop .isnot (.bl b) (.bl b2) = some (.bl (!(b == b2))) := (Eq.refl _).trans rfl
@[simp] theorem cmp_in_tup : cmpop .inn d (.tup xs) = if plain 40 d && plains 40 xs then some (.bl (xs.any fun y => eqv y d)) else none := (Eq.refl _).trans rfl
@[simp] theorem cmp_in_lst : cmpop .inn d (.lst xs) = if plain 40 d && plains 40 xs then some (.bl (xs.any fun y => eqv y d)) else none := (Eq.refl _).trans rfl
@[simp] theorem cmp_in_own : cmpop .inn d (.own xs) = if plain 40 d && plains 40 xs then some (.bl (xs.any fun y => eqv y d)) else none := (Eq.refl _).trans rfl
@[simp] theorem cmp_notin_tup : cmpop .notin d (.tup xs) = if plain 40 d && plains 40 xs then some (.bl (!xs.any fun y => eqv y d)) else none := (Eq.refl _).trans rfl
@[simp] theorem cmp_notin_lst : cmpop .notin d (.lst xs) = if plain 40 d && plains 40 xs then some (.bl (!xs.any fun y => eqv y d)) else none := (Eq.refl _).trans rfl
@[simp] theorem cmp_notin_own : cmpop .notin d (.own xs) = if plain 40 d && plains 40 xs then some (.bl (!xs.any fun y => eqv y d)) else none := (Eq.refl _).trans rfl
@[simp] theorem cmp_in_dct : cmpop .inn d (.dct xs ys) = if isTK d then some (.bl (xs.any fun k => eqv k d)) else none := (Eq.refl _).trans rfl
@[simp] theorem isNon_non : isNon .non = true := (Eq.refl _).trans rfl
@[simp] theorem items_tup : items (.tup xs) = some xs := (Eq.refl _).trans rfl
@[simp] theorem items_lst : items (.lst xs) = some xs := (Eq.refl _).trans rfl
@[simp] theorem items_own : items (.own xs) = some xs := (Eq.refl _).trans rfl
@[simp] theorem items_scr : items (.scr xs) = some xs := (Eq.refl _).trans rfl
@[simp] theorem items_itr : items (.itr xs) = some xs := (Eq.refl _).trans rfl
@[simp] theorem intOf_int : intOf (.int i) = some i := (Eq.refl _).trans rfl
@[simp] theorem listOf_lst : listOf (.lst xs) = some xs := (Eq.refl _).trans rfl
@[simp] theorem listOf_own : listOf (.own xs) = some xs := (Eq.refl _).trans rfl
@[simp] theorem part_unb : part .unb = some none := (Eq.refl _).trans rfl
@[simp] theorem part_int : part (.int i) = some (some i) := (Eq.refl _).trans rfl
@[simp] theorem index_tup : index (.tup xs) (.int i) m = opt (nth xs i) m := (Eq.refl _).trans rfl
@[simp] theorem index_lst : index (.lst xs) (.int i) m = opt (nth xs i) m := (Eq.refl _).trans rfl
@[simp] theorem index_own : index (.own xs) (.int i) m = opt (nth xs i) m := (Eq.refl _).trans rfl
def idxC (c : Option Cell) (i : Int) (m : Mem) : Res D := match c with
  | some (.lst xs) => opt (nth xs i) m
  | _ => .bad
@[simp] theorem index_ref : index (.ref k) (.int i) m = idxC (m[k]?) i m := (Eq.refl _).trans rfl
@[simp] theorem idxC_lst : idxC (some (.lst xs)) i m = opt (nth xs i) m := (Eq.refl _).trans rfl
def celC (k : Nat) (c : Option Cell) : Option (Nat × List D) := match c with
  | some (.lst xs) => some (k, xs)
  | _ => none
@[simp] theorem cellAt_ref : cellAt (.ref k) m = celC k (m[k]?) := (Eq.refl _).trans rfl
@[simp] theorem celC_lst : celC k (some (.lst xs)) = some (k, xs) := (Eq.refl _).trans rfl

@[simp] theorem sl_tup_uu : sliced (.tup xs) (.unb) (.unb) = some (.tup (cut (none) (none) xs)) := (Eq.refl _).trans rfl
@[simp] theorem sl_tup_ui : sliced (.tup xs) (.unb) (.int j) = some (.tup (cut (none) (some j) xs)) := (Eq.refl _).trans rfl
@[simp] theorem sl_tup_iu : sliced (.tup xs) (.int i) (.unb) = some (.tup (cut (some i) (none) xs)) := (Eq.refl _).trans rfl
@[simp] theorem sl_tup_ii : sliced (.tup xs) (.int i) (.int j) = some (.tup (cut (some i) (some j) xs)) := (Eq.refl _).trans rfl
@[simp] theorem sl_lst_uu : sliced (.lst xs) (.unb) (.unb) = some (.own (cut (none) (none) xs)) := (Eq.refl _).trans rfl
@[simp] theorem sl_lst_ui : sliced (.lst xs) (.unb) (.int j) = some (.own (cut (none) (some j) xs)) := (Eq.refl _).trans rfl
@[simp] theorem sl_lst_iu : sliced (.lst xs) (.int i) (.unb) = some (.own (cut (some i) (none) xs)) := (Eq.refl _).trans rfl
@[simp] theorem sl_lst_ii : sliced (.lst xs) (.int i) (.int j) = some (.own (cut (some i) (some j) xs)) := (Eq.refl _).trans rfl
@[simp] theorem sl_own_uu : sliced (.own xs) (.unb) (.unb) = some (.own (cut (none) (none) xs)) := (Eq.refl _).trans rfl
@[simp] theorem sl_own_ui : sliced (.own xs) (.unb) (.int j) = some (.own (cut (none) (some j) xs)) := (Eq.refl _).trans rfl
@[simp] theorem sl_own_iu : sliced (.own xs) (.int i) (.unb) = some (.own (cut (some i) (none) xs)) := (Eq.refl _).trans rfl
@[simp] theorem sl_own_ii : sliced (.own xs) (.int i) (.int j) = some (.own (cut (some i) (some j) xs)) := (Eq.refl _).trans rfl
@[simp] theorem sl_scr_uu : sliced (.scr xs) (.unb) (.unb) = some (.own (cut (none) (none) xs)) := (Eq.refl _).trans rfl
@[simp] theorem sl_scr_ui : sliced (.scr xs) (.unb) (.int j) = some (.own (cut (none) (some j) xs)) := (Eq.refl _).trans rfl
@[simp] theorem sl_scr_iu : sliced (.scr xs) (.int i) (.unb) = some (.own (cut (some i) (none) xs)) := (Eq.refl _).trans rfl
@[simp] theorem sl_scr_ii : sliced (.scr xs) (.int i) (.int j) = some (.own (cut (some i) (some j) xs)) := (Eq.refl _).trans rfl
@[simp] theorem len_tup : prim .len [.tup xs] = some (.int xs.length) := (Eq.refl _).trans rfl
@[simp] theorem len_lst : prim .len [.lst xs] = some (.int xs.length) := (Eq.refl _).trans rfl
@[simp] theorem len_own : prim .len [.own xs] = some (.int xs.length) := (Eq.refl _).trans rfl
@[simp] theorem len_dct : prim .len [.dct xs ys] = some (.int xs.length) := (Eq.refl _).trans rfl
@[simp] theorem len_odct : prim .len [.odct xs ys] = some (.int xs.length) := (Eq.refl _).trans rfl
@[simp] theorem len_str : prim .len [.str x] = if Nat.ble x.length LIM then some (.int x.length) else none := (Eq.refl _).trans rfl
@[simp] theorem prim_abs : prim .abs [.int i] = some (.int (if i < 0 then -i else i)) := (Eq.refl _).trans rfl
@[simp] theorem toInt_int : prim .toInt [.int i] = some (.int i) := (Eq.refl _).trans rfl
@[simp] theorem toInt_bl : prim .toInt [.bl b] = some (.int (if b then 1 else 0)) := (Eq.refl _).trans rfl
@[simp] theorem toList_tup : prim .toList [.tup xs] = some (.own xs) := (Eq.refl _).trans rfl
@[simp] theorem toList_lst : prim .toList [.lst xs] = some (.own xs) := (Eq.refl _).trans rfl
@[simp] theorem toList_own : prim .toList [.own xs] = some (.own xs) := (Eq.refl _).trans rfl
@[simp] theorem toTuple_tup : prim .toTuple [.tup xs] = some (.tup xs) := (Eq.refl _).trans rfl
@[simp] theorem toTuple_lst : prim .toTuple [.lst xs] = some (.tup xs) := (Eq.refl _).trans rfl
@[simp] theorem toTuple_own : prim .toTuple [.own xs] = some (.tup xs) := (Eq.refl _).trans rfl
@[simp] theorem all_lst : prim .all [.lst xs] = (bools xs).map fun bs => .bl (bs.all id) := (Eq.refl _).trans rfl
@[simp] theorem all_own : prim .all [.own xs] = (bools xs).map fun bs => .bl (bs.all id) := (Eq.refl _).trans rfl
@[simp] theorem any_lst : prim .any [.lst xs] = (bools xs).map fun bs => .bl (bs.any id) := (Eq.refl _).trans rfl
@[simp] theorem any_own : prim .any [.own xs] = (bools xs).map fun bs => .bl (bs.any id) := (Eq.refl _).trans rfl
@[simp] theorem range_1 : prim .range [.int i] = if decide (-(2 ^ 60) ≤ i) && decide (i < 2 ^ 60) then some (.itr (upTo 0 i.toNat)) else none := (Eq.refl _).trans rfl
@[simp] theorem range_2 : prim .range [.int i, .int j] = if decide (-(2 ^ 60) ≤ i) && decide (i < 2 ^ 60) && decide (-(2 ^ 60) ≤ j) && decide (j < 2 ^ 60) then some (.itr (upTo i (j - i).toNat)) else none := (Eq.refl _).trans rfl
@[simp] theorem isinst (t : Ty) : prim (.isinst t) [d] = (isTy t d).map .bl := (Eq.refl _).trans rfl
@[simp] theorem ty_int_non : isTy .int (.non) = some false := (Eq.refl _).trans rfl
@[simp] theorem ty_int_bl : isTy .int (.bl b) = some true := (Eq.refl _).trans rfl
@[simp] theorem ty_int_int : isTy .int (.int i) = some true := (Eq.refl _).trans rfl
@[simp] theorem ty_int_str : isTy .int (.str x) = some false := (Eq.refl _).trans rfl
@[simp] theorem ty_int_tup : isTy .int (.tup xs) = some false := (Eq.refl _).trans rfl
@[simp] theorem ty_int_lst : isTy .int (.lst xs) = some false := (Eq.refl _).trans rfl
@[simp] theorem ty_int_own : isTy .int (.own xs) = some false := (Eq.refl _).trans rfl
@[simp] theorem ty_bool_non : isTy .bool (.non) = some false := (Eq.refl _).trans rfl
@[simp] theorem ty_bool_bl : isTy .bool (.bl b) = some true := (Eq.refl _).trans rfl
@[simp] theorem ty_bool_int : isTy .bool (.int i) = some false := (Eq.refl _).trans rfl
@[simp] theorem ty_bool_str : isTy .bool (.str x) = some false := (Eq.refl _).trans rfl
@[simp] theorem ty_bool_tup : isTy .bool (.tup xs) = some false := (Eq.refl _).trans rfl
@[simp] theorem ty_bool_lst : isTy .bool (.lst xs) = some false := (Eq.refl _).trans rfl
@[simp] theorem ty_bool_own : isTy .bool (.own xs) = some false := (Eq.refl _).trans rfl
@[simp] theorem ty_str_non : isTy .str (.non) = some false := (Eq.refl _).trans rfl
@[simp] theorem ty_str_bl : isTy .str (.bl b) = some false := (Eq.refl _).trans rfl
@[simp] theorem ty_str_int : isTy .str (.int i) = some false := (Eq.refl _).trans rfl
@[simp] theorem ty_str_str : isTy .str (.str x) = some true := (Eq.refl _).trans rfl
@[simp] theorem ty_str_tup : isTy .str (.tup xs) = some false := (Eq.refl _).trans rfl
@[simp] theorem ty_str_lst : isTy .str (.lst xs) = some false := (Eq.refl _).trans rfl
@[simp] theorem ty_str_own : isTy .str (.own xs) = some false := (Eq.refl _).trans rfl
@[simp] theorem ty_tuple_non : isTy .tuple (.non) = some false := (Eq.refl _).trans rfl
@[simp] theorem ty_tuple_bl : isTy .tuple (.bl b) = some false := (Eq.refl _).trans rfl
@[simp] theorem ty_tuple_int : isTy .tuple (.int i) = some false := (Eq.refl _).trans rfl
@[simp] theorem ty_tuple_str : isTy .tuple (.str x) = some false := (Eq.refl _).trans rfl
@[simp] theorem ty_tuple_tup : isTy .tuple (.tup xs) = some true := (Eq.refl _).trans rfl
@[simp] theorem ty_tuple_lst : isTy .tuple (.lst xs) = some false := (Eq.refl _).trans rfl
@[simp] theorem ty_tuple_own : isTy .tuple (.own xs) = some false := (Eq.refl _).trans rfl
@[simp] theorem ty_list_non : isTy .list (.non) = some false := (Eq.refl _).trans rfl
@[simp] theorem ty_list_bl : isTy .list (.bl b) = some false := (Eq.refl _).trans rfl
@[simp] theorem ty_list_int : isTy .list (.int i) = some false := (Eq.refl _).trans rfl
@[simp] theorem ty_list_str : isTy .list (.str x) = some false := (Eq.refl _).trans rfl
@[simp] theorem ty_list_tup : isTy .list (.tup xs) = some false := (Eq.refl _).trans rfl
@[simp] theorem ty_list_lst : isTy .list (.lst xs) = some true := (Eq.refl _).trans rfl
@[simp] theorem ty_list_own : isTy .list (.own xs) = some true := (Eq.refl _).trans rfl
@[simp] theorem put_nm (l : Loc) : (Tg.nm k).put d l = some (l.set k d) := (Eq.refl _).trans rfl
@[simp] theorem put_tp (l : Loc) : (Tg.tp ks).put (.tup xs) l = setAll ks xs l := (Eq.refl _).trans rfl
@[simp] theorem setAll_nil (l : Loc) : setAll [] [] l = some l := (Eq.refl _).trans rfl
@[simp] theorem setAll_cons (l : Loc) : setAll (k :: ks) (d :: xs) l = setAll ks xs (l.set k d) := (Eq.refl _).trans rfl
@[simp] theorem clear_nm (l : Loc) : (Tg.nm k).clear l = l.set k .unb := (Eq.refl _).trans rfl
@[simp] theorem clear_tp (l : Loc) : (Tg.tp ks).clear l = clearAll ks l := (Eq.refl _).trans rfl
@[simp] theorem clearAll_nil (l : Loc) : clearAll [] l = l := (Eq.refl _).trans rfl
@[simp] theorem clearAll_cons (l : Loc) : clearAll (k :: ks) l = (clearAll ks l).set k .unb := (Eq.refl _).trans rfl
def ownD (o : Option D) : Option (List D) := match o with
  | some (.own xs) => some xs
  | _ => none
@[simp] theorem ownAt_ix (l : Loc) : ownAt k l = ownD (l[k]?) := by
  unfold ownAt ownD
  cases l[k]? with
  | none => rfl
  | some d => cases d <;> rfl
@[simp] theorem ownD_own : ownD (some (.own xs)) = some xs := (Eq.refl _).trans rfl
def dctD (o : Option D) : Option (List D × List D) := match o with
  | some (.odct xs ys) => some (xs, ys)
  | _ => none
@[simp] theorem dctAt_ix (l : Loc) : dctAt k l = dctD (l[k]?) := by
  unfold dctAt dctD
  cases l[k]? with
  | none => rfl
  | some d => cases d <;> rfl
@[simp] theorem dctD_odct : dctD (some (.odct xs ys)) = some (xs, ys) := (Eq.refl _).trans rfl
@[simp] theorem isTK_tup : isTK (.tup xs) = xs.all isKey := (Eq.refl _).trans rfl
@[simp] theorem isKey_int : isKey (.int i) = true := (Eq.refl _).trans rfl
@[simp] theorem isKey_str : isKey (.str x) = true := (Eq.refl _).trans rfl
end
@[simp] theorem get1_of {d : D} {m : Mem} (h : fro d = true) : get1 d m = .ok d m := get1_fro h
@[simp] theorem bor1_of {d : D} {m : Mem} (h : fro d = true) : bor1 d m = .ok d m := bor1_fro h
@[simp] theorem frz_of {d : D} (h : fro d = true) : frz d = d := frz_fro h

/-! ### sizes, indexes -/
@[simp] theorem LIM_eq : LIM = 1000000 := (Eq.refl _).trans rfl
@[simp] theorem ble_lim (a : Nat) : (Nat.ble a LIM = true) = (a ≤ 1000000) := by rw [Nat.ble_eq]; rfl
@[simp] theorem blt_lim (a : Nat) : (Nat.blt a LIM = true) = (a < 1000000) := by rw [Nat.blt_eq]; rfl
@[simp] theorem sz_iff {α : Type} (xs : List α) : (sz xs = true) = (xs.length ≤ 1000000) := ble_lim _
theorem mulOk_64 {i j : Int} (h1 : i.natAbs < 2 ^ 256) (h2 : j.natAbs < 2 ^ 256) : mulOk i j = true := by
  have l1 : i.natAbs.log2 ≤ 256 := by
    by_cases z : i.natAbs = 0
    · rw [z]; decide
    · exact Nat.le_of_lt ((Nat.log2_lt z).mpr h1)
  have l2 : j.natAbs.log2 ≤ 256 := by
    by_cases z : j.natAbs = 0
    · rw [z]; decide
    · exact Nat.le_of_lt ((Nat.log2_lt z).mpr h2)
  show Nat.blt _ _ = true
  rw [Nat.blt_eq]; omega
theorem divOk_of {j : Int} (h0 : j ≠ 0) (h1 : j.natAbs < 2 ^ 256) : divOk j = true := by
  have l1 : j.natAbs.log2 ≤ 256 := Nat.le_of_lt ((Nat.log2_lt (by omega)).mpr h1)
  unfold divOk
  rw [Bool.and_eq_true, Nat.blt_eq]
  exact ⟨by simpa using h0, by omega⟩
theorem nth_lit (xs : List D) (k : Nat) (h : k < xs.length) : nth xs (k : Int) = xs[k]? := by
  unfold nth L2.atI L2.ixN
  rw [if_pos (by omega), if_pos (by omega)]
  rfl
@[simp] theorem nth_0 (a : D) (l : List D) : nth (a :: l) 0 = some a := nth_lit (a :: l) 0 (by simp)
@[simp] theorem nth_1 (a b : D) (l : List D) : nth (a :: b :: l) 1 = some b := nth_lit (a :: b :: l) 1 (by simp)
@[simp] theorem nth_2 (a b c : D) (l : List D) : nth (a :: b :: c :: l) 2 = some c := nth_lit (a :: b :: c :: l) 2 (by simp)
@[simp] theorem nth_3 (a b c d : D) (l : List D) : nth (a :: b :: c :: d :: l) 3 = some d := nth_lit (a :: b :: c :: d :: l) 3 (by simp)
theorem nth_nat {xs : List D} {i : Int} (h0 : 0 ≤ i) (h1 : i < xs.length) : nth xs i = xs[i.toNat]? := by
  unfold nth L2.atI L2.ixN
  rw [if_pos h0, if_pos h1]; rfl
theorem nth_last (xs : List D) : nth xs (-1) = xs[xs.length - 1]? := by
  unfold nth L2.atI L2.ixN
  rw [if_neg (by decide)]
  cases xs with
  | nil => rfl
  | cons a l =>
    rw [if_pos (by simp; omega)]
    show (a :: l)[((-1 : Int) + ((a :: l).length : Int)).toNat]? = _
    congr 1
    rw [List.length_cons]; omega
@[simp] theorem ixAt_0 (n : Nat) : ixAt 0 (n + 1) = some 0 := by simp [ixAt, L2.ixN]
@[simp] theorem ixAt_1 (n : Nat) : ixAt 1 (n + 1 + 1) = some 1 := by simp [ixAt, L2.ixN]; omega
@[simp] theorem ixAt_2 (n : Nat) : ixAt 2 (n + 1 + 1 + 1) = some 2 := by simp [ixAt, L2.ixN]; omega
@[simp] theorem ixAt_3 (n : Nat) : ixAt 3 (n + 1 + 1 + 1 + 1) = some 3 := by simp [ixAt, L2.ixN]; omega
theorem ixAt_nat {n : Nat} {i : Int} (h0 : 0 ≤ i) (h1 : i < n) : ixAt i n = some i.toNat := by
  unfold ixAt L2.ixN
  rw [if_pos h0, if_pos h1]
theorem cut_from {α : Type} (xs : List α) (k : Nat) : cut (some (k : Int)) none xs = xs.drop k := by
  unfold cut
  rw [HT.sIx_nat, HT.sIx_none]
  by_cases h : k ≤ xs.length
  · rw [Nat.min_eq_left h, List.take_of_length_le (by simp)]
  · rw [Nat.min_eq_right (by omega), List.drop_eq_nil_of_le (Nat.le_refl _), List.drop_eq_nil_of_le (by omega), List.take_nil]
theorem cut_to {α : Type} (xs : List α) (k : Nat) : cut none (some (k : Int)) xs = xs.take k := by
  unfold cut
  rw [HT.sIx_nat, HT.sIx_none, List.drop_zero, Nat.sub_zero, Nat.min_def]
  split
  · rfl
  · rw [List.take_of_length_le (Nat.le_refl _), List.take_of_length_le (by omega)]
theorem cut_but {α : Type} (xs : List α) : cut none (some (-1 : Int)) xs = xs.dropLast := by
  unfold cut
  rw [HT.sIx_none, List.drop_zero, Nat.sub_zero, List.dropLast_eq_take]
  congr 1
  show (if (-1 : Int) < 0 then ((-1 : Int) + (xs.length : Int)).toNat else min (-1 : Int).toNat xs.length) = _
  rw [if_pos (by decide)]; omega
@[simp] theorem cut_1 {α : Type} (x : α) (xs : List α) : cut (some (1 : Int)) none (x :: xs) = xs := cut_from (x :: xs) 1
@[simp] theorem cut_2 {α : Type} (xs : List α) : cut none (some (2 : Int)) xs = xs.take 2 := cut_to xs 2
@[simp] theorem cut_m1 {α : Type} (xs : List α) : cut none (some (-1 : Int)) xs = xs.dropLast := cut_but xs

/-! ### comparisons of plain data -/
@[simp] theorem plain_int (n : Nat) (i : Int) : plain n (.int i) = true := by cases n <;> rfl
@[simp] theorem plain_bl (n : Nat) (i : Bool) : plain n (.bl i) = true := by cases n <;> rfl
@[simp] theorem plain_non (n : Nat) : plain n .non = true := by cases n <;> rfl
@[simp] theorem plain_str (n : Nat) (x : Str) : plain n (.str x) = PyData.strOk x := by cases n <;> rfl
@[simp] theorem plain_deep : plain DEEP = plain 40 := (Eq.refl _).trans rfl
@[simp] theorem plains_deep : plains DEEP = plains 40 := (Eq.refl _).trans rfl
@[simp] theorem plain_tup (n : Nat) (xs : List D) : plain (n + 1) (.tup xs) = plains n xs := (Eq.refl _).trans rfl
@[simp] theorem plain_lst (n : Nat) (xs : List D) : plain (n + 1) (.lst xs) = plains n xs := (Eq.refl _).trans rfl
@[simp] theorem plain_own (n : Nat) (xs : List D) : plain (n + 1) (.own xs) = plains n xs := (Eq.refl _).trans rfl
@[simp] theorem plains_nil (n : Nat) : plains n [] = true := (Eq.refl _).trans rfl
@[simp] theorem plains_cons (n : Nat) (x : D) (xs : List D) : plains n (x :: xs) = (plain n x && plains n xs) := (Eq.refl _).trans rfl
@[simp] theorem eqv_int (i j : Int) : eqv (.int i) (.int j) = decide (i = j) := by simp [eqv]; rfl
@[simp] theorem eqv_str (i j : Str) : eqv (.str i) (.str j) = decide (i = j) := by simp [eqv]; rfl
@[simp] theorem eqv_tup (i j : List D) : eqv (.tup i) (.tup j) = eqvs i j := (Eq.refl _).trans rfl
@[simp] theorem eqvs_nil : eqvs [] [] = true := (Eq.refl _).trans rfl
@[simp] theorem eqvs_cons (x y : D) (xs ys : List D) : eqvs (x :: xs) (y :: ys) = (eqv x y && eqvs xs ys) := (Eq.refl _).trans rfl

/-! ### loops -/
/-- a loop with an invariant by the number of items left behind -/
theorem for_inv {f : D → Loc → Mem → ResS} {K : Fin} (I : Nat → Loc → Mem → Prop) : ∀ (xs : List D) (l : Loc) (m : Mem), I 0 l m →
    (∀ (i : Nat) (x : D) (l : Loc) (m : Mem), xs[i]? = some x → I i l m → EvS (f x l m) ⟨I (i + 1), K.rt, K.nx, I (i + 1)⟩) → (∀ l m, I xs.length l m → K.nx l m) → EvS (forGo f xs l m) K
  | [], l, m, h0, _, h2 => h2 l m h0
  | x :: xs, l, m, h0, h1, h2 => by
    have t := h1 0 x l m rfl h0
    have rec9 : ∀ l m, I 1 l m → EvS (forGo f xs l m) K := fun l m h => for_inv (fun i => I (i + 1)) xs l m h (fun i x l m e h => h1 (i + 1) x l m (by simpa using e) h) h2
    show EvS ((f x l m).turn (forGo f xs)) K
    cases hr : f x l m <;> rw [hr] at t
    · exact rec9 _ _ t
    · exact t
    · exact t
    · exact rec9 _ _ t
    · exact t
    · exact t
/-- a while loop: n turns at most, I by the turns that are left -/
theorem while_inv {c : Loc → Mem → Res D} {f : Loc → Mem → ResS} {K : Fin} (I : Nat → Loc → Mem → Prop) (step : ∀ n l m, I n l m → Ev (c l m) fun x m1 => br (truth x) (0 < n ∧ EvS (f l m1) ⟨I (n - 1), K.rt, K.nx, I (n - 1)⟩) (K.nx l m1)) :
    ∀ (w n : Nat) (l : Loc) (m : Mem), I n l m → n < w → EvS (whileGo c f w l m) K
  | 0, n, l, m, _, hw => absurd hw (Nat.not_lt_zero _)
  | w + 1, n, l, m, h, hw => by
    have t := step n l m h
    show EvS ((c l m).stm _) K
    rw [EvS_stm]
    refine t.mono fun x m1 hb => ?_
    cases ht : truth x with
    | none => rw [ht] at hb; exact hb.elim
    | some b =>
      rw [ht] at hb
      cases b with
      | false => exact hb
      | true =>
        obtain ⟨h0, hb⟩ := (hb : 0 < n ∧ _)
        show EvS ((f l m1).turn (whileGo c f w)) K
        have rec9 : ∀ l m, I (n - 1) l m → EvS (whileGo c f w l m) K := fun l m h => while_inv I step w (n - 1) l m h (by omega)
        cases hr : f l m1 <;> rw [hr] at hb
        · exact rec9 _ _ hb
        · exact hb
        · exact hb
        · exact rec9 _ _ hb
        · exact hb
        · exact hb
/-- a comprehension with an invariant: the items behind, the new list -/
theorem comp_inv {f : D → Mem → Res (Option D)} {P : List D → Mem → Prop} (I : Nat → List D → Mem → Prop) : ∀ (xs : List D) (acc : List D) (m : Mem), acc.length + xs.length ≤ 1000000 → I 0 acc m →
    (∀ (i : Nat) (x : D) (acc : List D) (m : Mem), xs[i]? = some x → I i acc m → Ev (f x m) fun o m1 => match o with | some v => I (i + 1) (acc ++ [frz v]) m1 | none => I (i + 1) acc m1) → (∀ acc m, I xs.length acc m → P acc m) → Ev (compGo f xs acc m) P
  | [], acc, m, _, h0, _, h2 => h2 acc m h0
  | x :: xs, acc, m, hl, h0, h1, h2 => by
    rw [List.length_cons] at hl
    show Ev ((f x m).bind _) P
    rw [Ev_bind]
    refine (h1 0 x acc m rfl h0).mono fun o m1 ho => ?_
    cases o with
    | none => exact comp_inv (fun i => I (i + 1)) xs acc m1 (by omega) ho (fun i x acc m e h => h1 (i + 1) x acc m (by simpa using e) h) h2
    | some v =>
      show Ev (if Nat.blt acc.length LIM = true then compGo f xs (acc ++ [frz v]) m1 else .bad) P
      rw [if_pos (by rw [blt_lim]; omega)]
      exact comp_inv (fun i => I (i + 1)) xs (acc ++ [frz v]) m1 (by simp; omega) ho (fun i x acc m e h => h1 (i + 1) x acc m (by simpa using e) h) h2
/-- a comprehension that changes nothing: each item its value -/
theorem comp_map {f : D → Mem → Res (Option D)} {P : List D → Mem → Prop} {m : Mem} (g : D → D) (xs : List D) (hl : xs.length ≤ 1000000) (h : ∀ x ∈ xs, f x m = .ok (some (g x)) m) (hP : P (xs.map fun x => frz (g x)) m) : Ev (compGo f xs [] m) P := by
  refine comp_inv (fun i acc m' => m' = m ∧ acc = (xs.take i).map fun x => frz (g x)) xs [] m (by simpa using hl) ⟨rfl, by simp⟩ (fun i x acc m' e h2 => ?_) fun acc m' h2 => ?_
  · obtain ⟨rfl, rfl⟩ := h2
    rw [h x (List.mem_of_getElem? e)]
    refine ⟨rfl, ?_⟩
    have hi := (List.getElem?_eq_some_iff.mp e)
    obtain ⟨hi, rfl⟩ := hi
    rw [List.take_succ_eq_append_getElem hi, List.map_append]
    rfl
  · obtain ⟨rfl, rfl⟩ := h2
    rw [List.take_length]; exact hP

/-! ### the laws' source of numbers -/
def f_law_source : Fn := ⟨1, 3,
 [.set 1 (.bin .add (.lit (.int 12018)) (.bin .mul (.lit (.int 67)) (.prim .len [(.slc (.var 0) (.lit .unb) (.lit (.int 63)))]))),
 .loop (.nm 2) (.slc (.var 0) (.lit .unb) (.lit (.int 63)))
 [.set 1 (.bin .mod (.prim .toInt [(.bin .add (.bin .add (.bin .mul (.var 1) (.lit (.int 47777))) (.bin .mod (.prim .toInt [(.var 2)]) (.lit (.int 2147483497)))) (.lit (.int 43)))]) (.lit (.int 2147483497)))],
 .ret (.lst [(.prim .toList [(.slc (.var 0) (.lit .unb) (.lit (.int 63)))]), (.lit (.int 0)), (.lit (.int 0)), (.var 1)])]⟩
def drawHd : S :=
 .ite (.and (.cmp .eq (.idx (.var 0) (.lit (.int 2))) (.lit (.int 0))) (.cmp .lt (.idx (.var 0) (.lit (.int 1))) (.prim .len [(.idx (.var 0) (.lit (.int 0)))])))
 [.set 3 (.idx (.idx (.var 0) (.lit (.int 0))) (.idx (.var 0) (.lit (.int 1)))),
 .setr (.var 0) (.lit (.int 1)) (.bin .add (.idx (.var 0) (.lit (.int 1))) (.lit (.int 1))),
 .ite (.or (.cmp .ge (.var 3) (.bin .pow (.lit (.int 10)) (.lit (.int 18)))) (.cmp .le (.var 3) (.bin .sub (.lit (.int 0)) (.bin .pow (.lit (.int 10)) (.lit (.int 18))))))
 [.setr (.var 0) (.lit (.int 2)) (.prim .abs [(.var 3)])]
 [.setr (.var 0) (.lit (.int 3)) (.bin .mod (.prim .toInt [(.bin .add (.bin .add (.bin .mul (.idx (.var 0) (.lit (.int 3))) (.lit (.int 40699))) (.bin .mul (.bin .mod (.prim .toInt [(.var 3)]) (.lit (.int 2147483497))) (.lit (.int 71)))) (.idx (.var 0) (.lit (.int 1))))]) (.lit (.int 2147483497)))]]
 []
def drawTl : List S :=
 [.ite (.cmp .gt (.idx (.var 0) (.lit (.int 2))) (.lit (.int 0)))
 [.set 4 (.bin .mod (.prim .toInt [(.idx (.var 0) (.lit (.int 2)))]) (.var 1)),
 .setr (.var 0) (.lit (.int 2)) (.bin .fdiv (.idx (.var 0) (.lit (.int 2))) (.var 1)),
 .ret (.var 4)]
 [],
 .set 2 (.idx (.var 0) (.lit (.int 3))),
 .setr (.var 0) (.lit (.int 3)) (.bin .mod (.prim .toInt [(.bin .add (.bin .add (.bin .mul (.var 2) (.var 2)) (.bin .mul (.var 2) (.lit (.int 40127)))) (.lit (.int 70003)))]) (.lit (.int 2147483497))),
 .ret (.bin .mod (.prim .toInt [(.bin .add (.bin .fdiv (.idx (.var 0) (.lit (.int 3))) (.lit (.int 61))) (.bin .mul (.bin .mod (.prim .toInt [(.idx (.var 0) (.lit (.int 3)))]) (.lit (.int 8117))) (.lit (.int 233))))]) (.var 1))]
def f_law_draw : Fn := ⟨2, 5, drawHd :: drawTl⟩

/-- the cell l holds a source: its numbers, how many are read, what is left of a great one, the seed -/
def srcCell (xs : List Int) (a b s : Int) : Cell := .lst [.lst (xs.map .int), .int a, .int b, .int s]
structure OkSrc (xs : List Int) (a b s : Int) : Prop where
  len : xs.length ≤ 63
  a0 : 0 ≤ a
  a1 : a ≤ 63
  b0 : 0 ≤ b
  s0 : 0 ≤ s
  s1 : s < 2147483497
/-- m holds a source at l -/
def Src (l : Nat) (m : Mem) : Prop := ∃ xs a b s, m[l]? = some (srcCell xs a b s) ∧ OkSrc xs a b s
/-- only the source at l was drawn from -/
def Step (l : Nat) (m m' : Mem) : Prop := ∃ c, m' = m.set l c ∧ Src l m'
theorem Step.src {l : Nat} {m m' : Mem} (h : Step l m m') : Src l m' := by obtain ⟨c, _, h⟩ := h; exact h
theorem Step.trans {l : Nat} {m m1 m2 : Mem} (h : Step l m m1) (h2 : Step l m1 m2) : Step l m m2 := by
  obtain ⟨c, rfl, _⟩ := h
  obtain ⟨c2, rfl, h3⟩ := h2
  exact ⟨c2, by rw [List.set_set], by rw [List.set_set] at h3; rw [List.set_set]; exact h3⟩
theorem Src.refl {l : Nat} {m : Mem} (h : Src l m) : Step l m m := by
  obtain ⟨xs, a, b, s, e, o⟩ := h
  refine ⟨srcCell xs a b s, (set_same e).symm, xs, a, b, s, e, o⟩
theorem src_lt {l : Nat} {m : Mem} {c : Cell} (h : m[l]? = some c) : l < m.length := (List.getElem?_eq_some_iff.mp h).1
theorem src_set {l : Nat} {m : Mem} {c c' : Cell} (h : m[l]? = some c) : (m.set l c')[l]? = some c' := List.getElem?_set_self (src_lt h)
theorem fm_lo {i j : Int} (h : 0 < j) : 0 ≤ i.fmod j := Int.fmod_nonneg_of_pos i h
theorem fm_hi {i j : Int} (h : 0 < j) : i.fmod j < j := Int.fmod_lt_of_pos i h
theorem draw_tail {cs : CallS} {w : Nat} {m : Mem} {l : Nat} {many : Int} {K : Fin} {v : D} {xs : List Int} {a b s : Int} (e : m[l]? = some (srcCell xs a b s)) (o : OkSrc xs a b s) (h1 : 1 ≤ many) (h2 : many < 2 ^ 64)
    (hP : ∀ (r : Int) c, 0 ≤ r → r < many → Src l (m.set l c) → K.rt (.int r) (m.set l c)) :
    EvS (evSs cs w drawTl [.ref l, .int many, .unb, v, .unb] m) K := by
  have es : ∀ c, (m.set l c)[l]? = some c := fun c => src_set e
  have hm : 0 < many := by omega
  have hm0 : many ≠ 0 := by omega
  obtain ⟨o1, o2, o3, o4, o5, o6⟩ := o
  have hd : divOk many = true := divOk_of hm0 (by omega)
  by_cases hb : 0 < b
  · have hK := hP (b.fmod many) (srcCell xs a (b.fdiv many) s) (fm_lo hm) (fm_hi hm) ⟨xs, a, _, s, src_set e, o1, o2, o3, Int.fdiv_nonneg (by omega) (by omega), o5, o6⟩
    simp [drawTl, e, es, srcCell, hb, hd, hm0] at hK ⊢
    exact hK
  · let s' := (s * s + s * 40127 + 70003).fmod 2147483497
    have hs0 : 0 ≤ s' := fm_lo (by decide)
    have hs1 : s' < 2147483497 := fm_hi (by decide)
    have m1 : mulOk s s = true := mulOk_64 (by omega) (by omega)
    have m2 : mulOk s 40127 = true := mulOk_64 (by omega) (by omega)
    have m3 : mulOk (s'.fmod 8117) 233 = true := by
      have h3 : 0 ≤ s'.fmod 8117 := fm_lo (by decide)
      have h4 : s'.fmod 8117 < 8117 := fm_hi (by decide)
      exact mulOk_64 (by omega) (by omega)
    have d1 : divOk 61 = true := by decide
    have hK := hP ((s'.fdiv 61 + s'.fmod 8117 * 233).fmod many) (srcCell xs a b s') (fm_lo hm) (fm_hi hm) ⟨xs, a, b, s', src_set e, o1, o2, o3, o4, hs0, hs1⟩
    simp [drawTl, e, es, srcCell, hb, hd, hm0, m1, m2, d1] at hK ⊢
    exact ⟨m3, hK⟩
theorem Src.set {l : Nat} {m : Mem} {c : Cell} {xs : List Int} {a b s : Int} (e : m[l]? = some c) (o : OkSrc xs a b s) : Src l (m.set l (srcCell xs a b s)) := ⟨xs, a, b, s, src_set e, o⟩
theorem draw_ok {cs : CallS} {w : Nat} {m : Mem} {l : Nat} {many : Int} {P : D → Mem → Prop} (h : Src l m) (h1 : 1 ≤ many) (h2 : many < 2 ^ 64) (hP : ∀ (r : Int) m', 0 ≤ r → r < many → Step l m m' → P (.int r) m') :
    Ev (runB cs w f_law_draw [.ref l, .int many] m) P := by
  obtain ⟨xs, a, b, s, e, o⟩ := h
  have es : ∀ c, (m.set l c)[l]? = some c := fun c => src_set e
  have tail : ∀ (v : D) (c : Cell), (∃ xs a b s, c = srcCell xs a b s ∧ OkSrc xs a b s) → EvS (evSs cs w drawTl [.ref l, .int many, .unb, v, .unb] (m.set l c)) ⟨fun _ m => P .non m, P, fun _ _ => False, fun _ _ => False⟩ := fun v c ⟨xs, a, b, s, ec, o⟩ => by
    subst ec
    exact draw_tail (es _) o h1 h2 fun r c r0 r1 hs => hP r _ r0 r1 ⟨c, by rw [List.set_set], hs⟩
  have tail0 : EvS (evSs cs w drawTl [.ref l, .int many, .unb, .unb, .unb] m) ⟨fun _ m => P .non m, P, fun _ _ => False, fun _ _ => False⟩ := by
    have := tail .unb _ ⟨xs, a, b, s, rfl, o⟩
    rwa [set_same e] at this
  obtain ⟨o1, o2, o3, o4, o5, o6⟩ := o
  rw [Ev_runB]
  refine ⟨rfl, ?_⟩
  show EvS (evSs cs w (drawHd :: drawTl) [.ref l, .int many, .unb, .unb, .unb] m) _
  rw [EvSs_cons]
  generalize drawTl = tl at tail tail0
  have p18 : powOk 10 18 = true := by decide
  have m1 : mulOk s 40699 = true := mulOk_64 (by omega) (by omega)
  by_cases hb : b = 0
  · by_cases ha : a < xs.length
    · have hn : nth (xs.map D.int) a = some (.int (xs[a.toNat]'(by omega))) := by
        rw [nth_nat o2 (by simpa using ha), List.getElem?_map, List.getElem?_eq_getElem (by omega)]; rfl
      generalize xs[a.toNat]'(by omega) = x at hn
      have m2 : mulOk (x.fmod 2147483497) 71 = true := by
        have h3 : 0 ≤ x.fmod 2147483497 := fm_lo (by decide)
        have h4 : x.fmod 2147483497 < 2147483497 := fm_hi (by decide)
        exact mulOk_64 (by omega) (by omega)
      by_cases hx : 1000000000000000000 ≤ x
      · have t := tail (.int x) (srcCell xs (a + 1) x s) ⟨xs, a + 1, x, s, rfl, o1, by omega, by omega, by omega, o5, o6⟩
        simp [drawHd, e, es, srcCell, hb, ha, hn, p18, hx, show ¬ x < 0 by omega] at t ⊢
        exact t
      · by_cases hy : x ≤ -1000000000000000000
        · have t := tail (.int x) (srcCell xs (a + 1) (-x) s) ⟨xs, a + 1, -x, s, rfl, o1, by omega, by omega, by omega, o5, o6⟩
          simp [drawHd, e, es, srcCell, hb, ha, hn, p18, hx, hy, show x < 0 by omega] at t ⊢
          exact t
        · have t := tail (.int x) (srcCell xs (a + 1) b ((s * 40699 + x.fmod 2147483497 * 71 + (a + 1)).fmod 2147483497)) ⟨xs, a + 1, b, _, rfl, o1, by omega, by omega, o4, fm_lo (by decide), fm_hi (by decide)⟩
          simp [drawHd, e, es, srcCell, hb, ha, hn, p18, hx, hy, m1, m2] at t ⊢
          exact t
    · simp [drawHd, e, srcCell, hb, ha]
      exact tail0
  · simp [drawHd, e, srcCell, hb]
    exact tail0
@[simp] theorem cut_63 {α : Type} (xs : List α) : cut none (some (63 : Int)) xs = xs.take 63 := cut_to xs 63
theorem source_ok {cs : CallS} {w : Nat} {m : Mem} {ns : List Int} {P : D → Mem → Prop} (hn : ns.length ≤ 63) (hP : ∀ s : Int, 0 ≤ s → s < 2147483497 → P (.own [.lst (ns.map .int), .int 0, .int 0, .int s]) m) :
    Ev (runB cs w f_law_source [.scr (ns.map .int)] m) P := by
  have ht : (ns.map D.int).take 63 = ns.map D.int := List.take_of_length_le (by simpa using hn)
  have m0 : mulOk 67 ns.length = true := mulOk_64 (by omega) (by omega)
  simp [f_law_source, ht, m0]
  refine for_inv (fun i l m' => m' = m ∧ ∃ (s : Int) (v : D), l = [.scr (ns.map .int), .int s, v] ∧ 0 ≤ s ∧ s < 2147483497) _ _ _ ⟨rfl, _, _, rfl, by omega, by omega⟩ (fun i x l m' hx h => ?_) fun l m' h => ?_
  · obtain ⟨rfl, s, v, rfl, h0, h1⟩ := h
    rw [List.getElem?_map] at hx
    obtain ⟨y, _, rfl⟩ := Option.map_eq_some_iff.mp hx
    have m1 : mulOk s 47777 = true := mulOk_64 (by omega) (by omega)
    rw [EvS_turn]
    simp [m1]
    exact ⟨fm_lo (by decide), fm_hi (by decide)⟩
  · obtain ⟨rfl, s, v, rfl, h0, h1⟩ := h
    have := hP s h0 h1
    simp [ht]
    exact this
theorem src_new {m : Mem} {ns : List Int} {s : Int} (hn : ns.length ≤ 63) (h0 : 0 ≤ s) (h1 : s < 2147483497) : Src m.length (m ++ [.lst [.lst (ns.map .int), .int 0, .int 0, .int s]]) := ⟨ns, 0, 0, s, by simp [srcCell], hn, by decide, by decide, by decide, h0, h1⟩
theorem eq_of {α : Type} {r : Res α} {x : α} {m : Mem} (h : Ev r fun a m' => a = x ∧ m' = m) : r = .ok x m := by
  obtain ⟨a, m', e, rfl, rfl⟩ := h.eq
  exact e
/-! ### data: what no one changes -/
mutual
def data : Nat → D → Bool
  | _, .non => true
  | _, .bl _ => true
  | _, .int _ => true
  | _, .str x => PyData.strOk x
  | 0, _ => false
  | n + 1, .tup xs => datas n xs
  | n + 1, .lst xs => datas n xs
  | _, _ => false
def datas : Nat → List D → Bool
  | _, [] => true
  | n, x :: xs => data n x && datas n xs
end
section
variable (n : Nat) (b : Bool) (i : Int) (s : Str) (x : D) (xs : List D)
@[simp] theorem data_non : data n .non = true := by cases n <;> rfl
@[simp] theorem data_bl : data n (.bl b) = true := by cases n <;> rfl
@[simp] theorem data_int : data n (.int i) = true := by cases n <;> rfl
@[simp] theorem data_str : data n (.str s) = PyData.strOk s := by cases n <;> rfl
@[simp] theorem data_tup : data (n + 1) (.tup xs) = datas n xs := (Eq.refl _).trans rfl
@[simp] theorem data_lst : data (n + 1) (.lst xs) = datas n xs := (Eq.refl _).trans rfl
@[simp] theorem datas_nil : datas n [] = true := by cases n <;> rfl
@[simp] theorem datas_cons : datas n (x :: xs) = (data n x && datas n xs) := by cases n <;> rfl
end
theorem data_fro {n : Nat} {d : D} (h : data n d = true) : fro d = true := by
  cases n <;> cases d <;> first | rfl | cases h
mutual
theorem data_plain : ∀ {n : Nat} {d : D}, data n d = true → plain n d = true
  | n, .non, _ => by simp
  | n, .bl _, _ => by simp
  | n, .int _, _ => by simp
  | n, .str _, h => by simpa using h
  | 0, .tup _, h => by cases h
  | 0, .lst _, h => by cases h
  | n + 1, .tup xs, h => by rw [plain_tup]; exact datas_plain (by simpa using h)
  | n + 1, .lst xs, h => by rw [plain_lst]; exact datas_plain (by simpa using h)
  | n, .own _, h => by cases n <;> cases h
  | n, .unb, h => by cases n <;> cases h
  | n, .scr _, h => by cases n <;> cases h
  | n, .dct _ _, h => by cases n <;> cases h
  | n, .odct _ _, h => by cases n <;> cases h
  | n, .set _, h => by cases n <;> cases h
  | n, .itr _, h => by cases n <;> cases h
  | n, .obj _ _ _, h => by cases n <;> cases h
  | n, .exc _ _ _, h => by cases n <;> cases h
  | n, .ref _, h => by cases n <;> cases h
  | n, .clo _ _, h => by cases n <;> cases h
theorem datas_plain : ∀ {n : Nat} {xs : List D}, datas n xs = true → plains n xs = true
  | n, [], _ => by cases n <;> rfl
  | n, x :: xs, h => by
    rw [datas_cons, Bool.and_eq_true] at h
    rw [plains_cons, data_plain h.1, datas_plain h.2]; rfl
end
mutual
theorem data_mono : ∀ {n k : Nat} {d : D}, n ≤ k → data n d = true → data k d = true
  | n, k, .non, _, _ => by simp
  | n, k, .bl _, _, _ => by simp
  | n, k, .int _, _, _ => by simp
  | n, k, .str _, _, h => by simpa using h
  | 0, k, .tup _, _, h => by cases h
  | 0, k, .lst _, _, h => by cases h
  | n + 1, k + 1, .tup xs, l, h => by rw [data_tup] at h ⊢; exact datas_mono (by omega) h
  | n + 1, k + 1, .lst xs, l, h => by rw [data_lst] at h ⊢; exact datas_mono (by omega) h
  | n + 1, 0, .tup xs, l, h => absurd l (by omega)
  | n + 1, 0, .lst xs, l, h => absurd l (by omega)
  | n, k, .own _, _, h => by cases n <;> cases h
  | n, k, .unb, _, h => by cases n <;> cases h
  | n, k, .scr _, _, h => by cases n <;> cases h
  | n, k, .dct _ _, _, h => by cases n <;> cases h
  | n, k, .odct _ _, _, h => by cases n <;> cases h
  | n, k, .set _, _, h => by cases n <;> cases h
  | n, k, .itr _, _, h => by cases n <;> cases h
  | n, k, .obj _ _ _, _, h => by cases n <;> cases h
  | n, k, .exc _ _ _, _, h => by cases n <;> cases h
  | n, k, .ref _, _, h => by cases n <;> cases h
  | n, k, .clo _ _, _, h => by cases n <;> cases h
theorem datas_mono : ∀ {n k : Nat} {xs : List D}, n ≤ k → datas n xs = true → datas k xs = true
  | n, k, [], _, _ => by simp
  | n, k, x :: xs, l, h => by
    rw [datas_cons, Bool.and_eq_true] at h ⊢
    exact ⟨data_mono l h.1, datas_mono l h.2⟩
end
theorem datas_mem {n : Nat} : ∀ {xs : List D} {x : D}, datas n xs = true → x ∈ xs → data n x = true
  | y :: ys, x, h, hx => by
    rw [datas_cons, Bool.and_eq_true] at h
    rcases List.mem_cons.mp hx with rfl | hx
    · exact h.1
    · exact datas_mem h.2 hx
theorem datas_of {n : Nat} : ∀ {xs : List D}, (∀ x ∈ xs, data n x = true) → datas n xs = true
  | [], _ => by simp
  | y :: ys, h => by
    rw [datas_cons, Bool.and_eq_true]
    exact ⟨h y List.mem_cons_self, datas_of fun x hx => h x (List.mem_cons_of_mem _ hx)⟩
/-- a comprehension that walks and gives back bools -/
@[simp] theorem bools_map (g : D → Bool) : ∀ xs : List D, bools (xs.map fun x => .bl (g x)) = some (xs.map g)
  | [] => rfl
  | x :: xs => by
    show (match bools (xs.map fun x => .bl (g x)) with | some bs => some (g x :: bs) | none => none) = _
    rw [bools_map g xs]; rfl
theorem while_step {c : Loc → Mem → Res D} {f : Loc → Mem → ResS} {w : Nat} {l : Loc} {m : Mem} {K : Fin} : EvS (whileGo c f (w + 1) l m) K = Ev (c l m) fun x m1 => br (truth x) (EvS (f l m1) ⟨fun l m => EvS (whileGo c f w l m) K, K.rt, K.nx, fun l m => EvS (whileGo c f w l m) K⟩) (K.nx l m1) := by
  show EvS ((c l m).stm _) K = _
  rw [EvS_stm]
  congr; funext x m1
  cases truth x with
  | none => rfl
  | some b =>
    cases b with
    | false => rfl
    | true =>
      show EvS ((f l m1).turn (whileGo c f w)) K = EvS (f l m1) _
      cases f l m1 <;> rfl
theorem data_cases {n : Nat} {v : D} (h : data n v = true) : v = .non ∨ (∃ b, v = .bl b) ∨ (∃ i, v = .int i) ∨ (∃ s, v = .str s ∧ PyData.strOk s = true) ∨ (∃ xs, v = .tup xs ∧ ∃ k, n = k + 1 ∧ datas k xs = true) ∨ ∃ xs, v = .lst xs ∧ ∃ k, n = k + 1 ∧ datas k xs = true := by
  cases v
  case non => exact .inl rfl
  case bl b => exact .inr (.inl ⟨b, rfl⟩)
  case int b => exact .inr (.inr (.inl ⟨b, rfl⟩))
  case str b => exact .inr (.inr (.inr (.inl ⟨b, rfl, by simpa using h⟩)))
  case tup b =>
    cases n with
    | zero => cases h
    | succ k => exact .inr (.inr (.inr (.inr (.inl ⟨b, rfl, k, rfl, by simpa using h⟩))))
  case lst b =>
    cases n with
    | zero => cases h
    | succ k => exact .inr (.inr (.inr (.inr (.inr ⟨b, rfl, k, rfl, by simpa using h⟩))))
  all_goals (cases n <;> cases h)
end Mp

set_option Elab.async false
set_option linter.all false
set_option maxRecDepth 100000
set_option maxHeartbeats 0
namespace K06
open PySem PySem.Spec PyProof.Rows L2 Mp
def top (i : Nat) : Stmt := PySem.Challenge.pw_frontpace_k06_formulas_judged.main.body.getD i (.Pass ⟨0, 0, 0, 0⟩)
def f_is_number : Fn := ⟨1, 1,
 [.ret (.and (.prim (.isinst .int) [(.var 0)]) (.not (.prim (.isinst .bool) [(.var 0)])))]⟩
def f_are_numbers : Fn := ⟨2, 3,
 [.ret (.and (.prim (.isinst .tuple) [(.var 0)]) (.and (.cmp .eq (.prim .len [(.var 0)]) (.var 1)) (.prim .all [(.comp (.call 0 [(.var 2)] [] []) (.nm 2) (.var 0) (.lit (.bl true)))])))]⟩
def f_is_term : Fn := ⟨1, 1,
 [.ret (.and (.call 1 [(.var 0), (.lit (.int 3))] [] []) (.and (.cmp .le (.prim .abs [(.idx (.var 0) (.lit (.int 0)))]) (.lit (.int 40))) (.and (.cmp .le (.prim .abs [(.idx (.var 0) (.lit (.int 1)))]) (.lit (.int 40))) (.chain .le .le (.lit (.int 1)) (.idx (.var 0) (.lit (.int 2))) (.lit (.int 6))))))]⟩
def f_parts_of : Fn := ⟨1, 2,
 [.ite (.or (.not (.prim (.isinst .tuple) [(.var 0)])) (.or (.cmp .notin (.prim .len [(.var 0)]) (.tup [(.lit (.int 2)), (.lit (.int 3))])) (.not (.prim (.isinst .str) [(.idx (.var 0) (.lit (.int 0)))]))))
 [.ret (.lit .non)]
 [],
 .ite (.cmp .notin (.idx (.var 0) (.lit (.int 0))) (.ite (.cmp .eq (.prim .len [(.var 0)]) (.lit (.int 2))) (.tup [(.lit (.str "all")), (.lit (.str "any"))]) (.tup [(.lit (.str "some"))])))
 [.ret (.lit .non)]
 [],
 .set 1 (.idx (.var 0) (.neg (.lit (.int 1)))),
 .ite (.or (.not (.prim (.isinst .tuple) [(.var 1)])) (.not (.chain .le .le (.lit (.int 1)) (.prim .len [(.var 1)]) (.lit (.int 126)))))
 [.ret (.lit .non)]
 [],
 .ite (.and (.cmp .eq (.prim .len [(.var 0)]) (.lit (.int 3))) (.not (.and (.call 0 [(.idx (.var 0) (.lit (.int 1)))] [] []) (.chain .le .le (.lit (.int 1)) (.idx (.var 0) (.lit (.int 1))) (.prim .len [(.var 1)])))))
 [.ret (.lit .non)]
 [],
 .ret (.var 1)]⟩
def f_is_leaf : Fn := ⟨1, 1,
 [.ret (.and (.prim (.isinst .tuple) [(.var 0)]) (.and (.cmp .eq (.prim .len [(.var 0)]) (.lit (.int 4))) (.and (.cmp .eq (.idx (.var 0) (.lit (.int 0))) (.lit (.str "at"))) (.call 2 [(.slc (.var 0) (.lit (.int 1)) (.lit .unb))] [] []))))]⟩
def f_is_formula : Fn := ⟨1, 8,
 [.par [1, 2, 3] [(.lst [(.tup [(.var 0), (.lit (.int 1))])]), (.lit (.int 0)), .dnew],
 .whil (.cmp .gt (.prim .len [(.bor 1)]) (.lit (.int 0)))
 [.popto (.tp [5, 6]) 1,
 .aug 2 .add (.lit (.int 1)),
 .ite (.or (.cmp .gt (.var 6) (.lit (.int 4))) (.cmp .gt (.var 2) (.lit (.int 800))))
 [.ret (.lit (.bl false))]
 [],
 .ite (.call 4 [(.var 5)] [] [])
 [.dput 3 (.slc (.var 5) (.lit (.int 1)) (.lit .unb)) (.lit (.bl true)),
 .cont]
 [],
 .set 4 (.call 3 [(.var 5)] [] []),
 .ite (.cmp .is (.var 4) (.lit .non))
 [.ret (.lit (.bl false))]
 [],
 .ext 1 (.comp (.tup [(.var 7), (.bin .add (.var 6) (.lit (.int 1)))]) (.nm 7) (.var 4) (.lit (.bl true)))],
 .ret (.cmp .le (.prim .len [(.bor 3)]) (.lit (.int 9)))]⟩
def f_law_of : Fn := ⟨2, 2,
 [.ret (.idx (.var 1) (.call 7 [(.var 0), (.prim .len [(.var 1)])] [] []))]⟩
def f_law_term : Fn := ⟨3, 3,
 [.ret (.tup [(.bin .sub (.call 7 [(.var 0), (.bin .add (.bin .mul (.lit (.int 2)) (.var 1)) (.lit (.int 1)))] [] []) (.var 1)), (.bin .sub (.call 7 [(.var 0), (.bin .add (.bin .mul (.lit (.int 2)) (.var 1)) (.lit (.int 1)))] [] []) (.var 1)), (.bin .add (.lit (.int 1)) (.call 7 [(.var 0), (.var 2)] [] []))])]⟩
def f_law_pool : Fn := ⟨4, 7,
 [.set 4 (.lst []),
 .loop (.nm 5) (.prim .range [(.var 1)])
 [.set 6 (.call 9 [(.var 0), (.var 2), (.var 3)] [] []),
 .set 4 (.ite (.cmp .inn (.var 6) (.var 4)) (.var 4) (.bin .add (.var 4) (.lst [(.var 6)])))],
 .ret (.var 4)]⟩
def f_law_formula : Fn := ⟨3, 6,
 [.set 3 (.ite (.cmp .gt (.var 2) (.lit (.int 1))) (.call 7 [(.var 0), (.lit (.int 4))] [] []) (.lit (.int 0))),
 .ite (.cmp .eq (.var 3) (.lit (.int 0)))
 [.ret (.bin .add (.tup [(.lit (.str "at"))]) (.call 8 [(.var 0), (.var 1)] [] []))]
 [],
 .set 4 (.prim .toTuple [(.comp (.call 11 [(.var 0), (.var 1), (.bin .sub (.var 2) (.lit (.int 1)))] [] []) (.nm 5) (.prim .range [(.bin .add (.lit (.int 1)) (.call 7 [(.var 0), (.lit (.int 3))] [] []))]) (.lit (.bl true)))]),
 .ite (.cmp .eq (.var 3) (.lit (.int 3)))
 [.ret (.tup [(.lit (.str "some")), (.bin .add (.lit (.int 1)) (.call 7 [(.var 0), (.prim .len [(.var 4)])] [] [])), (.var 4)])]
 [],
 .ret (.tup [(.idx (.lst [(.lit (.str "all")), (.lit (.str "any"))]) (.bin .sub (.var 3) (.lit (.int 1)))), (.var 4)])]⟩
def f_law_bent : Fn := ⟨2, 5,
 [.par [3, 4] [(.prim .toList [(.var 1)]), (.call 7 [(.var 0), (.lit (.int 5))] [] [])],
 .ite (.cmp .eq (.var 4) (.lit (.int 0)))
 [.reto 3]
 [],
 .ite (.cmp .eq (.var 4) (.lit (.int 1)))
 [.ret (.bin .add (.var 1) (.tup [(.call 8 [(.var 0), (.lst [(.lit (.int 1)), (.tup []), (.tup [(.lit (.str "at")), (.lit (.int 0)), (.lit (.int 0)), (.lit (.int 1))])])] [] [])]))]
 [],
 .ite (.cmp .eq (.var 4) (.lit (.int 2)))
 [.ret (.slc (.var 1) (.lit .unb) (.neg (.lit (.int 1))))]
 [],
 .ite (.cmp .eq (.var 4) (.lit (.int 3)))
 [.ret (.bin .add (.tup [(.call 8 [(.var 0), (.lst [(.lit (.str "At")), (.lit (.str "al")), (.lit (.str "")), (.lit .non), (.lit (.int 3)), (.ite (.cmp .eq (.idx (.var 1) (.lit (.int 0))) (.lit (.str "some"))) (.lit (.str "any")) (.lit (.str "some"))), (.lit (.str "or"))])] [] [])]) (.ite (.cmp .lt (.prim .len [(.var 1)]) (.lit (.int 4))) (.slc (.bin .add (.slc (.var 1) (.lit (.int 1)) (.lit .unb)) (.tup [(.lit (.int 9))])) (.lit .unb) (.lit (.int 2))) (.slc (.var 1) (.lit (.int 1)) (.lit .unb))))]
 [],
 .set 2 (.bin .add (.lit (.int 1)) (.call 7 [(.var 0), (.bin .sub (.prim .len [(.var 1)]) (.lit (.int 1)))] [] [])),
 .seti 3 (.var 2) (.call 8 [(.var 0), (.lst [(.lit .non), (.lit (.bl true)), (.lit (.int 41)), (.neg (.lit (.int 41))), (.lit (.str "1")), (.tup []), (.lst [(.var 1)]), (.ite (.and (.cmp .eq (.prim .len [(.var 1)]) (.lit (.int 3))) (.cmp .eq (.var 2) (.lit (.int 1)))) (.lit (.int 0)) (.neg (.lit (.int 41))))])] [] []),
 .ret (.prim .toTuple [(.bor 3)])]⟩
def f_law_bounds_so : Fn := ⟨0, 8,
 [.set 0 (.tup [(.lit (.str "at")), (.lit (.int 0)), (.lit (.int 0)), (.lit (.int 1))]),
 .set 1 (.prim .toTuple [(.comp (.tup [(.lit (.str "at")), (.var 6), (.lit (.int 0)), (.lit (.int 1))]) (.nm 6) (.prim .range [(.lit (.int 9))]) (.lit (.bl true)))]),
 .set 2 (.tup [(.lit (.str "any")), (.tup [(.tup [(.lit (.str "all")), (.tup [(.tup [(.lit (.str "some")), (.lit (.int 1)), (.tup [(.var 0), (.var 0)])])])])])]),
 .set 3 (.lst [(.var 0), (.tup [(.lit (.str "at")), (.lit (.int 40)), (.neg (.lit (.int 40))), (.lit (.int 6))]), (.tup [(.lit (.str "all")), (.var 1)]), (.tup [(.lit (.str "some")), (.lit (.int 9)), (.var 1)]), (.tup [(.lit (.str "any")), (.bin .mul (.tup [(.var 0)]) (.lit (.int 126)))]), (.var 2), (.tup [(.lit (.str "some")), (.lit (.int 1)), (.tup [(.var 0)])])]),
 .set 4 (.tup [(.lit (.str "any")), (.bin .add (.bin .mul (.tup [(.tup [(.lit (.str "all")), (.bin .mul (.tup [(.var 0)]) (.lit (.int 6)))])]) (.lit (.int 114))) (.tup [(.var 0)]))]),
 .set 3 (.bin .add (.var 3) (.lst [(.var 4), (.tup [(.lit (.str "any")), (.tup [(.tup [(.lit (.str "any")), (.var 1)]), (.tup [(.lit (.str "all")), (.var 1)])])])])),
 .set 5 (.lst [(.tup [(.lit (.str "at")), (.lit (.int 41)), (.lit (.int 0)), (.lit (.int 1))]), (.tup [(.lit (.str "at")), (.lit (.int 0)), (.neg (.lit (.int 41))), (.lit (.int 1))]), (.tup [(.lit (.str "at")), (.lit (.int 0)), (.lit (.int 0)), (.lit (.int 0))]), (.tup [(.lit (.str "at")), (.lit (.int 0)), (.lit (.int 0)), (.lit (.int 7))]), (.tup [(.lit (.str "at")), (.lit (.int 0)), (.lit (.int 0))]), (.tup [(.lit (.str "all")), (.tup [])]), (.tup [(.lit (.str "any")), (.bin .mul (.tup [(.var 0)]) (.lit (.int 127)))])]),
 .set 5 (.bin .add (.var 5) (.lst [(.tup [(.lit (.str "some")), (.lit (.int 0)), (.tup [(.var 0)])]), (.tup [(.lit (.str "some")), (.lit (.int 2)), (.tup [(.var 0)])]), (.tup [(.lit (.str "some")), (.lit (.bl true)), (.tup [(.var 0)])]), (.tup [(.lit (.str "all")), (.lst [(.var 0)])]), (.tup [(.lit (.str "all")), (.var 0)]), (.tup [(.lit (.str "any")), (.tup [(.var 2)])])])),
 .set 5 (.bin .add (.var 5) (.lst [(.tup [(.lit (.str "any")), (.bin .add (.var 1) (.tup [(.tup [(.lit (.str "at")), (.lit (.int 9)), (.lit (.int 0)), (.lit (.int 1))])]))]), (.tup [(.lit (.str "any")), (.bin .add (.bin .mul (.tup [(.idx (.idx (.var 4) (.lit (.int 1))) (.lit (.int 0)))]) (.lit (.int 114))) (.bin .mul (.tup [(.var 0)]) (.lit (.int 2))))]), (.tup [(.lit (.str "any")), (.tup [(.tup [(.lit (.str "at")), (.lit (.int 0)), (.lit (.int 0)), (.lit (.bl true))])])])])),
 .set 5 (.bin .add (.var 5) (.lst [(.tup [(.lit (.str "some")), (.tup [(.var 0)])]), (.tup [(.lit (.str "all")), (.lit (.int 1)), (.tup [(.var 0)])]), (.tup [(.lit (.str "at")), (.lit (.int 0)), (.lit (.int 0)), (.lit (.int 1)), (.lit (.int 1))]), (.tup [(.lit (.str "any")), (.tup [(.lit .non)])]), (.lit (.str "at")), (.lit (.int 3)), (.lit .non), (.lst []), (.tup []), (.tup [(.lit (.str "at"))])])),
 .ret (.cmp .eq (.comp (.call 5 [] [(.var 7)] []) (.nm 7) (.bin .add (.var 3) (.var 5)) (.lit (.bl true))) (.bin .add (.bin .mul (.lst [(.lit (.bl true))]) (.prim .len [(.var 3)])) (.bin .mul (.lst [(.lit (.bl false))]) (.prim .len [(.var 5)]))))]⟩
def f_law : Fn := ⟨1, 5,
 [.cell 1 (.call 6 [(.var 0)] [] []),
 .loop (.nm 2) (.prim .range [(.lit (.int 5))])
 [.set 3 (.call 11 [(.var 1), (.call 10 [(.var 1), (.lit (.int 5)), (.lit (.int 40)), (.lit (.int 6))] [] []), (.lit (.int 3))] [] []),
 .ite (.or (.cmp .isnot (.call 5 [(.var 3)] [] []) (.lit (.bl true))) (.cmp .isnot (.call 5 [(.tup [(.lit (.str "all")), (.tup [(.var 3)])])] [] []) (.lit (.bl true))))
 [.ret (.lit (.bl false))]
 [],
 .set 4 (.call 12 [(.var 1), (.var 3)] [] []),
 .ite (.or (.cmp .isnot (.call 5 [(.var 4)] [] []) (.lit (.bl false))) (.cmp .isnot (.call 5 [(.tup [(.lit (.str "any")), (.tup [(.var 3), (.var 4)])])] [] []) (.lit (.bl false))))
 [.ret (.lit (.bl false))]
 []],
 .ret (.call 13 [] [] [])]⟩
abbrev d_f_is_number : DefI := ⟨"is_number", "is_number", defArgs (top 1), defBody (top 1), defScope (top 1), ["value"], ["value"], f_is_number, [(1, [], [])]⟩
abbrev d_f_are_numbers : DefI := ⟨"are_numbers", "are_numbers", defArgs (top 2), defBody (top 2), defScope (top 2), ["value", "many", "one"], ["value", "many"], f_are_numbers, [(2, [], [])]⟩
abbrev d_f_is_term : DefI := ⟨"is_term", "is_term", defArgs (top 10), defBody (top 10), defScope (top 10), ["value"], ["value"], f_is_term, [(1, [], [])]⟩
abbrev d_f_parts_of : DefI := ⟨"parts_of", "parts_of", defArgs (top 11), defBody (top 11), defScope (top 11), ["value", "parts"], ["value"], f_parts_of, [(1, [], [])]⟩
abbrev d_f_is_leaf : DefI := ⟨"is_leaf", "is_leaf", defArgs (top 12), defBody (top 12), defScope (top 12), ["value"], ["value"], f_is_leaf, [(1, [], [])]⟩
abbrev d_f_is_formula : DefI := ⟨"is_formula", "is_formula", defArgs (top 13), defBody (top 13), defScope (top 13), ["value", "pending", "count", "terms", "parts", "one", "deep", "part"], ["value"], f_is_formula, [(0, ["value"], []), (1, [], [])]⟩
abbrev d_f_law_source : DefI := ⟨"_law_source", "_law_source", defArgs (top 15), defBody (top 15), defScope (top 15), ["_law_script", "_law_seed", "_law_cell"], ["_law_script"], f_law_source, [(1, [], [])]⟩
abbrev d_f_law_draw : DefI := ⟨"_law_draw", "_law_draw", defArgs (top 16), defBody (top 16), defScope (top 16), ["_law_src", "_law_many", "_law_seed", "_law_cell", "_law_got"], ["_law_src", "_law_many"], f_law_draw, [(2, [], [])]⟩
abbrev d_f_law_of : DefI := ⟨"_law_of", "_law_of", defArgs (top 17), defBody (top 17), defScope (top 17), ["_law_src", "_law_some"], ["_law_src", "_law_some"], f_law_of, [(2, [], [])]⟩
abbrev d_f_law_term : DefI := ⟨"_law_term", "_law_term", defArgs (top 18), defBody (top 18), defScope (top 18), ["_law_src", "_law_wide", "_law_late"], ["_law_src", "_law_wide", "_law_late"], f_law_term, [(3, [], [])]⟩
abbrev d_f_law_pool : DefI := ⟨"_law_pool", "_law_pool", defArgs (top 19), defBody (top 19), defScope (top 19), ["_law_src", "_law_many", "_law_wide", "_law_late", "_law_found", "_law_k", "_law_term_here"], ["_law_src", "_law_many", "_law_wide", "_law_late"], f_law_pool, [(4, [], [])]⟩
abbrev d_f_law_formula : DefI := ⟨"_law_formula", "_law_formula", defArgs (top 20), defBody (top 20), defScope (top 20), ["_law_src", "_law_pool_here", "_law_levels", "_law_way", "_law_parts", "_law_k"], ["_law_src", "_law_pool_here", "_law_levels"], f_law_formula, [(3, [], [])]⟩
abbrev d_f_law_bent : DefI := ⟨"_law_bent", "_law_bent", defArgs (top 21), defBody (top 21), defScope (top 21), ["_law_src", "_law_formula_here", "_law_at", "_law_more", "_law_way"], ["_law_src", "_law_formula_here"], f_law_bent, [(2, [], [])]⟩
abbrev d_f_law_bounds_so : DefI := ⟨"_law_bounds_so", "_law_bounds_so", defArgs (top 22), defBody (top 22), defScope (top 22), ["_law_one", "_law_nine", "_law_four", "_law_good", "_law_wide", "_law_bad", "_law_k", "_law_some"], [], f_law_bounds_so, [(0, [], [])]⟩
abbrev d_f_law : DefI := ⟨"law", "law", defArgs (top 23), defBody (top 23), defScope (top 23), ["_law_script", "_law_src", "_law_step", "_law_formula_z", "_law_bent_here"], ["_law_script"], f_law, []⟩
def tab : List DefI := [d_f_is_number, d_f_are_numbers, d_f_is_term, d_f_parts_of, d_f_is_leaf, d_f_is_formula, d_f_law_source, d_f_law_draw, d_f_law_of, d_f_law_term, d_f_law_pool, d_f_law_formula, d_f_law_bent, d_f_law_bounds_so, d_f_law]
def vals : List (PySem.Str × D) := [("DEEPEST", .int 4), ("FAR", .int 40), ("LATE", .int 6), ("MOST_FORMULAS", .int 800), ("MOST_PARTS", .int 126), ("MOST_TERMS", .int 9)]
def frees : List PySem.Str := ["abs", "all", "bool", "int", "isinstance", "len", "list", "range", "str", "tuple"]
theorem chk : ∀ d ∈ tab, chkD (mkGlo tab vals frees) d = true := by
  have h : tab.all (fun d => chkD (mkGlo tab vals frees) d) = true := by decide +kernel
  exact List.all_eq_true.mp h
end K06

set_option Elab.async false
set_option linter.all false
set_option maxRecDepth 100000
set_option maxHeartbeats 1000000
namespace K06
open PySem PySem.Spec PyProof.Rows L2 Mp
abbrev W : Nat := 900
abbrev cs (n : Nat) : CallS := callI (tabOf tab) W n
theorem c0 (n xs m) : cs (n+1) 0 xs m = runB (cs n) W f_is_number xs m := rfl
theorem c1 (n xs m) : cs (n+1) 1 xs m = runB (cs n) W f_are_numbers xs m := rfl
theorem c2 (n xs m) : cs (n+1) 2 xs m = runB (cs n) W f_is_term xs m := rfl
theorem c3 (n xs m) : cs (n+1) 3 xs m = runB (cs n) W f_parts_of xs m := rfl
theorem c4 (n xs m) : cs (n+1) 4 xs m = runB (cs n) W f_is_leaf xs m := rfl
theorem c5 (n xs m) : cs (n+1) 5 xs m = runB (cs n) W f_is_formula xs m := rfl
theorem c6 (n xs m) : cs (n+1) 6 xs m = runB (cs n) W f_law_source xs m := rfl
theorem c7 (n xs m) : cs (n+1) 7 xs m = runB (cs n) W f_law_draw xs m := rfl
theorem c8 (n xs m) : cs (n+1) 8 xs m = runB (cs n) W f_law_of xs m := rfl
theorem c9 (n xs m) : cs (n+1) 9 xs m = runB (cs n) W f_law_term xs m := rfl
theorem c10 (n xs m) : cs (n+1) 10 xs m = runB (cs n) W f_law_pool xs m := rfl
theorem c11 (n xs m) : cs (n+1) 11 xs m = runB (cs n) W f_law_formula xs m := rfl
theorem c12 (n xs m) : cs (n+1) 12 xs m = runB (cs n) W f_law_bent xs m := rfl
theorem c13 (n xs m) : cs (n+1) 13 xs m = runB (cs n) W f_law_bounds_so xs m := rfl
theorem c14 (n xs m) : cs (n+1) 14 xs m = runB (cs n) W f_law xs m := rfl

def isNumB : D → Bool
  | .int _ => true
  | _ => false
theorem s0 {n k : Nat} {v : D} {m : Mem} (h : data k v = true) : cs (n+1) 0 [v] m = .ok (.bl (isNumB v)) m := by
  refine eq_of ?_
  rw [c0]
  cases v <;> first | (cases k <;> cases h; done) | simp [f_is_number, isNumB]
def termB : List D → Bool
  | [.int x, .int y, .int t] => decide (x.natAbs ≤ 40) && decide (y.natAbs ≤ 40) && decide (1 ≤ t) && decide (t ≤ 6)
  | _ => false
theorem s1 {n k : Nat} {xs : List D} {j : Int} {m : Mem} (h : datas k xs = true) (hl : xs.length ≤ 1000000) : cs (n+2) 1 [.tup xs, .int j] m = .ok (.bl (decide ((xs.length : Int) = j) && xs.all isNumB)) m := by
  refine eq_of ?_
  rw [c1]
  by_cases hj : (xs.length : Int) = j
  · simp [f_are_numbers, hj]
    refine comp_map (fun x => .bl (isNumB x)) xs hl (fun x hx => ?_) ?_
    · have hd := datas_mem h hx
      refine eq_of ?_
      rw [Ev_turn]
      simp [data_fro hd, s0 hd]
    · simp
  · simp [f_are_numbers, hj]
theorem s2 {n k : Nat} {xs : List D} {m : Mem} (h : datas k xs = true) (hl : xs.length ≤ 1000000) : cs (n+3) 2 [.tup xs] m = .ok (.bl (termB xs)) m := by
  refine eq_of ?_
  rw [c2]
  have e := fun j => s1 (n := n) (m := m) (j := j) h hl
  by_cases hj : xs.length = 3
  · obtain ⟨a, b, c, rfl⟩ : ∃ a b c, xs = [a, b, c] := by
      match xs, hj with
      | [a, b, c], _ => exact ⟨a, b, c, rfl⟩
    simp [f_is_term, e]
    cases a <;> first | simp [isNumB, termB]; done | skip
    cases b <;> first | simp [isNumB, termB]; done | skip
    cases c <;> first | simp [isNumB, termB]; done | skip
    rename_i x y t
    have ax : ∀ z : Int, ((if z < 0 then -z else z) ≤ 40) = (z.natAbs ≤ 40) := fun z => by
      apply propext
      split <;> omega
    simp [isNumB, termB, ax]
    by_cases h1 : x.natAbs ≤ 40
    · by_cases h2 : y.natAbs ≤ 40
      · by_cases h3 : 1 ≤ t <;> simp [h1, h2, h3]
      · simp [h1, h2]
    · simp [h1]
  · have : ¬ (xs.length : Int) = 3 := by omega
    have ht : termB xs = false := by
      unfold termB
      split
      · exact absurd rfl hj
      · rfl
    simp [f_is_term, e, this, ht]
def leafB : D → Bool
  | .tup [.str a, x, y, t] => decide (a = "at") && termB [x, y, t]
  | _ => false
theorem s4 {n k : Nat} {v : D} {m : Mem} (h : data k v = true) (hk : k ≤ 40) : cs (n+4) 4 [v] m = .ok (.bl (leafB v)) m := by
  refine eq_of ?_
  rw [c4]
  cases v <;> first | (cases k <;> cases h; done) | (simp [f_is_leaf, leafB]; done) | skip
  rename_i xs
  cases k with
  | zero => cases h
  | succ k =>
  rw [data_tup] at h
  by_cases hj : xs.length = 4
  · obtain ⟨a, b, c, d, rfl⟩ : ∃ a b c d, xs = [a, b, c, d] := by
      match xs, hj with
      | [a, b, c, d], _ => exact ⟨a, b, c, d, rfl⟩
    simp only [datas_cons, datas_nil, Bool.and_eq_true] at h
    have e := s2 (n := n) (m := m) (xs := [b, c, d]) (k := k) (by simp [h]) (by simp)
    have hp := data_plain (data_mono (show k ≤ 40 by omega) h.1)
    have so : PyData.strOk "at" = true := by decide +kernel
    cases a <;> first | (cases k <;> cases h.1; done) | skip
    case str a =>
      rw [plain_str] at hp
      simp [f_is_leaf, hp, so, e, leafB]
      by_cases ha : a = "at" <;> simp [ha]
    all_goals simp [f_is_leaf, hp, so, e, leafB, eqv]
    all_goals first | (simpa using hp) | skip
  · have : ¬ (xs.length : Int) = 4 := by omega
    have ht : leafB (.tup xs) = false := by
      unfold leafB
      split
      · rename_i e; cases e; exact absurd rfl hj
      · rfl
    simp [f_is_leaf, this, ht]
def partsB : D → Option (List D)
  | .tup [.str s, .tup ps] => if (s = "all" ∨ s = "any") ∧ 1 ≤ ps.length ∧ ps.length ≤ 126 then some ps else none
  | .tup [.str s, .int k, .tup ps] => if s = "some" ∧ (1 ≤ ps.length ∧ ps.length ≤ 126) ∧ 1 ≤ k ∧ k ≤ ps.length then some ps else none
  | _ => none
def optD : Option (List D) → D
  | some ps => .tup ps
  | none => .non
theorem soAll : PyData.strOk "all" = true := by decide +kernel
theorem soAny : PyData.strOk "any" = true := by decide +kernel
theorem soSome : PyData.strOk "some" = true := by decide +kernel
theorem s3 {n k : Nat} {v : D} {m : Mem} (h : data k v = true) (hk : k ≤ 40) : cs (n+2) 3 [v] m = .ok (optD (partsB v)) m := by
  refine eq_of ?_
  rw [c3]
  cases v <;> first | (cases k <;> cases h; done) | (simp [f_parts_of, partsB, optD]; done) | skip
  rename_i xs
  cases k with
  | zero => cases h
  | succ k =>
  rw [data_tup] at h
  have e0 := fun {v : D} (h : data k v = true) => s0 (n := n) (m := m) h
  match xs, h with
  | [], _ => simp [f_parts_of, partsB, optD]
  | [a], _ => simp [f_parts_of, partsB, optD]
  | a :: b :: c :: d :: r, _ =>
    have h1 : ¬ ((r.length : Int) + 1 + 1 + 1 + 1 = 2) := by omega
    have h2 : ¬ ((r.length : Int) + 1 + 1 + 1 + 1 = 3) := by omega
    have h3 : ¬ (2 = (r.length : Int) + 1 + 1 + 1 + 1) := by omega
    have h4 : ¬ (3 = (r.length : Int) + 1 + 1 + 1 + 1) := by omega
    simp [f_parts_of, partsB, optD, h1, h2, h3, h4]
  | [a, p], h =>
    simp only [datas_cons, datas_nil, Bool.and_eq_true] at h
    cases a <;> first | (cases k <;> cases h.1; done) | (simp [f_parts_of, partsB, optD]; done) | skip
    rename_i z
    have hz : PyData.strOk z = true := by simpa using h.1
    by_cases h1 : z = "all" ∨ z = "any"
    · have hb : (!decide ("all" = z) && !decide ("any" = z)) = false := by
        rcases h1 with rfl | rfl <;> decide
      rcases data_cases h.2.1 with rfl | ⟨_, rfl⟩ | ⟨_, rfl⟩ | ⟨_, rfl, _⟩ | ⟨ps, rfl, _⟩ | ⟨_, rfl, _⟩
      case inr.inr.inr.inr.inl =>
        simp [f_parts_of, partsB, hz, soAll, soAny, h1, hb, nth_last]
        by_cases h2 : 1 ≤ (ps.length : Int)
        · by_cases h3 : ps.length ≤ 126
          · have h4 : (ps.length : Int) ≤ 126 := by omega
            have h5 : 1 ≤ ps.length := by omega
            simp [h2, h3, h4, h5, optD]
          · have h4 : ¬ (ps.length : Int) ≤ 126 := by omega
            simp [h2, h3, h4, optD]
        · have h5 : ¬ 1 ≤ ps.length := by omega
          simp [h2, h5, optD]
      all_goals simp [f_parts_of, partsB, optD, hz, soAll, soAny, hb, nth_last]
    · have hb : (!decide ("all" = z) && !decide ("any" = z)) = true := by
        simp only [not_or] at h1
        simp [Ne.symm h1.1, Ne.symm h1.2]
      have e : partsB (.tup [.str z, p]) = none := by
        cases p <;> first | rfl | simp [partsB, h1]
      simp [f_parts_of, e, optD, hz, soAll, soAny, hb]
  | [a, q, p], h =>
    simp only [datas_cons, datas_nil, Bool.and_eq_true] at h
    cases a <;> first | (cases k <;> cases h.1; done) | (simp [f_parts_of, partsB, optD]; done) | skip
    rename_i z
    have hz : PyData.strOk z = true := by simpa using h.1
    have hq := e0 h.2.1
    by_cases h1 : z = "some"
    · subst h1
      rcases data_cases h.2.2.1 with rfl | ⟨_, rfl⟩ | ⟨_, rfl⟩ | ⟨_, rfl, _⟩ | ⟨ps, rfl, _⟩ | ⟨_, rfl, _⟩
      case inr.inr.inr.inr.inl =>
        simp [f_parts_of, soSome, nth_last]
        have no : ¬ (1 ≤ ps.length ∧ ps.length ≤ 126) → partsB (.tup [.str "some", q, .tup ps]) = none := fun hn => by
          cases q <;> first | rfl | simp [partsB, hn]
        by_cases h2 : 1 ≤ (ps.length : Int)
        · by_cases h3 : ps.length ≤ 126
          · have h4 : (ps.length : Int) ≤ 126 := by omega
            have h5 : 1 ≤ ps.length := by omega
            rcases data_cases h.2.1 with rfl | ⟨_, rfl⟩ | ⟨j, rfl⟩ | ⟨_, rfl, _⟩ | ⟨_, rfl, _⟩ | ⟨_, rfl, _⟩
            case inr.inr.inl =>
              simp [h2, h3, h4, h5, hq, isNumB, partsB]
              by_cases h6 : 1 ≤ j
              · by_cases h7 : j ≤ ps.length
                · simp [h6, h7, optD]
                · simp [h6, h7, optD]
              · simp [h6, optD]
            all_goals simp [h2, h3, h4, h5, hq, isNumB, partsB, optD]
          · have h4 : ¬ (ps.length : Int) ≤ 126 := by omega
            simp [h2, h3, h4, no (fun z => h3 z.2), optD]
        · have h5 : ¬ 1 ≤ ps.length := by omega
          simp [h2, h5, no (fun z => h5 z.1), optD]
      all_goals
        simp [f_parts_of, soSome, nth_last]
        cases q <;> rfl
    · have h1' : ¬ ("some" = z) := fun z => h1 z.symm
      have e : partsB (.tup [.str z, q, p]) = none := by
        cases q <;> cases p <;> first | rfl | simp [partsB, h1]
      simp [f_parts_of, e, optD, hz, soSome, h1']
end K06

set_option Elab.async false
set_option linter.all false
set_option maxRecDepth 100000
set_option maxHeartbeats 1000000
namespace K06
open PySem PySem.Spec PyProof.Rows L2 Mp
mutual
inductive Good : Nat → Nat → Nat → D → Prop
  | leaf {h : Nat} {x y t : Int} : termB [.int x, .int y, .int t] = true → Good (h + 1) 1 1 (.tup [.str "at", .int x, .int y, .int t])
  | two {h n k : Nat} {s : Str} {ps : List D} : (s = "all" ∨ s = "any") → 1 ≤ ps.length → ps.length ≤ 126 → Goods h n k ps → Good (h + 1) (n + 1) k (.tup [.str s, .tup ps])
  | sm {h n k : Nat} {j : Int} {ps : List D} : 1 ≤ ps.length → ps.length ≤ 126 → 1 ≤ j → j ≤ ps.length → Goods h n k ps → Good (h + 1) (n + 1) k (.tup [.str "some", .int j, .tup ps])
inductive Goods : Nat → Nat → Nat → List D → Prop
  | nil {h : Nat} : Goods h 0 0 []
  | cons {h n1 k1 n2 k2 : Nat} {d : D} {ds : List D} : Good h n1 k1 d → Goods h n2 k2 ds → Goods h (n1 + n2) (k1 + k2) (d :: ds)
end
theorem soAt : PyData.strOk "at" = true := by decide +kernel
mutual
theorem Good.data : ∀ {h n k : Nat} {d : D}, Good h n k d → Mp.data (2 * h) d = true
  | _, _, _, _, .leaf (h := h) _ => by
    rw [show 2 * (h + 1) = (2 * h + 1) + 1 by omega]
    simp [soAt]
  | _, _, _, _, .two (h := h) hs _ _ g => by
    rw [show 2 * (h + 1) = (2 * h + 1) + 1 by omega]
    have := g.data
    rcases hs with rfl | rfl <;> simp [soAll, soAny, this]
  | _, _, _, _, .sm (h := h) _ _ _ _ g => by
    rw [show 2 * (h + 1) = (2 * h + 1) + 1 by omega]
    have := g.data
    simp [soSome, this]
theorem Goods.data : ∀ {h n k : Nat} {d : List D}, Goods h n k d → datas (2 * h) d = true
  | _, _, _, _, .nil => by simp
  | _, _, _, _, .cons a b => by simp [a.data, b.data]
end
theorem Good.cases {h n k : Nat} {d : D} (g : Good h n k d) : (leafB d = true ∧ n = 1 ∧ k = 1 ∧ ∃ x y t : Int, d = .tup [.str "at", .int x, .int y, .int t]) ∨
    (leafB d = false ∧ ∃ h' n' ps, h = h' + 1 ∧ n = n' + 1 ∧ partsB d = some ps ∧ ps.length ≤ 126 ∧ Goods h' n' k ps) := by
  cases g with
  | leaf ht => exact .inl ⟨by simp [leafB, ht], rfl, rfl, _, _, _, rfl⟩
  | two hs h1 h2 g => exact .inr ⟨rfl, _, _, _, rfl, rfl, by simp [partsB, hs, h1, h2], h2, g⟩
  | sm h1 h2 h3 h4 g => exact .inr ⟨rfl, _, _, _, rfl, rfl, by simp [partsB, h1, h2, h3, h4], h2, g⟩
theorem Good.hpos {h n k : Nat} {d : D} (g : Good h n k d) : 1 ≤ h := by cases g <;> omega
theorem Good.pos {h n k : Nat} {d : D} (g : Good h n k d) : 1 ≤ n := by cases g <;> omega
theorem Good.len {h n k : Nat} {d : D} (g : Good h n k d) : ∀ xs, d = .tup xs → xs.length ≤ 1000000 := by
  cases g <;> (intro xs e; cases e; simp)
inductive Stk : List D → Nat → Nat → Prop
  | nil : Stk [] 0 0
  | snoc {s : List D} {n k h n1 k1 : Nat} {f : D} {d : Int} : Stk s n k → Good h n1 k1 f → (h : Int) + d ≤ 5 → 1 ≤ d → Stk (s ++ [.tup [f, .int d]]) (n + n1) (k + k1)
theorem Stk.len {s : List D} {n k : Nat} (h : Stk s n k) : s.length ≤ n := by
  induction h with
  | nil => exact Nat.le_refl _
  | snoc _ g _ _ ih => have := g.pos; simp; omega
theorem Stk.more {h : Nat} {d : Int} (hd : (h : Int) + d ≤ 5) (h1 : 1 ≤ d) : ∀ {ps : List D} {n1 k1 n k : Nat} {s : List D}, Stk s n k → Goods h n1 k1 ps → Stk (s ++ ps.map fun p => .tup [p, .int d]) (n + n1) (k + k1)
  | [], _, _, _, _, _, S, .nil => by simpa using S
  | p :: ps, _, _, n, k, s, S, .cons (n1 := a) (k1 := b) (n2 := a2) (k2 := b2) g gs => by
    have := Stk.more hd h1 (S.snoc g hd h1) gs
    simpa [Nat.add_assoc] using this
theorem put_len (k v : D) (ks vs : List D) : (Mp.dictPut k v ks vs).1.length ≤ ks.length + 1 := by
  unfold Mp.dictPut
  split
  · exact Nat.le_succ _
  · simp
theorem good_true {n h N K : Nat} {f : D} {m : Mem} (g : Good h N K f) (hh : h ≤ 4) (hN : N ≤ 800) (hK : K ≤ 9) : cs (n+5) 5 [f] m = .ok (.bl true) m := by
  refine eq_of ?_
  rw [c5]
  have hf : fro f = true := data_fro g.data
  simp [f_is_formula, hf]
  refine while_inv (fun j l m' => m' = m ∧ ∃ st c ks vs a b d e kk, l = [f, .own st, .int c, .odct ks vs, a, b, d, e] ∧ Stk st j kk ∧ (0 ≤ c ∧ c + j ≤ 800) ∧ ks.length + kk ≤ 9) ?_ W N _ _ ⟨rfl, _, _, _, _, _, _, _, _, K, rfl, ?_, ?_, ?_⟩ ?_
  · rintro j l m' ⟨rfl, st, c, ks, vs, a, b, d, e, kk, rfl, S, hc, hk⟩
    cases S with
    | nil =>
      simp
      omega
    | @snoc s n' k' h' n1 k1 f' d' S' g' hd hd1 =>
      have hp := g'.pos
      have hp2 := g'.hpos
      have hs := S'.len
      have hdat := g'.data
      have s4' := s4 (n := n) (m := m') g'.data (by omega)
      have s3' := s3 (n := n + 2) (m := m') g'.data (by omega)
      have a1 : ¬ 4 < d' := by omega
      have a2 : ¬ 800 < c + 1 := by omega
      have a3 : 0 < n' + n1 := by omega
      have ff := data_fro hdat
      rcases g'.cases with ⟨lf, rfl, rfl, x, y, t, rfl⟩ | ⟨lf, h2, n2, ps, rfl, rfl, pb, pl, gs⟩
      · have pl := put_len (.tup [.int x, .int y, .int t]) (.bl true) ks vs
        simp [a1, a2, ff, s4', lf]
        refine ⟨by omega, _, _, _, ⟨rfl, rfl, rfl⟩, k', S', ⟨by omega, by omega⟩, by omega⟩
      · have fp : ∀ p ∈ ps, fro p = true := fun p hp => data_fro (datas_mem gs.data hp)
        have ep : ps.map (fun p => frz (.tup [p, .int (d' + 1)])) = ps.map fun p => .tup [p, .int (d' + 1)] := by simp
        simp [a1, a2, a3, ff, s4', s3', lf, pb, optD]
        refine comp_map (fun p => .tup [p, .int (d' + 1)]) ps (by omega) (fun p hp => ?_) ?_
        · refine eq_of ?_
          rw [Ev_turn]
          simp [fp p hp]
        · refine ⟨?_, rfl, _, _, _, ⟨rfl, rfl, rfl⟩, k' + k1, ?_, ⟨?_, ?_⟩, ?_⟩
          · simp; omega
          · have := S'.more (d := d' + 1) (by omega) (by omega) gs
            rw [ep]
            exact this
          · omega
          · omega
          · omega
  · have := Stk.snoc (d := 1) .nil g (by omega) (by omega)
    simpa using this
  · omega
  · simp; omega
  · show N < 900; omega
/-- no leaf, no parts: no formula -/
theorem bad_one {n k : Nat} {b : D} {m : Mem} (hd : data k b = true) (hk : k ≤ 40) (hl : ∀ xs, b = .tup xs → xs.length ≤ 1000000) (h1 : leafB b = false) (h2 : partsB b = none) : cs (n+5) 5 [b] m = .ok (.bl false) m := by
  refine eq_of ?_
  rw [c5]
  have fb := data_fro hd
  have s4' := s4 (n := n) (m := m) hd hk
  have s3' := s3 (n := n + 2) (m := m) hd hk
  simp [f_is_formula, fb]
  rw [show W = 899 + 1 from rfl, while_step]
  simp [fb, s4', s3', h1, h2, optD]
/-- .. nor with it as its last part -/
theorem bad_any {n h N K k : Nat} {f b : D} {m : Mem} (g : Good h N K f) (hh : h ≤ 4) (hd : data k b = true) (hk : k ≤ 30) (hl : ∀ xs, b = .tup xs → xs.length ≤ 1000000) (h1 : leafB b = false) (h2 : partsB b = none) :
    cs (n+5) 5 [.tup [.str "any", .tup [f, b]]] m = .ok (.bl false) m := by
  refine eq_of ?_
  rw [c5]
  have fb := data_fro hd
  have ff := data_fro g.data
  have s4' := s4 (n := n) (m := m) hd (by omega)
  have s3' := s3 (n := n + 2) (m := m) hd (by omega)
  have hw : data 40 (.tup [.str "any", .tup [f, b]]) = true := by
    simp [soAny, data_mono (show 2 * h ≤ 38 by omega) g.data, data_mono (show k ≤ 38 by omega) hd]
  have w4 := s4 (n := n) (m := m) hw (by omega)
  have w3 := s3 (n := n + 2) (m := m) hw (by omega)
  simp [f_is_formula]
  rw [show W = 898 + 1 + 1 from rfl, while_step]
  simp [w4, w3, leafB, partsB, optD]
  refine comp_map (fun p => .tup [p, .int 2]) [f, b] (by simp) (fun p hp => ?_) ?_
  · refine eq_of ?_
    rw [Ev_turn]
    have fp : fro p = true := by
      rcases List.mem_cons.mp hp with rfl | hp
      · exact ff
      · rcases List.mem_cons.mp hp with rfl | hp
        · exact fb
        · cases hp
    simp [fp]
  · simp
    rw [while_step]
    simp [fb, s4', s3', h1, h2, optD]
end K06

set_option Elab.async false
set_option linter.all false
set_option maxRecDepth 100000
set_option maxHeartbeats 1000000
namespace K06
open PySem PySem.Spec PyProof.Rows L2 Mp
/-- the judge's loop by itself: the last part first -/
def judge : Nat → List (D × Int) → Int → List D → Option Bool
  | 0, _, _, _ => none
  | _ + 1, [], _, ks => some (decide (ks.length ≤ 9))
  | w + 1, (one, deep) :: st, c, ks => if 4 < deep ∨ 800 < c + 1 then some false
    else if leafB one = true then judge w st (c + 1) (match one with
      | .tup (_ :: r) => if ks.any (fun x => eqv x (.tup r)) then ks else ks ++ [.tup r]
      | _ => ks)
    else match partsB one with
      | none => some false
      | some ps => if ps.length ≤ 126 then judge w (ps.reverse.map (fun p => (p, deep + 1)) ++ st) (c + 1) ks else none
def stk (st : List (D × Int)) : List D := (st.map fun p => .tup [p.1, .int p.2]).reverse
def wC : E := match f_is_formula.body with
  | [_, .whil c _, _] => c
  | _ => .lit .non
def wB : List S := match f_is_formula.body with
  | [_, .whil _ b, _] => b
  | _ => []
theorem parts_data {k : Nat} {d : D} {ps : List D} (h : data (k + 2) d = true) (e : partsB d = some ps) : datas k ps = true := by
  unfold partsB at e
  split at e
  · split at e
    · cases e
      simpa using (by simpa using h : _ ∧ _).2
    · cases e
  · split at e
    · cases e
      simpa using (by simpa using h : _ ∧ _).2
    · cases e
  · cases e
theorem leaf_tup {d : D} (e : leafB d = true) : ∃ x y t : Int, d = .tup [.str "at", .int x, .int y, .int t] := by
  unfold leafB at e
  split at e
  · rename_i a x y t
    rw [Bool.and_eq_true] at e
    obtain ⟨e1, e2⟩ := e
    unfold termB at e2
    split at e2
    · rename_i h; cases h
      exact ⟨_, _, _, by rw [of_decide_eq_true e1]⟩
    · cases e2
  · cases e
theorem judge_ok {n : Nat} {m : Mem} {K : Mp.Fin} {r : Bool} {v : D} (h2 : r = false → K.rt (.bl false) m) (h1 : ∀ (c : Int) (ks vs : List D) (a b d e : D), decide (ks.length ≤ 9) = r → K.nx [v, .own [], .int c, .odct ks vs, a, b, d, e] m) :
    ∀ (w : Nat) (st : List (D × Int)) (c : Int) (ks vs : List D) (a b d e : D), judge w st c ks = some r → (∀ p ∈ st, 1 ≤ p.2 ∧ p.2 ≤ 5 ∧ data (2 * (6 - p.2).toNat + 8) p.1 = true) → st.length + 126 * w ≤ 1000000 → ks.length + w ≤ 1000000 →
      EvS (whileGo (fun l m => evE (cs (n+4)) true wC l m) (fun l m => evSs (cs (n+4)) W wB l m) w [v, .own (stk st), .int c, .odct ks vs, a, b, d, e] m) K
  | 0, _, _, _, _, _, _, _, _, hj, _, _, _ => by cases hj
  | w + 1, [], c, ks, vs, a, b, d, e, hj, _, _, _ => by
    rw [while_step]
    simp [wC, f_is_formula, stk]
    exact h1 _ _ _ _ _ _ _ (Option.some.inj hj)
  | w + 1, (one, deep) :: st, c, ks, vs, a, b, d, e, hj, hd, hl, hk => by
    obtain ⟨d1, d5, dd⟩ := hd _ List.mem_cons_self
    have d1 : 1 ≤ deep := d1
    have d5 : deep ≤ 5 := d5
    have dd : data (2 * (6 - deep).toNat + 8) one = true := dd
    have hd' : ∀ p ∈ st, 1 ≤ p.2 ∧ p.2 ≤ 5 ∧ data (2 * (6 - p.2).toNat + 8) p.1 = true := fun p hp => hd p (List.mem_cons_of_mem _ hp)
    have ff := data_fro dd
    have s4' := s4 (n := n) (m := m) dd (by omega)
    have s3' := s3 (n := n + 2) (m := m) dd (by omega)
    have es : stk ((one, deep) :: st) = stk st ++ [.tup [one, .int deep]] := by simp [stk]
    rw [List.length_cons] at hl
    rw [while_step, es]
    simp [wC, wB, f_is_formula]
    unfold judge at hj
    by_cases g1 : 4 < deep ∨ 800 < c + 1
    · rw [if_pos g1] at hj
      have := h2 (Option.some.inj hj).symm
      by_cases g2 : 4 < deep
      · simp [g2, this]
      · simp [g2, g1.resolve_left g2, this]
    · rw [if_neg g1] at hj
      have g2 : ¬ 4 < deep := fun z => g1 (.inl z)
      have g3 : ¬ 800 < c + 1 := fun z => g1 (.inr z)
      by_cases lf : leafB one = true
      · rw [if_pos lf] at hj
        obtain ⟨x, y, t, rfl⟩ := leaf_tup lf
        simp [g2, g3, s4', lf]
        refine ⟨by omega, ?_⟩
        have go := judge_ok (n := n) h2 h1 w st (c + 1) (Mp.dictPut (.tup [.int x, .int y, .int t]) (.bl true) ks vs).1 (Mp.dictPut (.tup [.int x, .int y, .int t]) (.bl true) ks vs).2 a (.tup [.str "at", .int x, .int y, .int t]) (.int deep) e
        simp [wC, wB, f_is_formula] at go
        refine go ?_ (fun a b ha => hd' (a, b) ha) (by omega) (by have := put_len (.tup [.int x, .int y, .int t]) (.bl true) ks vs; omega)
        have ek : ∀ (k v : D) (ks vs : List D), (Mp.dictPut k v ks vs).1 = if (ks.any fun x => eqv x k) = true then ks else ks ++ [k] := fun k v ks vs => by
          unfold Mp.dictPut
          split <;> rfl
        rw [ek]
        exact hj
      · rw [if_neg lf] at hj
        have lf : leafB one = false := by simpa using lf
        cases pb : partsB one with
        | none =>
          rw [pb] at hj
          have := h2 (Option.some.inj hj).symm
          simp [g2, g3, ff, s4', s3', lf, pb, optD, this]
        | some ps =>
          rw [pb] at hj
          have hj : (if ps.length ≤ 126 then judge w (ps.reverse.map (fun p => (p, deep + 1)) ++ st) (c + 1) ks else none) = some r := hj
          by_cases pl : ps.length ≤ 126
          · rw [if_pos pl] at hj
            have dp : datas (2 * (6 - (deep + 1)).toNat + 8) ps = true := by
              refine parts_data ?_ pb
              rw [show 2 * (6 - (deep + 1)).toNat + 8 + 2 = 2 * (6 - deep).toNat + 8 by omega]
              exact dd
            have fp : ∀ p ∈ ps, fro p = true := fun p hp => data_fro (datas_mem dp hp)
            have ep : ps.map (fun p => frz (.tup [p, .int (deep + 1)])) = ps.map fun p => .tup [p, .int (deep + 1)] := by simp
            simp [g2, g3, ff, s4', s3', lf, pb, optD]
            refine comp_map (fun p => .tup [p, .int (deep + 1)]) ps (by omega) (fun p hp => ?_) ?_
            · refine eq_of ?_
              rw [Ev_turn]
              simp [fp p hp]
            · have go := judge_ok (n := n) h2 h1 w (ps.reverse.map (fun p => (p, deep + 1)) ++ st) (c + 1) ks vs (.tup ps) one (.int deep) e hj (fun p hp => ?_) (by simp; omega) (by omega)
              · have el : stk (ps.reverse.map (fun p => (p, deep + 1)) ++ st) = stk st ++ ps.map fun p => .tup [p, .int (deep + 1)] := by
                  simp [stk, List.map_reverse, Function.comp_def]
                rw [el] at go
                simp [wC, wB, f_is_formula] at go
                refine ⟨by simp [stk]; omega, ?_⟩
                rw [ep]
                exact go
              · rcases List.mem_append.mp hp with hp | hp
                · obtain ⟨q, hq, rfl⟩ := List.mem_map.mp hp
                  exact ⟨by show 1 ≤ deep + 1; omega, by show deep + 1 ≤ 5; omega, datas_mem dp (List.mem_reverse.mp hq)⟩
                · exact hd' p hp
          · rw [if_neg pl] at hj
            cases hj
theorem formula_eq {n : Nat} {m : Mem} {v : D} {r : Bool} (hd : data 18 v = true) (h : judge W [(v, 1)] 0 [] = some r) : cs (n+5) 5 [v] m = .ok (.bl r) m := by
  refine eq_of ?_
  rw [c5]
  have ff := data_fro hd
  simp [f_is_formula, ff]
  have go := fun K h2 h1 => judge_ok (n := n) (m := m) (K := K) (v := v) (r := r) h2 h1 W [(v, 1)] 0 [] [] .unb .unb .unb .unb h (fun p hp => by simp at hp; subst hp; exact ⟨by show (1 : Int) ≤ 1; decide, by show (1 : Int) ≤ 5; decide, hd⟩) (by show 1 + 126 * 900 ≤ 1000000; decide) (by decide)
  simp [wC, wB, f_is_formula, stk] at go
  refine go _ ?_ ?_
  · intro e; simp [e]
  · intro c ks vs a b d e hr
    simp [← hr]
    omega
end K06

set_option Elab.async false
set_option linter.all false
set_option maxRecDepth 100000
set_option maxHeartbeats 1000000
namespace K06
open PySem PySem.Spec PyProof.Rows L2 Mp
theorem all_of {L : List D} {Q : D → Bool} {x : D} (hx : x ∈ L) (h : L.all Q = true) : Q x = true := List.all_eq_true.mp h x hx
def jud (x : D) : Bool := data 18 x && (judge W [(x, 1)] 0 []).isSome
def ans (x : D) : Bool := (judge W [(x, 1)] 0 []).getD false
theorem jud_ok {n : Nat} {m : Mem} {x : D} (h : jud x = true) : cs (n+5) 5 [x] m = .ok (.bl (ans x)) m := by
  unfold jud at h
  rw [Bool.and_eq_true] at h
  obtain ⟨r, hr⟩ := Option.isSome_iff_exists.mp h.2
  have e := formula_eq (n := n) (m := m) h.1 hr
  rw [e]
  unfold ans
  rw [hr]; rfl
theorem op_of {α : Type} {o : Option α} {P : α → Prop} {a : α} (e : o = some a) (h : P a) : op o P := by rw [e]; exact h
theorem upTo_mem : ∀ {n : Nat} {lo : Int} {x : D}, x ∈ upTo lo n → ∃ i : Int, x = .int i
  | 0, _, _, h => by cases h
  | n + 1, lo, x, h => by
    rcases List.mem_cons.mp h with rfl | h
    · exact ⟨_, rfl⟩
    · exact upTo_mem h
theorem bnds (n : Nat) (m : Mem) : cs (n+6) 13 [] m = .ok (.bl true) m := by
  refine eq_of ?_
  rw [c13]
  simp [f_law_bounds_so, repOk]
  refine comp_map (fun x => .tup [.str "at", x, .int 0, .int 1]) _ (by rw [upTo_len]; decide) (fun x hx => ?_) ?_
  · obtain ⟨i, rfl⟩ := upTo_mem hx
    refine eq_of ?_
    rw [Ev_turn]
    simp
  · refine ⟨by decide +kernel, by decide +kernel, ?_⟩
    refine op_of (a := .tup [.str "all", .tup (rep 6 [.tup [.str "at", .int 0, .int 0, .int 1]])]) (by rfl) ?_
    refine ⟨by decide +kernel, ?_⟩
    refine comp_map (fun x => .bl (ans x)) _ (by decide +kernel) (fun x hx => ?_) ?_
    · have h := all_of (Q := jud) hx (by decide +kernel)
      refine eq_of ?_
      rw [Ev_turn]
      have hf : fro x = true := data_fro (Bool.and_eq_true_iff.mp h).1
      simp [hf, jud_ok h]
    · exact ⟨by decide +kernel, by decide +kernel, by decide +kernel, rfl⟩
end K06

set_option Elab.async false
set_option linter.all false
set_option maxRecDepth 100000
set_option maxHeartbeats 1000000
namespace K06
open PySem PySem.Spec PyProof.Rows L2 Mp
theorem d7 {n l : Nat} {m : Mem} {many : Int} {P : D → Mem → Prop} (h : Src l m) (h1 : 1 ≤ many) (h2 : many < 2 ^ 64) (hP : ∀ (r : Int) m', 0 ≤ r → r < many → Step l m m' → P (.int r) m') : Ev (cs (n+1) 7 [.ref l, .int many] m) P := draw_ok h h1 h2 hP
theorem nth_mem {xs : List D} {r : Int} (h0 : 0 ≤ r) (h1 : r < xs.length) : ∃ x, nth xs r = some x ∧ x ∈ xs := by
  rw [nth_nat h0 h1, List.getElem?_eq_getElem (by omega)]
  exact ⟨_, rfl, List.getElem_mem _⟩
theorem d8 {n l : Nat} {m : Mem} {xs : List D} {P : D → Mem → Prop} (h : Src l m) (h1 : 1 ≤ xs.length) (h2 : xs.length ≤ 1000000) (hP : ∀ x m', x ∈ xs → Step l m m' → P x m') : Ev (cs (n+2) 8 [.ref l, .lst xs] m) P := by
  rw [c8]
  simp [f_law_of]
  refine d7 h (by omega) (by omega) fun r m' r0 r1 st => ?_
  obtain ⟨x, e, hx⟩ := nth_mem r0 r1
  simp [e]
  exact hP x m' hx st
/-- a drawn term -/
def isTerm (d : D) : Prop := ∃ x y t : Int, d = .tup [.int x, .int y, .int t] ∧ termB [.int x, .int y, .int t] = true
theorem d9 {n l : Nat} {m : Mem} {P : D → Mem → Prop} (h : Src l m) (hP : ∀ x m', isTerm x → Step l m m' → P x m') : Ev (cs (n+2) 9 [.ref l, .int 40, .int 6] m) P := by
  rw [c9]
  have m1 : mulOk 2 40 = true := by decide
  simp [f_law_term, m1]
  refine d7 h (by omega) (by omega) fun x m1 x0 x1 s1 => ?_
  simp
  refine d7 s1.src (by omega) (by omega) fun y m2 y0 y1 s2 => ?_
  simp
  refine d7 s2.src (by omega) (by omega) fun t m3 t0 t1 s3 => ?_
  simp
  refine hP _ m3 ⟨_, _, _, rfl, ?_⟩ ((s1.trans s2).trans s3)
  simp [termB]
  omega
theorem plains_of {n : Nat} : ∀ {xs : List D}, (∀ x ∈ xs, plain n x = true) → plains n xs = true
  | [], _ => by cases n <;> rfl
  | x :: xs, h => by
    rw [plains_cons, h x List.mem_cons_self, plains_of fun y hy => h y (List.mem_cons_of_mem _ hy)]; rfl
theorem isTerm.plain {d : D} (h : isTerm d) : plain 40 d = true := by
  obtain ⟨x, y, t, rfl, _⟩ := h
  rfl
/-- a pool of terms -/
theorem d10 {n l : Nat} {m : Mem} {P : D → Mem → Prop} (h : Src l m) (hP : ∀ xs m', 1 ≤ xs.length → xs.length ≤ 5 → (∀ x ∈ xs, isTerm x) → Step l m m' → P (.lst xs) m') : Ev (cs (n+3) 10 [.ref l, .int 5, .int 40, .int 6] m) P := by
  rw [c10]
  simp [f_law_pool]
  refine for_inv (fun i L m' => Step l m m' ∧ ∃ xs a b, L = [.ref l, .int 5, .int 40, .int 6, .lst xs, a, b] ∧ (0 < i → 1 ≤ xs.length) ∧ xs.length ≤ i ∧ ∀ x ∈ xs, isTerm x) _ _ _ ⟨h.refl, _, _, _, rfl, by simp, by simp, by simp⟩ (fun i x L m' hx hi => ?_) fun L m' hi => ?_
  · obtain ⟨st, xs, a, b, rfl, h1, h2, h3⟩ := hi
    have hi : i < 5 := by
      have := (List.getElem?_eq_some_iff.mp hx).1
      simpa [upTo_len] using this
    rw [EvS_turn]
    simp
    refine d9 st.src fun y m2 hy s2 => ?_
    have hy' := hy
    obtain ⟨u, v, t, rfl, ht⟩ := hy
    have hp : plains 39 xs = true := plains_of fun x hx => by
      obtain ⟨x, y, t, rfl, _⟩ := h3 x hx
      rfl
    simp [hp, h2]
    refine ⟨plains_of fun x hx => (h3 x hx).plain, br_of (fun hb => ⟨st.trans s2, ?_, by omega, h3⟩) fun _ => ⟨by omega, st.trans s2, fun x hx => ?_⟩⟩
    · cases xs with
      | nil => cases hb
      | cons _ _ => simp
    · rcases hx with hx | rfl
      · exact h3 x hx
      · exact hy'
  · obtain ⟨st, xs, a, b, rfl, h1, h2, h3⟩ := hi
    rw [upTo_len] at h1 h2
    simp
    exact hP xs m' (h1 (by decide)) h2 h3 st
theorem Goods.snoc : ∀ {h N K n k : Nat} {ds : List D} {d : D}, Goods h N K ds → Good h n k d → Goods h (N + n) (K + k) (ds ++ [d])
  | _, _, _, n, k, _, _, .nil, g => by simpa using Goods.cons g .nil
  | _, _, _, n, k, _, _, .cons a b, g => by
    have := Goods.cons a (b.snoc g)
    simpa [Nat.add_assoc] using this
def nb : Nat → Nat
  | 0 => 1
  | L + 1 => 1 + 3 * nb L
def kb : Nat → Nat
  | 0 => 1
  | L + 1 => 3 * kb L
theorem nb_pos : ∀ L, 1 ≤ nb L
  | 0 => Nat.le_refl _
  | L + 1 => by show 1 ≤ 1 + 3 * nb L; omega
theorem kb_pos : ∀ L, 1 ≤ kb L
  | 0 => Nat.le_refl _
  | L + 1 => by have := kb_pos L; show 1 ≤ 3 * kb L; omega
/-- how a drawn formula looks -/
inductive Drawn : D → Prop
  | leaf {x y t : Int} : termB [.int x, .int y, .int t] = true → Drawn (.tup [.str "at", .int x, .int y, .int t])
  | two {s : Str} {ps : List D} : (s = "all" ∨ s = "any") → 1 ≤ ps.length → ps.length ≤ 3 → Drawn (.tup [.str s, .tup ps])
  | sm {j : Int} {ps : List D} : 1 ≤ ps.length → ps.length ≤ 3 → 1 ≤ j → j ≤ ps.length → Drawn (.tup [.str "some", .int j, .tup ps])
theorem d11 : ∀ (L n l : Nat) (m : Mem) (pool : List D) (P : D → Mem → Prop), Src l m → 1 ≤ pool.length → pool.length ≤ 1000000 → (∀ x ∈ pool, isTerm x) →
    (∀ f N K m', Good (L + 1) N K f → N ≤ nb L → K ≤ kb L → Drawn f → Step l m m' → P f m') → Ev (cs (n + 3 + L) 11 [.ref l, .lst pool, .int ((L : Int) + 1)] m) P
  | L, n, l, m, pool, P, h, p1, p2, p3, hP => by
    cases L with
    | zero =>
      rw [show n + 3 + 0 = (n + 2) + 1 from rfl, c11]
      simp [f_law_formula]
      refine d8 h p1 p2 fun x m' hx st => ?_
      obtain ⟨x, y, t, rfl, ht⟩ := p3 x hx
      simp
      exact hP _ 1 1 m' (.leaf ht) (Nat.le_refl _) (Nat.le_refl _) (.leaf ht) st
    | succ L =>
      rw [show n + 3 + (L + 1) = (n + 3 + L) + 1 from rfl, c11]
      have c1 : (1 : Int) < (L : Int) + 1 + 1 := by omega
      simp [f_law_formula, c1]
      rw [show n + 3 + L = (n + 2 + L) + 1 by omega]
      refine d7 h (by omega) (by omega) fun way m1 w0 w1 s1 => ?_
      by_cases hw : way = 0
      · simp [hw]
        rw [show n + 2 + L + 1 = (n + 1 + L) + 2 by omega]
        refine d8 s1.src p1 p2 fun x m' hx st => ?_
        obtain ⟨x, y, t, rfl, ht⟩ := p3 x hx
        simp
        exact hP _ 1 1 m' (.leaf ht) (nb_pos _) (kb_pos _) (.leaf ht) (s1.trans st)
      · simp [hw]
        refine d7 s1.src (by omega) (by omega) fun r m2 r0 r1 s2 => ?_
        have hr : (1 + r).toNat ≤ 3 := by omega
        have hr1 : 1 ≤ (1 + r).toNat := by omega
        generalize hq : (1 + r).toNat = q at hr hr1
        simp [show 0 - 1152921504606846976 ≤ 1 + r by omega, show (-1152921504606846976 : Int) ≤ 1 + r by omega, show 1 + r < 1152921504606846976 by omega, hq]
        refine comp_inv (fun i acc m' => Step l m m' ∧ acc.length = i ∧ ∃ N K, Goods (L + 1) N K acc ∧ N ≤ i * nb L ∧ K ≤ i * kb L) _ _ _ (by rw [upTo_len]; simp; omega) ⟨s1.trans s2, rfl, 0, 0, .nil, by simp, by simp⟩ (fun i x acc m' hx hi => ?_) fun ps m3 hi => ?_
        · obtain ⟨st, ha, N, K, G, hN, hK⟩ := hi
          have hi : i < q := by
            have := (List.getElem?_eq_some_iff.mp hx).1
            simpa [upTo_len] using this
          rw [Ev_turn]
          simp
          rw [show n + 2 + L + 1 = n + 3 + L by omega]
          refine d11 L n l m' pool _ st.src p1 p2 p3 fun f N1 K1 m4 g gN gK _ s4 => ?_
          have ff := data_fro g.data
          simp [ff, ha]
          refine ⟨st.trans s4, _, _, G.snoc g, ?_, ?_⟩
          · rw [Nat.add_mul]; omega
          · rw [Nat.add_mul]; omega
        · rw [upTo_len] at hi
          obtain ⟨s3, hl, N, K, G, hN, hK⟩ := hi
          have hN3 : N + 1 ≤ nb (L + 1) := by
            show N + 1 ≤ 1 + 3 * nb L
            have : q * nb L ≤ 3 * nb L := Nat.mul_le_mul_right _ hr
            omega
          have hK3 : K ≤ kb (L + 1) := by
            show K ≤ 3 * kb L
            have : q * kb L ≤ 3 * kb L := Nat.mul_le_mul_right _ hr
            omega
          by_cases h3 : way = 3
          · simp [h3]
            refine d7 s3.src (by omega) (by omega) fun j m5 j0 j1 s5 => ?_
            simp
            exact hP _ (N + 1) K m5 (.sm (by omega) (by omega) (by omega) (by omega) G) hN3 hK3 (.sm (by omega) (by omega) (by omega) (by omega)) (s3.trans s5)
          · by_cases h1 : way = 1
            · simp [h1]
              exact hP _ (N + 1) K m3 (.two (.inl rfl) (by omega) (by omega) G) hN3 hK3 (.two (.inl rfl) (by omega) (by omega)) s3
            · have h2 : way = 2 := by omega
              simp [h2]
              exact hP _ (N + 1) K m3 (.two (.inr rfl) (by omega) (by omega) G) hN3 hK3 (.two (.inr rfl) (by omega) (by omega)) s3
end K06

set_option Elab.async false
set_option linter.all false
set_option maxRecDepth 100000
set_option maxHeartbeats 2000000
namespace K06
open PySem PySem.Spec PyProof.Rows L2 Mp
/-- what is no formula -/
structure Bent (b : D) : Prop where
  dat : data 20 b = true
  leaf : leafB b = false
  parts : partsB b = none
  len : ∀ xs, b = .tup xs → xs.length ≤ 1000000
theorem so1 : PyData.strOk "1" = true ∧ PyData.strOk "At" = true ∧ PyData.strOk "al" = true ∧ PyData.strOk "" = true ∧ PyData.strOk "or" = true := by decide +kernel
theorem so2 : ("At" : Str) ≠ "at" ∧ ("al" : Str) ≠ "at" ∧ ("" : Str) ≠ "at" ∧ ("some" : Str) ≠ "at" ∧ ("or" : Str) ≠ "at" ∧ ("any" : Str) ≠ "at" ∧ ("all" : Str) ≠ "at" := by decide +kernel
theorem so3 : ("At" : Str) ≠ "some" ∧ ("al" : Str) ≠ "some" ∧ ("" : Str) ≠ "some" ∧ ("any" : Str) ≠ "some" ∧ ("or" : Str) ≠ "some" ∧ ("all" : Str) ≠ "some" := by decide +kernel
/-- .. of a term -/
theorem bent_at {n l : Nat} {m : Mem} {x y t : Int} {P : D → Mem → Prop} (h : Src l m) (hf : termB [.int x, .int y, .int t] = true) (hP : ∀ b m', Bent (frz b) → Step l m m' → P b m') :
    Ev (cs (n+3) 12 [.ref l, .tup [.str "at", .int x, .int y, .int t]] m) P := by
  rw [c12]
  simp [f_law_bent]
  refine d7 h (by omega) (by omega) fun way m1 w0 w1 s1 => ?_
  have : way = 0 ∨ way = 1 ∨ way = 2 ∨ way = 3 ∨ way = 4 := by omega
  rcases this with rfl | rfl | rfl | rfl | rfl
  · simp
    exact hP _ m1 ⟨by simp [soAt], rfl, rfl, fun xs e => by cases e⟩ s1
  · simp
    refine d8 s1.src (by simp) (by simp) fun v m2 hv s2 => ?_
    simp at hv
    rcases hv with rfl | rfl | rfl
    all_goals
      simp
      exact hP _ m2 ⟨by simp [soAt], rfl, rfl, fun xs e => by cases e; simp⟩ (s1.trans s2)
  · simp
    exact hP _ m1 ⟨by simp [soAt], rfl, rfl, fun xs e => by cases e; simp⟩ s1
  · simp [soAt, soSome]
    refine d8 s1.src (by simp) (by simp) fun v m2 hv s2 => ?_
    simp at hv
    rcases hv with rfl | rfl | rfl | rfl | rfl | rfl | rfl
    all_goals
      simp
      exact hP _ m2 ⟨by simp [so1, soSome], by simp [leafB, so2], rfl, fun xs e => by cases e; simp⟩ (s1.trans s2)
  · simp
    refine d7 s1.src (by omega) (by omega) fun at' m2 a0 a1 s2 => ?_
    have ha : at' = 0 ∨ at' = 1 ∨ at' = 2 := by omega
    rcases ha with rfl | rfl | rfl
    all_goals
      simp
      refine d8 s2.src (by simp) (by simp) fun v m3 hv s3 => ?_
      simp at hv
      rcases hv with rfl | rfl | rfl | rfl | rfl | rfl | rfl | rfl
      all_goals
        simp
        exact hP _ m3 ⟨by simp [so1, soAt], by simp [leafB, termB], rfl, fun xs e => by cases e; simp⟩ ((s1.trans s2).trans s3)
/-- .. of an all, an any -/
theorem bent_two {n l : Nat} {m : Mem} {z : Str} {ps : List D} {P : D → Mem → Prop} (h : Src l m) (hz : z = "all" ∨ z = "any") (hd : datas 8 ps = true) (h1 : 1 ≤ ps.length) (h2 : ps.length ≤ 3) (hP : ∀ b m', Bent (frz b) → Step l m m' → P b m') :
    Ev (cs (n+3) 12 [.ref l, .tup [.str z, .tup ps]] m) P := by
  rw [c12]
  have sz : PyData.strOk z = true := by rcases hz with rfl | rfl <;> decide +kernel
  have z1 : z ≠ "some" := by rcases hz with rfl | rfl <;> decide +kernel
  have d9 : datas 9 ps = true := datas_mono (by omega) hd
  have d18 : datas 18 ps = true := datas_mono (by omega) hd
  have d16 : datas 16 ps = true := datas_mono (by omega) hd
  simp [f_law_bent]
  refine d7 h (by omega) (by omega) fun way m1 w0 w1 s1 => ?_
  have : way = 0 ∨ way = 1 ∨ way = 2 ∨ way = 3 ∨ way = 4 := by omega
  rcases this with rfl | rfl | rfl | rfl | rfl
  · simp
    exact hP _ m1 ⟨by simp [sz, d18], rfl, rfl, fun xs e => by cases e⟩ s1
  · simp
    refine d8 s1.src (by simp) (by simp) fun v m2 hv s2 => ?_
    simp at hv
    rcases hv with rfl | rfl | rfl
    all_goals
      simp
      exact hP _ m2 ⟨by simp [soAt, sz, d18], rfl, by simp [partsB], fun xs e => by cases e; simp⟩ (s1.trans s2)
  · simp
    exact hP _ m1 ⟨by simp [sz], rfl, rfl, fun xs e => by cases e; simp⟩ s1
  · simp [sz, soSome, z1]
    refine d8 s1.src (by simp) (by simp) fun v m2 hv s2 => ?_
    simp at hv
    rcases hv with rfl | rfl | rfl | rfl | rfl | rfl | rfl
    all_goals
      simp
      exact hP _ m2 ⟨by simp [so1, soSome, d18], by simp [leafB], by simp [partsB], fun xs e => by cases e; simp⟩ (s1.trans s2)
  · simp
    refine d7 s1.src (by omega) (by omega) fun at' m2 a0 a1 s2 => ?_
    have ha : at' = 0 := by omega
    subst ha
    simp
    refine d8 s2.src (by simp) (by simp) fun v m3 hv s3 => ?_
    simp at hv
    rcases hv with rfl | rfl | rfl | rfl | rfl | rfl | rfl | rfl
    all_goals
      simp
      exact hP _ m3 ⟨by simp [so1, sz, d16], by simp [leafB], by simp [partsB], fun xs e => by cases e; simp⟩ ((s1.trans s2).trans s3)
/-- .. of a some -/
theorem bent_some {n l : Nat} {m : Mem} {j : Int} {ps : List D} {P : D → Mem → Prop} (h : Src l m) (hd : datas 8 ps = true) (h1 : 1 ≤ ps.length) (h2 : ps.length ≤ 3) (hP : ∀ b m', Bent (frz b) → Step l m m' → P b m') :
    Ev (cs (n+3) 12 [.ref l, .tup [.str "some", .int j, .tup ps]] m) P := by
  rw [c12]
  have d18 : datas 18 ps = true := datas_mono (by omega) hd
  have d16 : datas 16 ps = true := datas_mono (by omega) hd
  simp [f_law_bent]
  refine d7 h (by omega) (by omega) fun way m1 w0 w1 s1 => ?_
  have : way = 0 ∨ way = 1 ∨ way = 2 ∨ way = 3 ∨ way = 4 := by omega
  rcases this with rfl | rfl | rfl | rfl | rfl
  · simp
    exact hP _ m1 ⟨by simp [soSome, d18], rfl, rfl, fun xs e => by cases e⟩ s1
  · simp
    refine d8 s1.src (by simp) (by simp) fun v m2 hv s2 => ?_
    simp at hv
    rcases hv with rfl | rfl | rfl
    all_goals
      simp
      exact hP _ m2 ⟨by simp [soAt, soSome, d18], by simp [leafB, so2], by simp [partsB], fun xs e => by cases e; simp⟩ (s1.trans s2)
  · simp
    exact hP _ m1 ⟨by simp [soSome], rfl, rfl, fun xs e => by cases e; simp⟩ s1
  · simp [soSome, soAny]
    refine d8 s1.src (by simp) (by simp) fun v m2 hv s2 => ?_
    simp at hv
    rcases hv with rfl | rfl | rfl | rfl | rfl | rfl | rfl
    all_goals
      simp
      exact hP _ m2 ⟨by simp [so1, soAny, d18], by simp [leafB], by simp [partsB, so3], fun xs e => by cases e; simp⟩ (s1.trans s2)
  · simp
    refine d7 s1.src (by omega) (by omega) fun at' m2 a0 a1 s2 => ?_
    have ha : at' = 0 ∨ at' = 1 := by omega
    rcases ha with rfl | rfl
    all_goals
      simp
      refine d8 s2.src (by simp) (by simp) fun v m3 hv s3 => ?_
      simp at hv
      rcases hv with rfl | rfl | rfl | rfl | rfl | rfl | rfl | rfl
      all_goals
        simp
        exact hP _ m3 ⟨by simp [so1, soSome, d18, d16], by simp [leafB], by simp [partsB] <;> omega, fun xs e => by cases e; simp⟩ ((s1.trans s2).trans s3)
theorem d12 {n l : Nat} {m : Mem} {f : D} {P : D → Mem → Prop} (h : Src l m) (hd : data 10 f = true) (D : Drawn f) (hP : ∀ b m', Bent (frz b) → Step l m m' → P b m') : Ev (cs (n+3) 12 [.ref l, f] m) P := by
  cases D with
  | leaf ht => exact bent_at h ht hP
  | two hz h1 h2 =>
    simp at hd
    exact bent_two h hz hd.2 h1 h2 hP
  | sm h1 h2 h3 h4 =>
    simp at hd
    exact bent_some h hd.2 h1 h2 hP
end K06

set_option Elab.async false
set_option linter.all false
set_option maxRecDepth 100000
set_option maxHeartbeats 2000000
namespace K06
open PySem PySem.Spec PyProof.Rows L2 Mp
theorem d14 (ns : List Int) (hn : ns.length ≤ 63) : Ev (cs 12 14 [.scr (ns.map .int)] []) fun v _ => v = .bl true := by
  rw [show (12 : Nat) = 11 + 1 from rfl, c14]
  simp [f_law]
  rw [show (11 : Nat) = 10 + 1 from rfl, c6]
  refine source_ok hn fun s s0 s1 => ?_
  simp
  have src : Src 0 [.lst [.lst (ns.map .int), .int 0, .int 0, .int s]] := by simpa using src_new (m := []) hn s0 s1
  refine for_inv (fun i L m' => Src 0 m' ∧ ∃ a b c, L = [.scr (ns.map .int), .ref 0, a, b, c]) _ _ _ ⟨src, _, _, _, rfl⟩ (fun i x L m' hx hi => ?_) fun L m' hi => ?_
  · obtain ⟨src, a, b, c, rfl⟩ := hi
    rw [EvS_turn]
    simp
    refine d10 (n := 8) src fun pool m1 p1 p2 p3 s1 => ?_
    simp
    refine (show Ev (cs (6 + 3 + 2) 11 [.ref 0, .lst pool, .int (((2 : Nat) : Int) + 1)] m1) _ from ?_)
    refine d11 2 6 0 m1 pool _ s1.src p1 (by omega) p3 fun f N K m2 g hN hK D s2 => ?_
    have ff := data_fro g.data
    have hN : N ≤ 13 := hN
    have hK : K ≤ 9 := hK
    have e1 := good_true (n := 6) (m := m2) g (by omega) (by omega) hK
    have e2 := good_true (n := 6) (m := m2) (.two (.inl rfl) (by simp) (by simp) (.cons g .nil)) (by omega) (by omega) (by omega)
    simp [ff, e1, e2]
    refine d12 (n := 8) s2.src (data_mono (by omega) g.data) D fun b m3 B s3 => ?_
    have fb := data_fro B.dat
    have e3 := bad_one (n := 6) (m := m3) B.dat (by omega) B.len B.leaf B.parts
    have e4 := bad_any (n := 6) (m := m3) g (by omega) B.dat (by omega) B.len B.leaf B.parts
    simp [ff, fb, e3, e4]
    exact s3.src
  · obtain ⟨src, a, b, c, rfl⟩ := hi
    simp
    rw [bnds 5 m']
    simp
theorem law_ok (ns : List Int) (hn : ns.length ≤ 63) : ∃ m', callI (tabOf tab) W 12 14 [.scr (ns.map .int)] [] = .ok (.bl true) m' := by
  obtain ⟨v, m', e, rfl⟩ := (d14 ns hn).eq
  exact ⟨m', e⟩
end K06

set_option Elab.async false
set_option linter.all false
set_option maxRecDepth 100000
set_option maxHeartbeats 0
namespace K06
open PySem PySem.Spec PyProof.Rows L2 Mp
abbrev mkD (at_ : PySem.Str × Option PySem.Str) (nm q : PySem.Str) (s : Stmt) : He.DefD := ⟨at_, nm, q, defArgs s, defBody s, defScope s, [], []⟩
def fn : List He.DefD := [mkD ("is_number", none) "is_number" "is_number" (top 1),
  mkD ("are_numbers", none) "are_numbers" "are_numbers" (top 2),
  mkD ("is_term", none) "is_term" "is_term" (top 10),
  mkD ("parts_of", none) "parts_of" "parts_of" (top 11),
  mkD ("is_leaf", none) "is_leaf" "is_leaf" (top 12),
  mkD ("is_formula", none) "is_formula" "is_formula" (top 13),
  mkD ("_law_source", none) "_law_source" "_law_source" (top 15),
  mkD ("_law_draw", none) "_law_draw" "_law_draw" (top 16),
  mkD ("_law_of", none) "_law_of" "_law_of" (top 17),
  mkD ("_law_term", none) "_law_term" "_law_term" (top 18),
  mkD ("_law_pool", none) "_law_pool" "_law_pool" (top 19),
  mkD ("_law_formula", none) "_law_formula" "_law_formula" (top 20),
  mkD ("_law_bent", none) "_law_bent" "_law_bent" (top 21),
  mkD ("_law_bounds_so", none) "_law_bounds_so" "_law_bounds_so" (top 22),
  mkD ("law", none) "law" "law" (top 23)]
def fa : List He.Fa := [.glo "is_number", .glo "are_numbers", .glo "is_term", .glo "parts_of", .glo "is_leaf", .glo "is_formula", .glo "_law_source", .glo "_law_draw", .glo "_law_of", .glo "_law_term", .glo "_law_pool", .glo "_law_formula", .glo "_law_bent", .glo "_law_bounds_so", .glo "law", .int "DEEPEST" 4, .int "FAR" 40, .int "LATE" 6, .int "MOST_FORMULAS" 800, .int "MOST_PARTS" 126, .int "MOST_TERMS" 9, .free "abs", .free "all", .free "bool", .free "int", .free "isinstance", .free "len", .free "list", .free "range", .free "str", .free "tuple"]
abbrev R : PySem.W.OpenRow := PySem.W.OpenLaw.row PySem.Challenge.rw_frontpace_k06_formulas_judged
abbrev hk : PySem.W.Hook := He.hookD 5 fa fn
def ob (s : PySem.W.SharedT) : He.AlD := He.obsDG 5 fa fn (HandSHeadRun.getT s)
theorem ob_eq (s : PySem.W.SharedT) : ob s = hk.obs s.abs := He.obsDG_eq (HandSHeadRun.getT_eq s)
def nm0 : List PySem.Str := ["is_number", "are_numbers", "FAR", "LATE", "MOST_TERMS", "MOST_PARTS", "MOST_FORMULAS", "DEEPEST", "is_term", "parts_of", "is_leaf", "is_formula", "_law_source", "_law_draw", "_law_of", "_law_term", "_law_pool", "_law_formula", "_law_bent", "_law_bounds_so"]
def nms : List PySem.Str := nm0
theorem run (w : World) : HandSHeadRun.RunEq R (PySem.W.view R.prog [23]) hk ob 20000 nms w := by
  intro os
  kernel_rfl
theorem sh_f_is_number : ∀ s ∈ d_f_is_number.shapes, ShapeOk d_f_is_number s := by
  intro s h
  rcases List.mem_cons.mp h with h | h
  · subst h; exact ⟨rfl, fun _ _ _ _ _ _ us ws h1 h2 => match us, ws, h1, h2 with | [_], [], _, _ => rfl⟩
  cases h
theorem sh_f_are_numbers : ∀ s ∈ d_f_are_numbers.shapes, ShapeOk d_f_are_numbers s := by
  intro s h
  rcases List.mem_cons.mp h with h | h
  · subst h; exact ⟨rfl, fun _ _ _ _ _ _ us ws h1 h2 => match us, ws, h1, h2 with | [_, _], [], _, _ => rfl⟩
  cases h
theorem sh_f_is_term : ∀ s ∈ d_f_is_term.shapes, ShapeOk d_f_is_term s := by
  intro s h
  rcases List.mem_cons.mp h with h | h
  · subst h; exact ⟨rfl, fun _ _ _ _ _ _ us ws h1 h2 => match us, ws, h1, h2 with | [_], [], _, _ => rfl⟩
  cases h
theorem sh_f_parts_of : ∀ s ∈ d_f_parts_of.shapes, ShapeOk d_f_parts_of s := by
  intro s h
  rcases List.mem_cons.mp h with h | h
  · subst h; exact ⟨rfl, fun _ _ _ _ _ _ us ws h1 h2 => match us, ws, h1, h2 with | [_], [], _, _ => rfl⟩
  cases h
theorem sh_f_is_leaf : ∀ s ∈ d_f_is_leaf.shapes, ShapeOk d_f_is_leaf s := by
  intro s h
  rcases List.mem_cons.mp h with h | h
  · subst h; exact ⟨rfl, fun _ _ _ _ _ _ us ws h1 h2 => match us, ws, h1, h2 with | [_], [], _, _ => rfl⟩
  cases h
theorem sh_f_is_formula : ∀ s ∈ d_f_is_formula.shapes, ShapeOk d_f_is_formula s := by
  intro s h
  rcases List.mem_cons.mp h with h | h
  · subst h; exact ⟨rfl, fun _ _ _ _ _ _ us ws h1 h2 => match us, ws, h1, h2 with | [], [_], _, _ => rfl⟩
  rcases List.mem_cons.mp h with h | h
  · subst h; exact ⟨rfl, fun _ _ _ _ _ _ us ws h1 h2 => match us, ws, h1, h2 with | [_], [], _, _ => rfl⟩
  cases h
theorem sh_f_law_source : ∀ s ∈ d_f_law_source.shapes, ShapeOk d_f_law_source s := by
  intro s h
  rcases List.mem_cons.mp h with h | h
  · subst h; exact ⟨rfl, fun _ _ _ _ _ _ us ws h1 h2 => match us, ws, h1, h2 with | [_], [], _, _ => rfl⟩
  cases h
theorem sh_f_law_draw : ∀ s ∈ d_f_law_draw.shapes, ShapeOk d_f_law_draw s := by
  intro s h
  rcases List.mem_cons.mp h with h | h
  · subst h; exact ⟨rfl, fun _ _ _ _ _ _ us ws h1 h2 => match us, ws, h1, h2 with | [_, _], [], _, _ => rfl⟩
  cases h
theorem sh_f_law_of : ∀ s ∈ d_f_law_of.shapes, ShapeOk d_f_law_of s := by
  intro s h
  rcases List.mem_cons.mp h with h | h
  · subst h; exact ⟨rfl, fun _ _ _ _ _ _ us ws h1 h2 => match us, ws, h1, h2 with | [_, _], [], _, _ => rfl⟩
  cases h
theorem sh_f_law_term : ∀ s ∈ d_f_law_term.shapes, ShapeOk d_f_law_term s := by
  intro s h
  rcases List.mem_cons.mp h with h | h
  · subst h; exact ⟨rfl, fun _ _ _ _ _ _ us ws h1 h2 => match us, ws, h1, h2 with | [_, _, _], [], _, _ => rfl⟩
  cases h
theorem sh_f_law_pool : ∀ s ∈ d_f_law_pool.shapes, ShapeOk d_f_law_pool s := by
  intro s h
  rcases List.mem_cons.mp h with h | h
  · subst h; exact ⟨rfl, fun _ _ _ _ _ _ us ws h1 h2 => match us, ws, h1, h2 with | [_, _, _, _], [], _, _ => rfl⟩
  cases h
theorem sh_f_law_formula : ∀ s ∈ d_f_law_formula.shapes, ShapeOk d_f_law_formula s := by
  intro s h
  rcases List.mem_cons.mp h with h | h
  · subst h; exact ⟨rfl, fun _ _ _ _ _ _ us ws h1 h2 => match us, ws, h1, h2 with | [_, _, _], [], _, _ => rfl⟩
  cases h
theorem sh_f_law_bent : ∀ s ∈ d_f_law_bent.shapes, ShapeOk d_f_law_bent s := by
  intro s h
  rcases List.mem_cons.mp h with h | h
  · subst h; exact ⟨rfl, fun _ _ _ _ _ _ us ws h1 h2 => match us, ws, h1, h2 with | [_, _], [], _, _ => rfl⟩
  cases h
theorem sh_f_law_bounds_so : ∀ s ∈ d_f_law_bounds_so.shapes, ShapeOk d_f_law_bounds_so s := by
  intro s h
  rcases List.mem_cons.mp h with h | h
  · subst h; exact ⟨rfl, fun _ _ _ _ _ _ us ws h1 h2 => match us, ws, h1, h2 with | [], [], _, _ => rfl⟩
  cases h
theorem sh_f_law : ∀ s ∈ d_f_law.shapes, ShapeOk d_f_law s := by
  intro s h; cases h
theorem says {K : PySem.W.Frag} {h : Heap} {mg : PySem.Str → Option Value} (X : K.In h) (G : h.Ns mainGlobals mg) (c : He.SaysD fa fn K) : Says K mg tab vals frees := by
  refine ⟨fun d hd => ?_, fun x d hd => ?_, fun x hx => ?_⟩
  · unfold tab at hd
    rcases List.mem_cons.mp hd with hd | hd
    · subst hd
      obtain ⟨fd, F⟩ := c.def_ 0 rfl
      exact fn_says (a := He.ga K "is_number") (He.glo_ok X G (c.fact 0 (f := .glo "is_number") rfl)) ⟨fd, _, F⟩ sh_f_is_number
    rcases List.mem_cons.mp hd with hd | hd
    · subst hd
      obtain ⟨fd, F⟩ := c.def_ 1 rfl
      exact fn_says (a := He.ga K "are_numbers") (He.glo_ok X G (c.fact 1 (f := .glo "are_numbers") rfl)) ⟨fd, _, F⟩ sh_f_are_numbers
    rcases List.mem_cons.mp hd with hd | hd
    · subst hd
      obtain ⟨fd, F⟩ := c.def_ 2 rfl
      exact fn_says (a := He.ga K "is_term") (He.glo_ok X G (c.fact 2 (f := .glo "is_term") rfl)) ⟨fd, _, F⟩ sh_f_is_term
    rcases List.mem_cons.mp hd with hd | hd
    · subst hd
      obtain ⟨fd, F⟩ := c.def_ 3 rfl
      exact fn_says (a := He.ga K "parts_of") (He.glo_ok X G (c.fact 3 (f := .glo "parts_of") rfl)) ⟨fd, _, F⟩ sh_f_parts_of
    rcases List.mem_cons.mp hd with hd | hd
    · subst hd
      obtain ⟨fd, F⟩ := c.def_ 4 rfl
      exact fn_says (a := He.ga K "is_leaf") (He.glo_ok X G (c.fact 4 (f := .glo "is_leaf") rfl)) ⟨fd, _, F⟩ sh_f_is_leaf
    rcases List.mem_cons.mp hd with hd | hd
    · subst hd
      obtain ⟨fd, F⟩ := c.def_ 5 rfl
      exact fn_says (a := He.ga K "is_formula") (He.glo_ok X G (c.fact 5 (f := .glo "is_formula") rfl)) ⟨fd, _, F⟩ sh_f_is_formula
    rcases List.mem_cons.mp hd with hd | hd
    · subst hd
      obtain ⟨fd, F⟩ := c.def_ 6 rfl
      exact fn_says (a := He.ga K "_law_source") (He.glo_ok X G (c.fact 6 (f := .glo "_law_source") rfl)) ⟨fd, _, F⟩ sh_f_law_source
    rcases List.mem_cons.mp hd with hd | hd
    · subst hd
      obtain ⟨fd, F⟩ := c.def_ 7 rfl
      exact fn_says (a := He.ga K "_law_draw") (He.glo_ok X G (c.fact 7 (f := .glo "_law_draw") rfl)) ⟨fd, _, F⟩ sh_f_law_draw
    rcases List.mem_cons.mp hd with hd | hd
    · subst hd
      obtain ⟨fd, F⟩ := c.def_ 8 rfl
      exact fn_says (a := He.ga K "_law_of") (He.glo_ok X G (c.fact 8 (f := .glo "_law_of") rfl)) ⟨fd, _, F⟩ sh_f_law_of
    rcases List.mem_cons.mp hd with hd | hd
    · subst hd
      obtain ⟨fd, F⟩ := c.def_ 9 rfl
      exact fn_says (a := He.ga K "_law_term") (He.glo_ok X G (c.fact 9 (f := .glo "_law_term") rfl)) ⟨fd, _, F⟩ sh_f_law_term
    rcases List.mem_cons.mp hd with hd | hd
    · subst hd
      obtain ⟨fd, F⟩ := c.def_ 10 rfl
      exact fn_says (a := He.ga K "_law_pool") (He.glo_ok X G (c.fact 10 (f := .glo "_law_pool") rfl)) ⟨fd, _, F⟩ sh_f_law_pool
    rcases List.mem_cons.mp hd with hd | hd
    · subst hd
      obtain ⟨fd, F⟩ := c.def_ 11 rfl
      exact fn_says (a := He.ga K "_law_formula") (He.glo_ok X G (c.fact 11 (f := .glo "_law_formula") rfl)) ⟨fd, _, F⟩ sh_f_law_formula
    rcases List.mem_cons.mp hd with hd | hd
    · subst hd
      obtain ⟨fd, F⟩ := c.def_ 12 rfl
      exact fn_says (a := He.ga K "_law_bent") (He.glo_ok X G (c.fact 12 (f := .glo "_law_bent") rfl)) ⟨fd, _, F⟩ sh_f_law_bent
    rcases List.mem_cons.mp hd with hd | hd
    · subst hd
      obtain ⟨fd, F⟩ := c.def_ 13 rfl
      exact fn_says (a := He.ga K "_law_bounds_so") (He.glo_ok X G (c.fact 13 (f := .glo "_law_bounds_so") rfl)) ⟨fd, _, F⟩ sh_f_law_bounds_so
    rcases List.mem_cons.mp hd with hd | hd
    · subst hd
      obtain ⟨fd, F⟩ := c.def_ 14 rfl
      exact fn_says (a := He.ga K "law") (He.glo_ok X G (c.fact 14 (f := .glo "law") rfl)) ⟨fd, _, F⟩ sh_f_law
    cases hd
  · unfold vals at hd
    rcases List.mem_cons.mp hd with hd | hd
    · cases hd
      exact int_says X G (c.fact 15 (f := .int "DEEPEST" 4) rfl)
    rcases List.mem_cons.mp hd with hd | hd
    · cases hd
      exact int_says X G (c.fact 16 (f := .int "FAR" 40) rfl)
    rcases List.mem_cons.mp hd with hd | hd
    · cases hd
      exact int_says X G (c.fact 17 (f := .int "LATE" 6) rfl)
    rcases List.mem_cons.mp hd with hd | hd
    · cases hd
      exact int_says X G (c.fact 18 (f := .int "MOST_FORMULAS" 800) rfl)
    rcases List.mem_cons.mp hd with hd | hd
    · cases hd
      exact int_says X G (c.fact 19 (f := .int "MOST_PARTS" 126) rfl)
    rcases List.mem_cons.mp hd with hd | hd
    · cases hd
      exact int_says X G (c.fact 20 (f := .int "MOST_TERMS" 9) rfl)
    cases hd
  · have hx : x ∈ frees := List.contains_iff_mem.mp hx
    unfold frees at hx
    rcases List.mem_cons.mp hx with hx | hx
    · subst hx
      exact He.free_ok X G (c.fact 21 (f := .free "abs") rfl)
    rcases List.mem_cons.mp hx with hx | hx
    · subst hx
      exact He.free_ok X G (c.fact 22 (f := .free "all") rfl)
    rcases List.mem_cons.mp hx with hx | hx
    · subst hx
      exact He.free_ok X G (c.fact 23 (f := .free "bool") rfl)
    rcases List.mem_cons.mp hx with hx | hx
    · subst hx
      exact He.free_ok X G (c.fact 24 (f := .free "int") rfl)
    rcases List.mem_cons.mp hx with hx | hx
    · subst hx
      exact He.free_ok X G (c.fact 25 (f := .free "isinstance") rfl)
    rcases List.mem_cons.mp hx with hx | hx
    · subst hx
      exact He.free_ok X G (c.fact 26 (f := .free "len") rfl)
    rcases List.mem_cons.mp hx with hx | hx
    · subst hx
      exact He.free_ok X G (c.fact 27 (f := .free "list") rfl)
    rcases List.mem_cons.mp hx with hx | hx
    · subst hx
      exact He.free_ok X G (c.fact 28 (f := .free "range") rfl)
    rcases List.mem_cons.mp hx with hx | hx
    · subst hx
      exact He.free_ok X G (c.fact 29 (f := .free "str") rfl)
    rcases List.mem_cons.mp hx with hx | hx
    · subst hx
      exact He.free_ok X G (c.fact 30 (f := .free "tuple") rfl)
    cases hx
theorem bind_law {K : PySem.W.Frag} {fd : FuncData} {a : Addr} {kws : List (PySem.Str × V)} (F : FunD K "law" "law" (defArgs (top 23)) (defBody (top 23)) (defScope (top 23)) [] kws a fd) (s : Shared) (v : Value) : BindsTo s fd ⟨[v], []⟩ [("_law_script", v)] := by
  have b := FunD.bindsA (ps := ["_law_script"]) F fun _ _ _ _ _ _ us hl => match us, hl with | [_], _ => rfl
  exact b s [v] rfl
theorem holds_of (wf : Nat) (H : ∀ ns : List Int, ns.length ≤ 63 → ∃ m', callI (tabOf tab) wf 12 14 [.scr (ns.map .int)] [] = .ok (.bl true) m') : PySem.Challenge.rw_frontpace_k06_formulas_judged.Holds := by
  w_on; o_law
  refine HandSHeadRun.head_any (r := PySem.W.OpenLaw.row PySem.Challenge.rw_frontpace_k06_formulas_judged) (q := PySem.W.view (PySem.W.OpenLaw.row PySem.Challenge.rw_frontpace_k06_formulas_judged).prog [23]) (H := hk) (ob := ob) (M := 20000) (loose := nms) (d := HandSHeadRun.topDef (PySem.W.OpenLaw.row PySem.Challenge.rw_frontpace_k06_formulas_judged).prog 23) (kwd := []) ob_eq
    (by kernel_rfl) (fun s => by kernel_rfl) run (by kernel_rfl) (by kernel_rfl) (by kernel_rfl) (by rfl) (by first | assumption | decide +kernel) (by decide +kernel) ⟨rfl, rfl, rfl, rfl, rfl, by decide +kernel⟩ ?hw ?hc
  case hw => w_witness2
  case hc =>
    refine L2.walk_ofE (l := PySem.Challenge.rw_frontpace_k06_formulas_judged) (n := 63) (k := 12) (x := "_law_script") (CX := L2.CX0) rfl (by decide) (by kernel_rfl) ⟨rfl, by decide, by decide⟩ ?F (fun _ _ _ _ z => z)
    intro w mg fa0 h Y G hmg0
    obtain ⟨K, KX, c⟩ := Y
    have hmg : mg ("law" : PySem.Str) = some (.ref fa0) := by
      have e : (HandSHeadRun.topDef (PySem.W.OpenLaw.row PySem.Challenge.rw_frontpace_k06_formulas_judged).prog 23).name = ("law" : PySem.Str) := by kernel_rfl
      rw [← e]
      exact hmg0
    obtain ⟨fd, F⟩ := He.SaysD.def_ (fa := fa) (fn := fn) c 14 rfl
    have e := hmg.symm.trans (He.glo_ok KX G (He.SaysD.fact (fa := fa) (fn := fn) c 14 (f := .glo "law") rfl))
    cases e
    exact ⟨K, fd, spI K (callI (tabOf tab) wf 12 14), KX, bind_law F, fun H0 a ns hl _ hS => law_sp H H0 a ns hl hS, fun base _ hb => fns_ok (says KX G c) chk wf 12 14 d_f_law _ _ rfl ⟨_, _, F⟩⟩
end K06
theorem PySem.Challenge.cw_frontpace_k06_formulas_judged_holds : PySem.Challenge.rw_frontpace_k06_formulas_judged.Holds :=
  K06.holds_of K06.W K06.law_ok
