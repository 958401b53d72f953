import PyProof.Rows.All
import PyProof.EqLayable
import PySem.Builtin.Int.W1All
import HandS.ForMost
import HandS.Exc
import HandS.HeadHook1
import HandS.IsInst
import HandS.Wide
import HandS.WideBits
import HandS.TupAny
import HandS.Property
import HandS.Walk
import HandS.Zip
import HandS.Rev
import HandS.Style
import HandS.CallSlots
import HandS.Defaults
import HandS.WordsExc
import HandS.HeadNt
import HandS.HeadEnd
import HandS.Head2
import HandS.EndBits
import PySem.Challenge.RW_veiledgates_k03_whole_digits_come_home
set_option linter.all false
/-! Q1: data without a heap, and what expressions and statements do to it. -/
namespace Q
open PySem

inductive D where
  | non | bl (b : Bool) | int (i : Int) | str (x : Str)
  | tup (xs : List D) | lst (xs : List D) | dct (ks vs : List D)
  | ins (c : String) (ks : List String) (ds : List D)
  | ref (n : Nat)
  /-- the law's script -/
  | scr (xs : List D)
  deriving Inhabited

/-- how a value is held: by anyone, by a name of this frame alone (lent), by nobody else yet -/
inductive Fg where
  | fz | bw | fr
  deriving DecidableEq

inductive R (α : Type) where
  | ok (a : α) (st : List D)
  | ex (c : String) (ks : List String) (ds : List D) (st : List D)
  | no

def R.bind {α β : Type} (r : R α) (f : α → List D → R β) : R β := match r with
  | .ok a st => f a st
  | .ex c ks ds st => .ex c ks ds st
  | .no => .no
@[simp] theorem R.bind_ok {α β : Type} {a : α} {st : List D} {f : α → List D → R β} : (R.ok a st).bind f = f a st := rfl
@[simp] theorem R.bind_ex {α β : Type} {c ks ds st} {f : α → List D → R β} : (R.ex c ks ds st : R α).bind f = .ex c ks ds st := rfl
@[simp] theorem R.bind_no {α β : Type} {f : α → List D → R β} : (R.no : R α).bind f = .no := rfl

inductive Sl where
  | un | val (d : D) | own (d : D)
abbrev En := List Sl
abbrev SE := En → List D → R (D × Fg)
abbrev SEs := En → List D → R (List D)
abbrev ST := En → List D → R Bool
inductive Fl where
  | nx (ρ : En) | bk (ρ : En) | ct (ρ : En) | rt (d : D) (g : Fg) | xx (c : String) (ks : List String) (ds : List D) (ρ : En)
abbrev SS := En → List D → R Fl
abbrev SG := D → En → Option En
/-- lists of the store that must stay as they are while they are walked -/
abbrev Gd := List (Nat × List D)
abbrev SI := En → List D → R (List D × Gd)
abbrev SF := List D → List D → R (D × Fg)

/-- what stands behind a name of the store -/
def rs (st : List D) : D → D
  | .ref n => st.getD n .non
  | d => d
@[simp] theorem rs_ref {st n} : rs st (.ref n) = st.getD n .non := rfl
@[simp] theorem rs_non {st} : rs st .non = .non := rfl
@[simp] theorem rs_bl {st b} : rs st (.bl b) = .bl b := rfl
@[simp] theorem rs_int {st i} : rs st (.int i) = .int i := rfl
@[simp] theorem rs_str {st i} : rs st (.str i) = .str i := rfl
@[simp] theorem rs_tup {st i} : rs st (.tup i) = .tup i := rfl
@[simp] theorem rs_scr {st i} : rs st (.scr i) = .scr i := rfl
@[simp] theorem rs_lst {st i} : rs st (.lst i) = .lst i := rfl
@[simp] theorem rs_dct {st i j} : rs st (.dct i j) = .dct i j := rfl
@[simp] theorem rs_ins {st i j k} : rs st (.ins i j k) = .ins i j k := rfl

/-! ### expressions -/
def eVar (i : Nat) : SE := fun ρ st => match ρ[i]? with
  | some (.val d) => .ok (d, .fz) st
  | some (.own d) => .ok (d, .bw) st
  | _ => .no
def eCst (d : D) : SE := fun _ st => .ok (d, .fz) st
/-- a value that others may hold from now on -/
def fzd (f : SE) : En → List D → R D := fun ρ st => (f ρ st).bind fun p st1 => match p.2 with
  | .bw => .no
  | _ => .ok p.1 st1
def eNil : SEs := fun _ st => .ok [] st
def eCons (f : SE) (g : SEs) : SEs := fun ρ st => (fzd f ρ st).bind fun d st1 => (g ρ st1).bind fun ds st2 => .ok (d :: ds) st2

def okI (i : Int) (st : List D) : R (D × Fg) := .ok (.int i, .fz) st
def okB (b : Bool) (st : List D) : R (D × Fg) := .ok (.bl b, .fz) st
/-- one factor is small, or both are not too great -/
def mulOk (i j : Int) : Bool := decide ((-(2 ^ 64) < i ∧ i < 2 ^ 64) ∨ (-(2 ^ 64) < j ∧ j < 2 ^ 64) ∨ (i.natAbs.log2 + j.natAbs.log2 < 1000000))
def maxLen : Nat := 16777216

def bAdd (x y : D) (st : List D) : R (D × Fg) := match x, y with
  | .int i, .int j => okI (i + j) st
  | .str a, .str b => if a.length + b.length ≤ maxLen then .ok (.str (a ++ b), .fz) st else .no
  | .lst a, .lst b => if a.length + b.length ≤ maxLen then .ok (.lst (a ++ b), .fr) st else .no
  | _, _ => .no
def bSub (x y : D) (st : List D) : R (D × Fg) := match x, y with
  | .int i, .int j => okI (i - j) st
  | _, _ => .no
def bMul (x y : D) (st : List D) : R (D × Fg) := match x, y with
  | .int i, .int j => if mulOk i j then okI (i * j) st else .no
  | .lst a, .int j => if j ≤ maxLen ∧ -maxLen ≤ j ∧ a.length * j.toNat ≤ maxLen then .ok (.lst (List.replicate j.toNat a).flatten, .fr) st else .no
  | _, _ => .no
def bFdiv (x y : D) (st : List D) : R (D × Fg) := match x, y with
  | .int i, .int j => if 0 < j ∧ j < 2 ^ 9000 then okI (i / j) st else .no
  | _, _ => .no
def bMod (x y : D) (st : List D) : R (D × Fg) := match x, y with
  | .int i, .int j => if 0 < j then okI (i % j) st else .no
  | _, _ => .no
def bPow (x y : D) (st : List D) : R (D × Fg) := match x, y with
  | .int i, .int j => if 0 ≤ j ∧ j ≤ 1000000 ∧ i.natAbs < 2 ^ 64 then okI (i ^ j.toNat) st else .no
  | _, _ => .no
def bShl (x y : D) (st : List D) : R (D × Fg) := match x, y with
  | .int i, .int j => if 0 ≤ j ∧ (Builtin.Int.intBits i : Int) + j ≤ 2 ^ 27 then okI (i * 2 ^ j.toNat) st else .no
  | _, _ => .no
def bShr (x y : D) (st : List D) : R (D × Fg) := match x, y with
  | .int i, .int j => if 0 ≤ j then okI (i / 2 ^ j.toNat) st else .no
  | _, _ => .no
def bAnd (x y : D) (st : List D) : R (D × Fg) := match x, y with
  | .int i, .int j => okI (Builtin.bitAnd i j) st
  | _, _ => .no
def bOr (x y : D) (st : List D) : R (D × Fg) := match x, y with
  | .int i, .int j => okI (Builtin.bitOr i j) st
  | _, _ => .no
def bXor (x y : D) (st : List D) : R (D × Fg) := match x, y with
  | .int i, .int j => okI (Builtin.bitXor i j) st
  | _, _ => .no
abbrev SB := D → D → List D → R (D × Fg)
def eBin (o : SB) (a b : SE) : SE := fun ρ st => (a ρ st).bind fun x st1 => (b ρ st1).bind fun y st2 => o (rs st2 x.1) (rs st2 y.1) st2
def eNeg (a : SE) : SE := fun ρ st => (a ρ st).bind fun x st1 => match x.1 with
  | .int i => okI (-i) st1
  | _ => .no

/-! ### comparisons -/
mutual
/-- as data that == takes item by item -/
def toP : D → Option PyData
  | .non => some .none
  | .bl b => some (.bool b)
  | .int i => some (.int i)
  | .str x => some (.str x)
  | .lst xs => (toPs xs).map .list
  | .tup xs => (toPs xs).map .tuple
  | _ => none
def toPs : List D → Option (List PyData)
  | [] => some []
  | x :: xs => match toP x, toPs xs with
    | some p, some ps => some (p :: ps)
    | _, _ => none
end
def eqD (x y : D) : Option Bool := match toP x, toP y with
  | some p, some q => if SeqAt.shaped p ∧ SeqAt.shaped q then some (PyData.eqv p q) else none
  | _, _ => none
def ofO (o : Option Bool) (st : List D) : R (D × Fg) := match o with
  | some b => okB b st
  | none => .no
def cEq (x y : D) (st : List D) : R (D × Fg) := match x, y with
  | .int i, .int j => okB (decide (i = j)) st
  | _, _ => ofO (eqD x y) st
def cNe (x y : D) (st : List D) : R (D × Fg) := match x, y with
  | .int i, .int j => okB (!decide (i = j)) st
  | .bl i, .bl j => okB (!decide (i = j)) st
  | _, _ => ofO ((eqD x y).map (!·)) st
def cLt (x y : D) (st : List D) : R (D × Fg) := match x, y with
  | .int i, .int j => okB (decide (i < j)) st
  | _, _ => .no
def cLe (x y : D) (st : List D) : R (D × Fg) := match x, y with
  | .int i, .int j => okB (decide (i ≤ j)) st
  | _, _ => .no
def cGt (x y : D) (st : List D) : R (D × Fg) := match x, y with
  | .int i, .int j => okB (decide (j < i)) st
  | _, _ => .no
def cGe (x y : D) (st : List D) : R (D × Fg) := match x, y with
  | .int i, .int j => okB (decide (j ≤ i)) st
  | _, _ => .no
def D.isNon : D → Bool
  | .non => true
  | _ => false
/-- x is None -/
def eIsN (a : SE) : SE := fun ρ st => (a ρ st).bind fun x st1 => okB x.1.isNon st1
def eNotN (a : SE) : SE := fun ρ st => (a ρ st).bind fun x st1 => okB (!x.1.isNon) st1
/-- a < b < c -/
def eChain (o p : SB) (a b c : SE) : SE := fun ρ st => (a ρ st).bind fun x st1 => (b ρ st1).bind fun y st2 => (o (rs st2 x.1) (rs st2 y.1) st2).bind fun r st3 => match r.1 with
  | .bl true => (c ρ st3).bind fun z st4 => p (rs st4 y.1) (rs st4 z.1) st4
  | .bl false => okB false st3
  | _ => .no

/-! ### truth -/
def tru : D → Option Bool
  | .non => some false
  | .bl b => some b
  | .int i => some (i != 0)
  | .str x => if x.length ≤ maxLen then some ((x.length : Int) != 0) else none
  | .lst xs => some (!xs.isEmpty)
  | .tup xs => some (!xs.isEmpty)
  | _ => none
def tVal (a : SE) : ST := fun ρ st => (a ρ st).bind fun x st1 => match tru (rs st1 x.1) with
  | some b => .ok b st1
  | none => .no
def tAnd (a b : ST) : ST := fun ρ st => (a ρ st).bind fun x st1 => if x then b ρ st1 else .ok false st1
def tOr (a b : ST) : ST := fun ρ st => (a ρ st).bind fun x st1 => if x then .ok true st1 else b ρ st1
def tNot (a : ST) : ST := fun ρ st => (a ρ st).bind fun x st1 => .ok (!x) st1
/-- and, or of truth values as a value -/
def eAnd (a b : SE) : SE := fun ρ st => (a ρ st).bind fun x st1 => match x.1 with
  | .bl true => b ρ st1
  | .bl false => okB false st1
  | _ => .no
def eOr (a b : SE) : SE := fun ρ st => (a ρ st).bind fun x st1 => match x.1 with
  | .bl false => b ρ st1
  | .bl true => okB true st1
  | _ => .no
def eNot (a : SE) : SE := fun ρ st => (a ρ st).bind fun x st1 => match x.1 with
  | .bl b => okB (!b) st1
  | _ => .no
def eIf (t : ST) (a b : SE) : SE := fun ρ st => (t ρ st).bind fun x st1 => if x then a ρ st1 else b ρ st1

/-! ### displays, places, slices -/
def eTup (a : SEs) : SE := fun ρ st => (a ρ st).bind fun ds st1 => if ds.length ≤ maxLen then .ok (.tup ds, .fz) st1 else .no
def eLst (a : SEs) : SE := fun ρ st => (a ρ st).bind fun ds st1 => if ds.length ≤ maxLen then .ok (.lst ds, .fr) st1 else .no
def ixN (n : Nat) (i : Int) : Option Nat := if 0 ≤ i then (if i < n then some i.toNat else none) else if -(n : Int) ≤ i then some (i + n).toNat else none
def atI {α : Type} (xs : List α) (i : Int) : Option α := (ixN xs.length i).bind fun j => xs[j]?
def ofD (o : Option D) (st : List D) : R (D × Fg) := match o with
  | some d => .ok (d, .fz) st
  | none => .no
def ixD (x y : D) (st : List D) : R (D × Fg) := match x, y with
  | .lst xs, .int i => ofD (atI xs i) st
  | .tup xs, .int i => ofD (atI xs i) st
  | .str z, .int i => if z.length ≤ maxLen then ofD ((atI z.cps.toList i).map fun c => .str ⟨#[c]⟩) st else .no
  | _, _ => .no
def eIdx (a b : SE) : SE := eBin ixD a b
def sIx (n d : Nat) : Option Int → Nat
  | none => d
  | some i => if i < 0 then (i + n).toNat else min i.toNat n
def cut {α : Type} (xs : List α) (lo hi : Option Int) : List α := (xs.drop (sIx xs.length 0 lo)).take (sIx xs.length xs.length hi - sIx xs.length 0 lo)
def eNo : En → List D → R (Option Int) := fun _ st => .ok none st
def ePart (a : SE) : En → List D → R (Option Int) := fun ρ st => (a ρ st).bind fun x st1 => match x.1 with
  | .int i => .ok (some i) st1
  | _ => .no
def slD (x : D) (lo hi : Option Int) (st : List D) : R (D × Fg) := match x with
  | .lst xs => .ok (.lst (cut xs lo hi), .fr) st
  | .scr xs => .ok (.lst (cut xs lo hi), .fr) st
  | _ => .no
def eSl (a : SE) (l h : En → List D → R (Option Int)) : SE := fun ρ st => (a ρ st).bind fun x st1 => (l ρ st1).bind fun lo st2 => (h ρ st2).bind fun hi st3 => slD (rs st3 x.1) lo hi st3

/-! ### attributes, calls -/
def lkp : List String → List D → String → Option D
  | k :: ks, d :: ds, f => if k = f then some d else lkp ks ds f
  | _, _, _ => none
def atD (f : String) (x : D) (st : List D) : R (D × Fg) := match x with
  | .ins _ ks ds => ofD (lkp ks ds f) st
  | _ => .no
def eFld (a : SE) (f : String) : SE := fun ρ st => (a ρ st).bind fun x st1 => atD f (rs st1 x.1) st1
/-- a property: by the class -/
def noX {α : Type} (r : R α) : R α := match r with
  | .ex _ _ _ _ => .no
  | r => r
@[simp] theorem noX_ok {α : Type} {a : α} {st : List D} : noX (.ok a st) = .ok a st := rfl
def eProp (a : SE) (c : String) (w : SF) : SE := fun ρ st => (fzd a ρ st).bind fun x st1 => match rs st1 x with
  | .ins c' _ _ => if c' = c then noX (w [x] st1) else .no
  | _ => .no
def eCall (w : SF) (as : SEs) : SE := fun ρ st => (as ρ st).bind fun ds st1 => w ds st1
/-- the values in another order: the parameters' places of the values as they are reckoned -/
def perm (p : List Nat) (ds : List D) : List D := p.map fun i => ds.getD i .non
def eCallP (w : SF) (p : List Nat) (as : SEs) : SE := fun ρ st => (as ρ st).bind fun ds st1 => w (perm p ds) st1
/-- positional values, then keywords' values, in the parameters' order -/
def eCallK (w : SF) (p : List Nat) (as bs : SEs) : SE := fun ρ st => (as ρ st).bind fun ds st1 => (bs ρ st1).bind fun es st2 => w (perm p (ds ++ es)) st2

/-! ### built-in functions -/
def fLen (x : D) (st : List D) : R (D × Fg) := match x with
  | .lst xs => okI xs.length st
  | .tup xs => okI xs.length st
  | .str z => if z.length ≤ maxLen then okI z.length st else .no
  | _ => .no
def fList (x : D) (st : List D) : R (D × Fg) := match x with
  | .lst xs => .ok (.lst xs, .fr) st
  | .tup xs => .ok (.lst xs, .fr) st
  | _ => .no
def fTuple (x : D) (st : List D) : R (D × Fg) := match x with
  | .lst xs => .ok (.tup xs, .fz) st
  | .tup xs => .ok (.tup xs, .fz) st
  | _ => .no
def fInt (x : D) (st : List D) : R (D × Fg) := match x with
  | .int i => okI i st
  | .bl b => okI (if b then 1 else 0) st
  | _ => .no
def fAbs (x : D) (st : List D) : R (D × Fg) := match x with
  | .int i => okI (if i < 0 then -i else i) st
  | _ => .no
def boolsOf : List D → Option (List Bool)
  | [] => some []
  | .bl b :: r => (boolsOf r).map (b :: ·)
  | _ => none
def fAll (x : D) (st : List D) : R (D × Fg) := match x with
  | .lst xs => match boolsOf xs with
    | some bs => okB (bs.all id) st
    | none => .no
  | _ => .no
def fAny (x : D) (st : List D) : R (D × Fg) := match x with
  | .lst xs => match boolsOf xs with
    | some bs => okB (bs.any id) st
    | none => .no
  | _ => .no
def intsOf : List D → Option (List Int)
  | [] => some []
  | .int b :: r => (intsOf r).map (b :: ·)
  | _ => none
def fSum (x : D) (st : List D) : R (D × Fg) := match x with
  | .lst xs => match intsOf xs with
    | some bs => okI bs.sum st
    | none => .no
  | _ => .no
def eFun1 (f : D → List D → R (D × Fg)) (a : SE) : SE := fun ρ st => (a ρ st).bind fun x st1 => f (rs st1 x.1) st1
inductive Ty where
  | int | bool | str | list | tuple | dict
  deriving DecidableEq
/-- isinstance of a built-in type -/
def isTy : D → Ty → Bool
  | .int _, .int => true
  | .bl _, .int => true
  | .bl _, .bool => true
  | .str _, .str => true
  | .lst _, .list => true
  | .tup _, .tuple => true
  | .dct _ _, .dict => true
  | _, _ => false
def eIs (a : SE) (t : List Ty) : SE := fun ρ st => (a ρ st).bind fun x st1 => match rs st1 x.1 with
  | .ref _ => .no
  | .scr _ => .no
  | .ins _ _ _ => .no
  | d => okB (t.any (isTy d)) st1
def eIsC (cs : List String) (a : SE) (c : String) : SE := fun ρ st => (a ρ st).bind fun x st1 => match rs st1 x.1 with
  | .ref _ => .no
  | .scr _ => .no
  | .ins c' _ _ => if c' ∈ cs then okB (decide (c' = c)) st1 else .no
  | _ => okB false st1

/-! ### what is walked -/
mutual
def beqD : D → D → Bool
  | .non, .non => true
  | .bl a, .bl b => decide (a = b)
  | .int a, .int b => decide (a = b)
  | .str a, .str b => decide (a = b)
  | .tup a, .tup b => beqDs a b
  | .lst a, .lst b => beqDs a b
  | .dct a c, .dct b d => beqDs a b && beqDs c d
  | .ins c ks ds, .ins c' ks' ds' => decide (c = c') && (decide (ks = ks') && beqDs ds ds')
  | .ref a, .ref b => decide (a = b)
  | .scr a, .scr b => beqDs a b
  | _, _ => false
def beqDs : List D → List D → Bool
  | [], [] => true
  | x :: xs, y :: ys => beqD x y && beqDs xs ys
  | _, _ => false
end
def gdOk (gs : Gd) (st : List D) : Bool := gs.all fun p => match st[p.1]? with
  | some (.lst ys) => beqDs ys p.2
  | _ => false
/-- what a walk over a value gives -/
def walkOf (x : D) (st : List D) : Option (List D × Gd) := match x with
  | .lst xs => some (xs, [])
  | .tup xs => some (xs, [])
  | .ref m => match st[m]? with
    | some (.lst xs) => some (xs, [(m, xs)])
    | _ => none
  | _ => none
def ofW (o : Option (List D × Gd)) (h : List D → List D) (st : List D) : R (List D × Gd) := match o with
  | some (xs, gs) => .ok (h xs, gs) st
  | none => .no
def iList (a : SE) : SI := fun ρ st => (fzd a ρ st).bind fun x st1 => ofW (walkOf x st1) id st1
def smallI (i : Int) : Bool := decide (-(2 ^ 62) ≤ i ∧ i < 2 ^ 62)
def rangeL (lo hi : Int) : List D := (List.range (hi - lo).toNat).map fun (k : Nat) => D.int (lo + k)
def iRange1 (a : SE) : SI := fun ρ st => (a ρ st).bind fun x st1 => match x.1 with
  | .int j => if smallI j then .ok (rangeL 0 j, []) st1 else .no
  | _ => .no
def iRange2 (a b : SE) : SI := fun ρ st => (a ρ st).bind fun x st1 => (b ρ st1).bind fun y st2 => match x.1, y.1 with
  | .int i, .int j => if smallI i && smallI j then .ok (rangeL i j, []) st2 else .no
  | _, _ => .no
def seqD : D → Option (List D)
  | .lst xs => some xs
  | .tup xs => some xs
  | _ => none
def pairs : List D → List D → List D
  | x :: xs, y :: ys => .tup [x, y] :: pairs xs ys
  | _, _ => []
def iZip (a b : SE) : SI := fun ρ st => (fzd a ρ st).bind fun x st1 => (fzd b ρ st1).bind fun y st2 => match x, y with
  | .lst xs, .lst ys => .ok (pairs xs ys, []) st2
  | .tup xs, .tup ys => .ok (pairs xs ys, []) st2
  | _, _ => .no
def enumL : Nat → List D → List D
  | _, [] => []
  | n, x :: xs => .tup [.int n, x] :: enumL (n + 1) xs
def iEnum (a : SE) : SI := fun ρ st => (fzd a ρ st).bind fun x st1 => match x with
  | .lst xs => .ok (enumL 0 xs, []) st1
  | _ => .no
def iRev (a : SE) : SI := fun ρ st => (fzd a ρ st).bind fun x st1 => ofW (walkOf x st1) List.reverse st1
/-- targets -/
def gName (i : Nat) : SG := fun d ρ => some (ρ.set i (.val d))
def gAll : List SG → List D → En → Option En
  | [], [], ρ => some ρ
  | g :: gs, d :: ds, ρ => (g d ρ).bind (gAll gs ds)
  | _, _, _ => none
def gTup (gs : List SG) : SG := fun d ρ => match d with
  | .tup ds => gAll gs ds ρ
  | _ => none
/-- the names of a comprehension forgotten -/
def wipeE (ρ : En) : List Nat → En
  | [] => ρ
  | v :: vs => (wipeE ρ vs).set v .un
/-- [elt for g in it if t]: none of it may raise -/
def compL (gs : Gd) (g : SG) (t : ST) (e : SE) (ρ : En) : List D → List D → List D → Option (List D × List D)
  | [], acc, st => if gdOk gs st then some (acc, st) else none
  | d :: ds, acc, st => if gdOk gs st then match g d ρ with
    | none => none
    | some ρ1 => match t ρ1 st with
      | .ok true st1 => match fzd e ρ1 st1 with
        | .ok x st2 => if acc.length < maxLen then compL gs g t e ρ ds (acc ++ [x]) st2 else none
        | _ => none
      | .ok false st1 => compL gs g t e ρ ds acc st1
      | _ => none
    else none
def tYes : ST := fun _ st => .ok true st
def eComp (it : SI) (g : SG) (t : ST) (e : SE) (vs : List Nat) : SE := fun ρ st => (it ρ st).bind fun ds st1 => match compL ds.2 g t e (wipeE ρ vs) ds.1 [] st1 with
  | some (xs, st2) => .ok (.lst xs, .fr) st2
  | none => .no

/-! ### statements -/
/-- from an expression to a statement: what is raised is raised with these names -/
def R.bindS {α : Type} (r : R α) (ρ : En) (f : α → List D → R Fl) : R Fl := match r with
  | .ok a st => f a st
  | .ex c ks ds st => .ok (.xx c ks ds ρ) st
  | .no => .no
@[simp] theorem R.bindS_ok {α : Type} {a : α} {st : List D} {ρ} {f : α → List D → R Fl} : (R.ok a st).bindS ρ f = f a st := rfl
@[simp] theorem R.bindS_ex {α : Type} {c ks ds st ρ} {f : α → List D → R Fl} : (R.ex c ks ds st : R α).bindS ρ f = .ok (.xx c ks ds ρ) st := rfl
@[simp] theorem R.bindS_no {α : Type} {ρ} {f : α → List D → R Fl} : (R.no : R α).bindS ρ f = .no := rfl
def sNext : SS := fun ρ st => .ok (.nx ρ) st
def sSeq (a b : SS) : SS := fun ρ st => (a ρ st).bind fun f st1 => match f with
  | .nx ρ1 => b ρ1 st1
  | f => .ok f st1
/-- names whose lists others may hold from now on -/
def free1 (ρ : En) (i : Nat) : En := match ρ[i]? with
  | some (Sl.own d) => ρ.set i (.val d)
  | _ => ρ
def frees (is : List Nat) (ρ : En) : En := is.foldl free1 ρ
def sFz (is : List Nat) (a : SS) : SS := fun ρ st => a (frees is ρ) st
def keepD (p : D × Fg) : Option Sl := match p with
  | (d, .fz) => some (.val d)
  | (.lst xs, .fr) => some (.own (.lst xs))
  | (d, .fr) => some (.val d)
  | (_, .bw) => none
/-- x = e: a new list is the name's own -/
def sSet (i : Nat) (e : SE) : SS := fun ρ st => (e ρ st).bindS ρ fun p st1 => match keepD p with
  | some s => .ok (.nx (ρ.set i s)) st1
  | none => .no
/-- x = e: a new list, from now on of the store -/
def sRef (i : Nat) (e : SE) : SS := fun ρ st => (e ρ st).bindS ρ fun p st1 => match p with
  | (.lst xs, .fr) => .ok (.nx (ρ.set i (.val (.ref st1.length)))) (st1 ++ [.lst xs])
  | _ => .no
/-- a, b, .. = e, f, .. at different names, by a tuple -/
def sAsgG (g : SG) (e : SE) : SS := fun ρ st => (fzd e ρ st).bindS ρ fun d st1 => match g d ρ with
  | some ρ1 => .ok (.nx ρ1) st1
  | none => .no
def sPar (i j : Nat) (e f : SE) : SS := fun ρ st => (fzd e ρ st).bindS ρ fun x st1 => (fzd f ρ st1).bindS ρ fun y st2 => .ok (.nx ((ρ.set i (.val x)).set j (.val y))) st2
def sPar3 (i j l : Nat) (e f g : SE) : SS := fun ρ st => (fzd e ρ st).bindS ρ fun x st1 => (fzd f ρ st1).bindS ρ fun y st2 => (fzd g ρ st2).bindS ρ fun w st3 => .ok (.nx (((ρ.set i (.val x)).set j (.val y)).set l (.val w))) st3
def sAug (i : Nat) (o : SB) (e : SE) : SS := fun ρ st => match ρ[i]? with
  | some (.val x) => (e ρ st).bindS ρ fun y st1 => match x, y.1 with
    | .int _, .int _ => (o x y.1 st1).bindS ρ fun z st2 => .ok (.nx (ρ.set i (.val z.1))) st2
    | _, _ => .no
  | _ => .no
def sRet (e : SE) : SS := fun ρ st => (e ρ st).bindS ρ fun p st1 => match p with
  | (_, .bw) => .no
  | (d, g) => .ok (.rt d g) st1
/-- return x: a list of its own goes to the caller -/
def sRetV (i : Nat) : SS := fun ρ st => match ρ[i]? with
  | some (.val d) => .ok (.rt d .fz) st
  | some (.own d) => .ok (.rt d .fr) st
  | _ => .no
def sRetN : SS := fun _ st => .ok (.rt .non .fz) st
def sDrop (e : SE) : SS := fun ρ st => (e ρ st).bindS ρ fun _ st1 => .ok (.nx ρ) st1
def sIf (t : ST) (a b : SS) : SS := fun ρ st => (t ρ st).bindS ρ fun x st1 => if x then a ρ st1 else b ρ st1
def sBk : SS := fun ρ st => .ok (.bk ρ) st
def sCt : SS := fun ρ st => .ok (.ct ρ) st
def sNo : SS := fun _ _ => .no
def forL (gs : Gd) (g : SG) (b : SS) : List D → En → List D → R Fl
  | [], ρ, st => if gdOk gs st then .ok (.nx ρ) st else .no
  | d :: ds, ρ, st => if gdOk gs st then match g d ρ with
    | none => .no
    | some ρ1 => (b ρ1 st).bind fun f st1 => match f with
      | .nx ρ2 => forL gs g b ds ρ2 st1
      | .ct ρ2 => forL gs g b ds ρ2 st1
      | .bk ρ2 => .ok (.nx ρ2) st1
      | f => .ok f st1
    else .no
def sFor (it : SI) (g : SG) (b : SS) : SS := fun ρ st => (it ρ st).bindS ρ fun ds st1 => forL ds.2 g b ds.1 ρ st1
/-- a name's list, its own or of the store, and how it is put back -/
def putL (ρ : En) (st : List D) (i : Nat) (f : List D → Option (List D)) : R Fl := match ρ[i]? with
  | some (.own (.lst xs)) => match f xs with
    | some ys => .ok (.nx (ρ.set i (.own (.lst ys)))) st
    | none => .no
  | some (.val (.ref n)) => match st[n]? with
    | some (.lst xs) => match f xs with
      | some ys => .ok (.nx ρ) (st.set n (.lst ys))
      | none => .no
    | _ => .no
  | _ => .no
def isL (ρ : En) (st : List D) (i : Nat) : Bool := match ρ[i]? with
  | some (.own (.lst _)) => true
  | some (.val (.ref n)) => match st[n]? with
    | some (.lst _) => true
    | _ => false
  | _ => false
/-- x.append(e) -/
def sApp (i : Nat) (e : SE) : SS := fun ρ st => if isL ρ st i then (fzd e ρ st).bindS ρ fun d st1 => putL ρ st1 i fun xs => if xs.length < maxLen then some (xs ++ [d]) else none else .no
/-- x[k] = e -/
def sPut (i : Nat) (k e : SE) : SS := fun ρ st => if isL ρ st i then (fzd e ρ st).bindS ρ fun d st1 => (k ρ st1).bindS ρ fun y st2 => match y.1 with
  | .int j => putL ρ st2 i fun xs => (ixN xs.length j).map fun n => xs.set n d
  | _ => .no
  else .no

/-! ### attributes stored -/
def atKs : List String → String → List String
  | [], f => [f]
  | k :: ks, f => if k = f then k :: ks else k :: atKs ks f
def atVs : List String → List D → String → D → List D
  | k :: ks, d :: ds, f, e => if k = f then e :: ds else d :: atVs ks ds f e
  | _, _, _, e => [e]
/-- a name's instance, its own or of the store, and how an attribute is put -/
def putI (ρ : En) (st : List D) (i : Nat) (c f : String) (d : D) : R Fl := match ρ[i]? with
  | some (.own (.ins c' ks ds)) => if c' = c ∧ ks.length < 1000 then .ok (.nx (ρ.set i (.own (.ins c (atKs ks f) (atVs ks ds f d))))) st else .no
  | some (.val (.ref n)) => match st[n]? with
    | some (.ins c' ks ds) => if c' = c ∧ ks.length < 1000 then .ok (.nx ρ) (st.set n (.ins c (atKs ks f) (atVs ks ds f d))) else .no
    | _ => .no
  | _ => .no
/-- x.f = e -/
def sAttr (i : Nat) (c f : String) (e : SE) : SS := fun ρ st => (fzd e ρ st).bindS ρ fun d st1 => putI ρ st1 i c f d

/-! ### a def -/
def endF (r : R Fl) : R (D × Fg) := match r with
  | .ok (.nx _) st1 => .ok (.non, .fz) st1
  | .ok (.rt d g) st1 => .ok (d, g) st1
  | .ok (.xx c ks ds _) st1 => .ex c ks ds st1
  | _ => .no
def enS (n : Nat) (ds : List D) : En := ds.map .val ++ List.replicate (n - ds.length) .un
def fnS (n : Nat) (b : SS) : SF := fun ds st => endF (b (enS n ds) st)
/-- C(..): __init__ on a new instance -/
def endI (c : String) (r : R Fl) : R (D × Fg) := match r with
  | .ok (.nx ρ) st1 => match (ρ[0]? : Option Sl) with
    | some (.own (.ins c' ks ds)) => if c' = c then .ok (.ins c ks ds, .fr) st1 else .no
    | _ => .no
  | .ok (.xx c ks ds _) st1 => .ex c ks ds st1
  | _ => .no
def fnI (c : String) (n : Nat) (b : SS) : SF := fun ds st => endI c (b (.own (.ins c [] []) :: enS (n - 1) ds) st)
end Q

set_option Elab.async false
set_option linter.all false
set_option maxRecDepth 100000
set_option maxHeartbeats 1000000
/-! Q2: how data stand for values over the abstract heap. F: what never changes any more; L: where the store's things stand. -/
namespace Q
open PySem PySem.Spec PyProof.Rows L2

abbrev cA (K : PySem.W.Frag) (c : String) : Addr := He.ga K (Str.ofString c)
def tyN : List String := ["int", "bool", "str", "list", "tuple", "dict"]
structure InsOk (K : PySem.W.Frag) (c : String) : Prop where
  cls : Cls K (cA K c)
  cl : PySem.W.findIn K (.ref (cA K c)) "__class__" = some (some (.builtin "object.__class__"))
  gs : PySem.W.specialIn K (.builtin "object.__class__") "__get__" = some (some (.builtin "getset_descriptor.__get__"))
  tk : PySem.W.takesIn K (.builtin "object.__class__") = some true
  mr : PySem.W.mroIn K (cA K c) (.type "object") = some true
  kb : ∀ T ∈ tyN, PySem.W.kitOne K (.ref (cA K c)) (.type T) = some false

mutual
def Den (K : PySem.W.Frag) (F : Hp) (L : List Addr) : D → V → Prop
  | .non, v => v = .non
  | .bl b, v => v = .bl b
  | .int i, v => v = .int i
  | .str x, v => v = .str x
  | .tup ds, v => ∃ a vs, v = .ref a ∧ SqT K F a vs ∧ DenL K F L ds vs
  | .lst ds, v => ∃ a vs, v = .ref a ∧ F a = some (.lst vs) ∧ DenL K F L ds vs
  | .scr ds, v => ∃ a vs, v = .ref a ∧ SqL K F a vs ∧ DenL K F L ds vs
  | .dct _ _, _ => False
  | .ins c ks ds, v => ∃ a dx fs, v = .ref a ∧ F a = some (.ins (cA K c) dx fs) ∧ F dx = some (.own a) ∧ fs.map (·.1) = ks.map Str.ofString ∧ InsOk K c ∧ (∀ k ∈ ks, NoAttr K (cA K c) (Str.ofString k)) ∧ DenL K F L ds (fs.map (·.2))
  | .ref n, v => ∃ a, L[n]? = some a ∧ v = .ref a
def DenL (K : PySem.W.Frag) (F : Hp) (L : List Addr) : List D → List V → Prop
  | [], vs => vs = []
  | d :: ds, vs => ∃ w r, vs = w :: r ∧ Den K F L d w ∧ DenL K F L ds r
end
/-- what an object that may still change holds -/
def OwnAt (K : PySem.W.Frag) (F : Hp) (L : List Addr) (H : Hp) (a : Addr) : D → Prop
  | .lst ds => ∃ vs, H a = some (.lst vs) ∧ DenL K F L ds vs
  | .ins c ks ds => ∃ dx fs, H a = some (.ins (cA K c) dx fs) ∧ H dx = some (.own a) ∧ F dx = none ∧ fs.map (·.1) = ks.map Str.ofString ∧ InsOk K c ∧ (∀ k ∈ ks, NoAttr K (cA K c) (Str.ofString k)) ∧ DenL K F L ds (fs.map (·.2))
  | _ => False
/-- what can be seen of a value now -/
def Vw (K : PySem.W.Frag) (F : Hp) (L : List Addr) (H : Hp) : D → V → Prop
  | .non, v => v = .non
  | .bl b, v => v = .bl b
  | .int i, v => v = .int i
  | .str x, v => v = .str x
  | .tup ds, v => ∃ a vs, v = .ref a ∧ SqT K H a vs ∧ DenL K F L ds vs
  | .lst ds, v => ∃ a vs, v = .ref a ∧ H a = some (.lst vs) ∧ DenL K F L ds vs
  | .scr ds, v => ∃ a vs, v = .ref a ∧ SqL K H a vs ∧ DenL K F L ds vs
  | .dct _ _, _ => False
  | .ins c ks ds, v => ∃ a dx fs, v = .ref a ∧ H a = some (.ins (cA K c) dx fs) ∧ fs.map (·.1) = ks.map Str.ofString ∧ InsOk K c ∧ (∀ k ∈ ks, NoAttr K (cA K c) (Str.ofString k)) ∧ DenL K F L ds (fs.map (·.2))
  | .ref _, _ => False

structure Ext (F : Hp) (L : List Addr) (H : Hp) (F' : Hp) (L' : List Addr) (H' : Hp) : Prop where
  ff : Same F F'
  fh : Same F' H'
  new : ∀ a o, F' a = some o → F a = some o ∨ H a = none
  kp : ∀ a o, H a = some o → a ∉ L → H' a = some o
  gr : ∀ a, H' a = none → H a = none
  pre : ∀ (n : Nat) (a : Addr), L[n]? = some a → L'[n]? = some a
  nw : ∀ a ∈ L', a ∈ L ∨ H a = none
structure StOk (K : PySem.W.Frag) (F : Hp) (L : List Addr) (H : Hp) (st : List D) : Prop where
  len : L.length = st.length
  nd : ∀ (i j : Nat) (a : Addr), L[i]? = some a → L[j]? = some a → i = j
  at_ : ∀ (n : Nat) (a : Addr) (d : D), L[n]? = some a → st[n]? = some d → F a = none ∧ OwnAt K F L H a d
def DenR (K : PySem.W.Frag) (F : Hp) (L : List Addr) (H : Hp) (g : Fg) (d : D) (v : V) : Prop := match g with
  | .fz => Den K F L d v
  | _ => ∃ a, v = .ref a ∧ F a = none ∧ a ∉ L ∧ OwnAt K F L H a d
def SlR (K : PySem.W.Frag) (F : Hp) (L : List Addr) (H : Hp) : Sl → Option V → Prop
  | .un, _ => True
  | .val d, o => ∃ v, o = some v ∧ Den K F L d v
  | .own d, o => ∃ a, o = some (.ref a) ∧ F a = none ∧ a ∉ L ∧ OwnAt K F L H a d
/-- an object that was not there, nor its own dict -/
def NewR (H0 H : Hp) (a : Addr) : Prop := H0 a = none ∧ ∀ C dx fs, H a = some (.ins C dx fs) → H0 dx = none
structure Rel (K : PySem.W.Frag) (z : Addr) (F0 : Hp) (L0 : List Addr) (H0 : Hp) (ρ : En) (st : List D) (F : Hp) (L : List Addr) (σ : L2.St) (H : Hp) : Prop where
  ext : Ext F0 L0 H0 F L H
  sto : StOk K F L H st
  len : ρ.length = σ.length
  sl : ∀ (i : Nat) s o, ρ[i]? = some s → σ[i]? = some o → SlR K F L H s o
  ap : ∀ (i j : Nat) (a : Addr) di dj, ρ[i]? = some (.own di) → ρ[j]? = some (.own dj) → σ[i]? = some (some (.ref a)) → σ[j]? = some (some (.ref a)) → i = j
  nw : ∀ (i : Nat) (d : D) (a : Addr), ρ[i]? = some (.own d) → σ[i]? = some (some (.ref a)) → NewR H0 H a
  pin : ∀ c ks ds, ρ[0]? = some (.own (.ins c ks ds)) → σ[0]? = some (some (.ref z))

section
variable {K : PySem.W.Frag} {F F' F1 F2 : Hp} {L L' L1 L2 : List Addr} {H H' H1 H2 : Hp} {st st' : List D}
theorem same_sqT (e : Same F F') {a : Addr} {xs : List V} (h : SqT K F a xs) : SqT K F' a xs := by
  rcases h with (h | ⟨o, h⟩) | h
  · exact .inl (.inl (e _ _ h))
  · exact .inl (.inr ⟨o, e _ _ h⟩)
  · exact .inr h
mutual
theorem Den.mono (e : Same F F') (p : ∀ (n : Nat) (a : Addr), L[n]? = some a → L'[n]? = some a) : ∀ {d : D} {v : V}, Den K F L d v → Den K F' L' d v
  | .non, _, h => h
  | .bl _, _, h => h
  | .int _, _, h => h
  | .str _, _, h => h
  | .tup ds, _, h => by
    unfold Den at h ⊢
    obtain ⟨a, vs, h1, h2, h3⟩ := h
    exact ⟨a, vs, h1, same_sqT e h2, DenL.mono e p h3⟩
  | .lst ds, _, h => by
    unfold Den at h ⊢
    obtain ⟨a, vs, h1, h2, h3⟩ := h
    exact ⟨a, vs, h1, e _ _ h2, DenL.mono e p h3⟩
  | .scr ds, _, h => by
    unfold Den at h ⊢
    obtain ⟨a, vs, h1, h2, h3⟩ := h
    exact ⟨a, vs, h1, e.seq h2, DenL.mono e p h3⟩
  | .dct _ _, _, h => by
    unfold Den at h
    exact h.elim
  | .ins c ks ds, _, h => by
    unfold Den at h ⊢
    obtain ⟨a, dx, fs, h1, h2, h3, h4, h5, h6, h7⟩ := h
    exact ⟨a, dx, fs, h1, e _ _ h2, e _ _ h3, h4, h5, h6, DenL.mono e p h7⟩
  | .ref n, _, h => by
    unfold Den at h ⊢
    obtain ⟨a, h1, h2⟩ := h
    exact ⟨a, p _ _ h1, h2⟩
theorem DenL.mono (e : Same F F') (p : ∀ (n : Nat) (a : Addr), L[n]? = some a → L'[n]? = some a) : ∀ {ds : List D} {vs : List V}, DenL K F L ds vs → DenL K F' L' ds vs
  | [], _, h => by
    unfold DenL at h ⊢
    exact h
  | d :: ds, _, h => by
    unfold DenL at h ⊢
    obtain ⟨w, r, h1, h2, h3⟩ := h
    exact ⟨w, r, h1, Den.mono e p h2, DenL.mono e p h3⟩
end
theorem DenL.length : ∀ {ds : List D} {vs : List V}, DenL K F L ds vs → ds.length = vs.length
  | [], _, h => by
    unfold DenL at h
    subst h; rfl
  | d :: ds, _, h => by
    unfold DenL at h
    obtain ⟨w, r, rfl, _, h3⟩ := h
    rw [List.length_cons, List.length_cons, DenL.length h3]
theorem DenL.get : ∀ {ds : List D} {vs : List V} {i : Nat} {d : D}, DenL K F L ds vs → ds[i]? = some d → ∃ v, vs[i]? = some v ∧ Den K F L d v
  | [], _, _, _, _, h => by simp at h
  | d :: ds, _, 0, _, h, e => by
    unfold DenL at h
    obtain ⟨w, r, rfl, h2, h3⟩ := h
    simp only [List.getElem?_cons_zero, Option.some.injEq] at e
    subst e
    exact ⟨w, rfl, h2⟩
  | d :: ds, _, i + 1, _, h, e => by
    unfold DenL at h
    obtain ⟨w, r, rfl, h2, h3⟩ := h
    rw [List.getElem?_cons_succ] at e
    obtain ⟨v, h4, h5⟩ := DenL.get h3 e
    exact ⟨v, by rw [List.getElem?_cons_succ]; exact h4, h5⟩
theorem DenL.get' {ds : List D} {vs : List V} {i : Nat} {v : V} (h : DenL K F L ds vs) (e : vs[i]? = some v) : ∃ d, ds[i]? = some d ∧ Den K F L d v := by
  have hi : i < ds.length := by rw [h.length]; exact (List.getElem?_eq_some_iff.mp e).1
  obtain ⟨w, h1, h2⟩ := h.get (List.getElem?_eq_getElem hi)
  rw [e] at h1
  cases h1
  exact ⟨_, List.getElem?_eq_getElem hi, h2⟩
theorem DenL.of_get : ∀ {ds : List D} {vs : List V}, ds.length = vs.length → (∀ (i : Nat) d v, ds[i]? = some d → vs[i]? = some v → Den K F L d v) → DenL K F L ds vs
  | [], [], _, _ => by unfold DenL; rfl
  | [], _ :: _, e, _ => by simp at e
  | _ :: _, [], e, _ => by simp at e
  | d :: ds, v :: vs, e, h => by
    unfold DenL
    exact ⟨v, vs, rfl, h 0 d v rfl rfl, DenL.of_get (by simpa using e) fun i d' v' h1 h2 => h (i + 1) d' v' (by simpa using h1) (by simpa using h2)⟩
theorem DenL.append {ds es : List D} {vs ws : List V} (h : DenL K F L ds vs) (h' : DenL K F L es ws) : DenL K F L (ds ++ es) (vs ++ ws) := by
  induction ds generalizing vs with
  | nil =>
    unfold DenL at h
    subst h
    exact h'
  | cons d ds ih =>
    unfold DenL at h
    obtain ⟨w, r, rfl, h2, h3⟩ := h
    rw [List.cons_append, List.cons_append]
    unfold DenL
    exact ⟨w, r ++ ws, rfl, h2, ih h3⟩
theorem DenL.nil : DenL K F L [] [] := by unfold DenL; rfl
theorem DenL.cons {d : D} {ds : List D} {v : V} {vs : List V} (h : Den K F L d v) (h' : DenL K F L ds vs) : DenL K F L (d :: ds) (v :: vs) := by
  unfold DenL
  exact ⟨v, vs, rfl, h, h'⟩
theorem DenL.set {ds : List D} {vs : List V} (h : DenL K F L ds vs) {d : D} {v : V} (hd : Den K F L d v) (n : Nat) : DenL K F L (ds.set n d) (vs.set n v) := by
  refine DenL.of_get (by rw [List.length_set, List.length_set, h.length]) fun i d' v' h1 h2 => ?_
  rw [List.getElem?_set] at h1 h2
  by_cases e : n = i
  · subst e
    rw [if_pos rfl] at h1 h2
    split at h1
    · split at h2
      · cases h1; cases h2; exact hd
      · cases h2
    · cases h1
  · rw [if_neg e] at h1 h2
    obtain ⟨w, h3, h4⟩ := h.get h1
    rw [h2] at h3
    cases h3
    exact h4
theorem DenL.take {ds : List D} {vs : List V} (h : DenL K F L ds vs) (n : Nat) : DenL K F L (ds.take n) (vs.take n) := by
  refine DenL.of_get (by rw [List.length_take, List.length_take, h.length]) fun i d v h1 h2 => ?_
  rw [List.getElem?_take] at h1 h2
  split at h1
  · rename_i hi
    rw [if_pos hi] at h2
    obtain ⟨w, h3, h4⟩ := h.get h1
    rw [h2] at h3; cases h3; exact h4
  · cases h1
theorem DenL.drop {ds : List D} {vs : List V} (h : DenL K F L ds vs) (n : Nat) : DenL K F L (ds.drop n) (vs.drop n) := by
  refine DenL.of_get (by rw [List.length_drop, List.length_drop, h.length]) fun i d v h1 h2 => ?_
  rw [List.getElem?_drop] at h1 h2
  obtain ⟨w, h3, h4⟩ := h.get h1
  rw [h2] at h3; cases h3; exact h4
theorem DenL.reverse {ds : List D} {vs : List V} (h : DenL K F L ds vs) : DenL K F L ds.reverse vs.reverse := by
  induction ds generalizing vs with
  | nil =>
    unfold DenL at h
    subst h
    exact .nil
  | cons d ds ih =>
    unfold DenL at h
    obtain ⟨w, r, rfl, h2, h3⟩ := h
    rw [List.reverse_cons, List.reverse_cons]
    exact (ih h3).append (.cons h2 .nil)
theorem DenL.rep {ds : List D} {vs : List V} (h : DenL K F L ds vs) : ∀ k : Nat, DenL K F L (List.replicate k ds).flatten (List.replicate k vs).flatten
  | 0 => .nil
  | k + 1 => by
    rw [List.replicate_succ, List.replicate_succ, List.flatten_cons, List.flatten_cons]
    exact h.append (DenL.rep h k)
theorem OwnAt.mono {a : Addr} {d : D} (e : Same F F') (p : ∀ (n : Nat) (a : Addr), L[n]? = some a → L'[n]? = some a) (k : ∀ b o, H b = some o → (b = a ∨ o = .own a) → H' b = some o) (n : ∀ b, F b = none → H b = some (.own a) → F' b = none)
    (h : OwnAt K F L H a d) : OwnAt K F' L' H' a d := by
  cases d with
  | lst ds =>
    obtain ⟨vs, h1, h2⟩ := h
    exact ⟨vs, k _ _ h1 (.inl rfl), h2.mono e p⟩
  | ins c ks ds =>
    obtain ⟨dx, fs, h1, h2, h3, h4, h5, h6, h7⟩ := h
    exact ⟨dx, fs, k _ _ h1 (.inl rfl), k _ _ h2 (.inr rfl), n _ h3 h2, h4, h5, h6, h7.mono e p⟩
  | _ => exact h.elim
theorem OwnAt.there {a : Addr} {d : D} (h : OwnAt K F L H a d) : H a ≠ none := by
  cases d with
  | lst ds =>
    obtain ⟨vs, h1, _⟩ := h
    rw [h1]; exact fun z => by cases z
  | ins c ks ds =>
    obtain ⟨dx, fs, h1, _⟩ := h
    rw [h1]; exact fun z => by cases z
  | _ => exact h.elim
theorem OwnAt.noown {a b : Addr} {d : D} (h : OwnAt K F L H a d) : H a ≠ some (.own b) := by
  cases d with
  | lst ds =>
    obtain ⟨vs, h1, _⟩ := h
    rw [h1]; exact fun z => by cases z
  | ins c ks ds =>
    obtain ⟨dx, fs, h1, _⟩ := h
    rw [h1]; exact fun z => by cases z
  | _ => exact h.elim

theorem Ext.refl (h : Same F H) : Ext F L H F L H :=
  ⟨Same.refl F, h, fun _ _ e => .inl e, fun _ _ e _ => e, fun _ e => e, fun _ _ e => e, fun _ e => .inl e⟩
theorem Ext.trans (a : Ext F L H F1 L1 H1) (b : Ext F1 L1 H1 F2 L2 H2) : Ext F L H F2 L2 H2 where
  ff := a.ff.trans b.ff
  fh := b.fh
  new := fun x o e => by
    rcases b.new x o e with e | e
    · exact a.new x o e
    · exact .inr (a.gr x e)
  kp := fun x o e n => by
    refine b.kp x o (a.kp x o e n) fun z => ?_
    rcases a.nw x z with z | z
    · exact n z
    · rw [e] at z; cases z
  gr := fun x e => a.gr x (b.gr x e)
  pre := fun n x e => b.pre n x (a.pre n x e)
  nw := fun x e => by
    rcases b.nw x e with e | e
    · exact a.nw x e
    · exact .inr (a.gr x e)
theorem Ext.stays (e : Ext F L H F' L' H') {b : Addr} (h : F b = none) (h' : H b ≠ none) : F' b = none := by
  cases q : F' b with
  | none => rfl
  | some o =>
    rcases e.new b o q with z | z
    · rw [h] at z; cases z
    · exact absurd z h'
theorem Ext.den (e : Ext F L H F' L' H') {d : D} {v : V} (h : Den K F L d v) : Den K F' L' d v := h.mono e.ff e.pre
theorem Ext.denL (e : Ext F L H F' L' H') {d : List D} {v : List V} (h : DenL K F L d v) : DenL K F' L' d v := h.mono e.ff e.pre
theorem NewR.step {H0 : Hp} {a : Addr} (n : NewR H0 H a) (e : Ext F L H F' L' H') (h : a ∉ L) (t : H a ≠ none) : NewR H0 H' a := by
  refine ⟨n.1, fun C dx fs q => ?_⟩
  cases z : H a with
  | none => exact absurd z t
  | some o =>
    have := e.kp a o z h
    rw [q] at this
    cases this
    exact n.2 C dx fs z
theorem StOk.notin {b a : Addr} (s : StOk K F L H st) (h : H b = some (.own a)) : b ∉ L := fun z => by
  obtain ⟨n, hn⟩ := List.getElem?_of_mem z
  have hl : n < st.length := by rw [← s.len]; exact (List.getElem?_eq_some_iff.mp hn).1
  exact (s.at_ n b _ hn (List.getElem?_eq_getElem hl)).2.noown h
theorem Ext.own (e : Ext F L H F' L' H') (s : StOk K F L H st) {a : Addr} {d : D} (h1 : F a = none) (h2 : a ∉ L) (h : OwnAt K F L H a d) : F' a = none ∧ a ∉ L' ∧ OwnAt K F' L' H' a d := by
  refine ⟨e.stays h1 h.there, fun z => ?_, h.mono e.ff e.pre (fun b o q r => e.kp b o q ?_) fun b hb hc => e.stays hb (by rw [hc]; exact fun z => by cases z)⟩
  · rcases e.nw a z with z | z
    · exact h2 z
    · exact h.there z
  · rcases r with rfl | rfl
    · exact h2
    · exact s.notin q
theorem DenR.step (e : Ext F L H F' L' H') (s : StOk K F L H st) {g : Fg} {d : D} {v : V} (h : DenR K F L H g d v) : DenR K F' L' H' g d v := by
  cases g with
  | fz => exact e.den h
  | bw =>
    obtain ⟨a, h1, h2, h3, h4⟩ := h
    obtain ⟨k1, k2, k3⟩ := e.own s h2 h3 h4
    exact ⟨a, h1, k1, k2, k3⟩
  | fr =>
    obtain ⟨a, h1, h2, h3, h4⟩ := h
    obtain ⟨k1, k2, k3⟩ := e.own s h2 h3 h4
    exact ⟨a, h1, k1, k2, k3⟩
theorem SlR.step (e : Ext F L H F' L' H') (s : StOk K F L H st) {x : Sl} {o : Option V} (h : SlR K F L H x o) : SlR K F' L' H' x o := by
  cases x with
  | un => trivial
  | val d =>
    obtain ⟨v, h1, h2⟩ := h
    exact ⟨v, h1, e.den h2⟩
  | own d =>
    obtain ⟨a, h1, h2, h3, h4⟩ := h
    obtain ⟨k1, k2, k3⟩ := e.own s h2 h3 h4
    exact ⟨a, h1, k1, k2, k3⟩
theorem Rel.step {z F0 L0 H0 ρ σ} (r : Rel K z F0 L0 H0 ρ st F L σ H) (e : Ext F L H F' L' H') (s : StOk K F' L' H' st') : Rel K z F0 L0 H0 ρ st' F' L' σ H' :=
  ⟨r.ext.trans e, s, r.len, fun i x o h1 h2 => (r.sl i x o h1 h2).step e r.sto, r.ap, fun i d a h1 h2 => by
    obtain ⟨b, e1, h3, h4, h5⟩ := r.sl i _ _ h1 h2
    cases e1
    exact (r.nw i d a h1 h2).step e h4 h5.there, r.pin⟩
theorem Rel.refl {z F0 L0 H0 ρ σ} (r : Rel K z F0 L0 H0 ρ st F L σ H) : Ext F L H F L H := Ext.refl r.ext.fh

/-! ### what is seen of a value -/
theorem vw_of_den (e : Same F H) {d : D} {v : V} (h : Den K F L d v) (nr : ∀ n, d ≠ .ref n) : Vw K F L H d v := by
  cases d with
  | non => unfold Den at h; exact h
  | bl b => unfold Den at h; exact h
  | int b => unfold Den at h; exact h
  | str b => unfold Den at h; exact h
  | tup ds =>
    unfold Den at h
    obtain ⟨a, vs, h1, h2, h3⟩ := h
    exact ⟨a, vs, h1, same_sqT e h2, h3⟩
  | lst ds =>
    unfold Den at h
    obtain ⟨a, vs, h1, h2, h3⟩ := h
    exact ⟨a, vs, h1, e _ _ h2, h3⟩
  | scr ds =>
    unfold Den at h
    obtain ⟨a, vs, h1, h2, h3⟩ := h
    exact ⟨a, vs, h1, e.seq h2, h3⟩
  | dct ks vs => unfold Den at h; exact h.elim
  | ins c ks ds =>
    unfold Den at h
    obtain ⟨a, dx, fs, h1, h2, h3, h4, h5, h6, h7⟩ := h
    exact ⟨a, dx, fs, h1, e _ _ h2, h4, h5, h6, h7⟩
  | ref n => exact absurd rfl (nr n)
theorem vw_of_own {a : Addr} {d : D} (h : OwnAt K F L H a d) : Vw K F L H d (.ref a) := by
  cases d with
  | lst ds =>
    obtain ⟨vs, h1, h2⟩ := h
    exact ⟨a, vs, rfl, h1, h2⟩
  | ins c ks ds =>
    obtain ⟨dx, fs, h1, h2, h3, h4, h5, h6, h7⟩ := h
    exact ⟨a, dx, fs, rfl, h1, h4, h5, h6, h7⟩
  | _ => exact h.elim
theorem vw_rs (e : Same F H) (s : StOk K F L H st) {g : Fg} {d : D} {v : V} (h : DenR K F L H g d v) : Vw K F L H (rs st d) v := by
  have own : ∀ a, v = .ref a → OwnAt K F L H a d → Vw K F L H (rs st d) v := fun a ev ho => by
    subst ev
    have : rs st d = d := by
      cases d with
      | ref n => exact ho.elim
      | _ => rfl
    rw [this]
    exact vw_of_own ho
  cases g with
  | fz =>
    have h : Den K F L d v := h
    by_cases hr : ∃ n, d = .ref n
    · obtain ⟨n, rfl⟩ := hr
      unfold Den at h
      obtain ⟨a, h1, rfl⟩ := h
      have hl : n < st.length := by rw [← s.len]; exact (List.getElem?_eq_some_iff.mp h1).1
      have := (s.at_ n a _ h1 (List.getElem?_eq_getElem hl)).2
      rw [rs_ref, List.getD_eq_getElem?_getD, List.getElem?_eq_getElem hl]
      exact vw_of_own this
    · have nr : ∀ n, d ≠ .ref n := fun n e => hr ⟨n, e⟩
      have : rs st d = d := by
        cases d with
        | ref n => exact absurd rfl (nr n)
        | _ => rfl
      rw [this]
      exact vw_of_den e h nr
  | bw =>
    obtain ⟨a, h1, _, _, h4⟩ := h
    exact own a h1 h4
  | fr =>
    obtain ⟨a, h1, _, _, h4⟩ := h
    exact own a h1 h4
/-- a scalar's value -/
theorem Vw.int {i : Int} {v : V} (h : Vw K F L H (.int i) v) : v = .int i := h
end
end Q

set_option Elab.async false
set_option linter.all false
set_option maxRecDepth 100000
set_option maxHeartbeats 1000000
/-! Q3: soundness of the combinators, expressions. -/
namespace Q
open PySem PySem.Spec PyProof.Rows L2

/-- an exception as data -/
def XDen (K : PySem.W.Frag) (F : Hp) (L : List Addr) (c : String) (ks : List String) (ds : List D) (u : Value) (od : Option Addr) : Prop :=
  u = .ref (cA K c) ∧ ∃ dx fs, od = some dx ∧ F dx = some (.xd fs) ∧ fs.map (·.1) = ks.map Str.ofString ∧ DenL K F L ds (fs.map (·.2))
def Post {α : Type} (K : PySem.W.Frag) (W : WX) (F : Hp) (L : List Addr) (H : Hp) (σ : L2.St) (r : R α) (Ok : α → List D → Prop) : Prop := match r with
  | .ok a st' => Ok a st'
  | .ex c ks ds st' => ∀ u od F' L' H', Ext F L H F' L' H' → StOk K F' L' H' st' → XDen K F' L' c ks ds u od → W u od σ H'
  | .no => False
def OkE (K : PySem.W.Frag) (F : Hp) (L : List Addr) (H : Hp) (Q : VK) : D × Fg → List D → Prop := fun p st' => ∀ v F' L' H', Ext F L H F' L' H' → StOk K F' L' H' st' → DenR K F' L' H' p.2 p.1 v → (p.2 = .fr → ∀ a, v = .ref a → NewR H H' a) → Q v H'
def OkD (K : PySem.W.Frag) (F : Hp) (L : List Addr) (H : Hp) (Q : VK) : D → List D → Prop := fun d st' => ∀ v F' L' H', Ext F L H F' L' H' → StOk K F' L' H' st' → Den K F' L' d v → Q v H'
def OkDs (K : PySem.W.Frag) (F : Hp) (L : List Addr) (H : Hp) (Q : List V → Hp → Prop) : List D → List D → Prop := fun d st' => ∀ v F' L' H', Ext F L H F' L' H' → StOk K F' L' H' st' → DenL K F' L' d v → Q v H'
def OkB (K : PySem.W.Frag) (F : Hp) (L : List Addr) (H : Hp) (Q : Bool → Hp → Prop) : Bool → List D → Prop := fun b st' => ∀ F' L' H', Ext F L H F' L' H' → StOk K F' L' H' st' → Q b H'

def tE (K : PySem.W.Frag) (W : WX) (f : SE) : TE := fun σ H Q => ∃ z F0 L0 H0 ρ st F L, Rel K z F0 L0 H0 ρ st F L σ H ∧ Post K W F L H σ (f ρ st) (OkE K F L H Q)
/-- the value may be held by others -/
def tD (K : PySem.W.Frag) (W : WX) (f : SE) : TE := fun σ H Q => ∃ z F0 L0 H0 ρ st F L, Rel K z F0 L0 H0 ρ st F L σ H ∧ Post K W F L H σ (fzd f ρ st) (OkD K F L H Q)
def tA (K : PySem.W.Frag) (W : WX) (f : SEs) : TA := fun σ H Q => ∃ z F0 L0 H0 ρ st F L, Rel K z F0 L0 H0 ρ st F L σ H ∧ Post K W F L H σ (f ρ st) (OkDs K F L H Q)
def tT (K : PySem.W.Frag) (W : WX) (f : ST) : TT := fun σ H Q => ∃ z F0 L0 H0 ρ st F L, Rel K z F0 L0 H0 ρ st F L σ H ∧ Post K W F L H σ (f ρ st) (OkB K F L H Q)

section
variable {K : PySem.W.Frag} {W : WX} {F F1 : Hp} {L L1 : List Addr} {H H1 : Hp} {σ : L2.St} {st : List D} {α β : Type}
theorem Post.bind {r : R α} {f : α → List D → R β} {Ok : β → List D → Prop} (h : Post K W F L H σ (r.bind f) Ok) : Post K W F L H σ r fun a st' => Post K W F L H σ (f a st') Ok := by
  cases r <;> exact h
theorem Post.mono {r : R α} {Ok Ok' : α → List D → Prop} (h : Post K W F L H σ r Ok) (i : ∀ a st', Ok a st' → Ok' a st') : Post K W F L H σ r Ok' := by
  cases r with
  | ok a st' => exact i _ _ h
  | ex c ks ds st' => exact h
  | no => exact h
theorem Post.step {r : R α} {Ok : α → List D → Prop} (h : Post K W F L H σ r Ok) (e : Ext F L H F1 L1 H1) : Post K W F1 L1 H1 σ r Ok := by
  cases r with
  | ok a st' => exact h
  | ex c ks ds st' => exact fun u od F' L' H' e' => h u od F' L' H' (e.trans e')
  | no => exact h
theorem OkE.step {Q : VK} {p st'} (h : OkE K F L H Q p st') (e : Ext F L H F1 L1 H1) : OkE K F1 L1 H1 Q p st' :=
  fun v F' L' H' e' s' d n => h v F' L' H' (e.trans e') s' d fun z a q => ⟨e.gr a (n z a q).1, fun C dx fs q' => e.gr dx ((n z a q).2 C dx fs q')⟩
theorem OkB.step {Q : Bool → Hp → Prop} {p st'} (h : OkB K F L H Q p st') (e : Ext F L H F1 L1 H1) : OkB K F1 L1 H1 Q p st' := fun F' L' H' e' s' => h F' L' H' (e.trans e') s'
theorem OkDs.step {Q : List V → Hp → Prop} {p st'} (h : OkDs K F L H Q p st') (e : Ext F L H F1 L1 H1) : OkDs K F1 L1 H1 Q p st' := fun v F' L' H' e' s' => h v F' L' H' (e.trans e') s'
theorem OkD.step {Q : VK} {p st'} (h : OkD K F L H Q p st') (e : Ext F L H F1 L1 H1) : OkD K F1 L1 H1 Q p st' := fun v F' L' H' e' s' => h v F' L' H' (e.trans e') s'

/-! ### new objects -/
theorem same_upd {p : Addr} {o : HO} (h : H p = none) : Same H (upd H p o) := fun b x e => by rw [upd_ne (ne_of_none e h)]; exact e
theorem none_of (e : Same F H) {p : Addr} (h : H p = none) : F p = none := e.free h
theorem ext_new (e : Same F H) {p : Addr} {o : HO} (h : H p = none) : Ext F L H F L (upd H p o) where
  ff := Same.refl F
  fh := e.trans (same_upd h)
  new := fun _ _ q => .inl q
  kp := fun b x q _ => same_upd h b x q
  gr := fun b q => (same_upd (o := o) h).free q
  pre := fun _ _ q => q
  nw := fun _ q => .inl q
theorem ext_fz (e : Same F H) {p : Addr} {o : HO} (h : H p = none) : Ext F L H (upd F p o) L (upd H p o) where
  ff := same_upd (none_of e h)
  fh := fun b x q => by
    by_cases hb : b = p
    · subst hb; rw [upd_same] at q ⊢; exact q
    · rw [upd_ne hb] at q ⊢; exact e b x q
  new := fun b x q => by
    by_cases hb : b = p
    · subst hb; exact .inr h
    · rw [upd_ne hb] at q; exact .inl q
  kp := fun b x q _ => same_upd h b x q
  gr := fun b q => (same_upd (o := o) h).free q
  pre := fun _ _ q => q
  nw := fun _ q => .inl q
theorem StOk.step {F' : Hp} {H' : Hp} (s : StOk K F L H st) (e : Ext F L H F' L H') (k : ∀ (n : Nat) (a : Addr) (d : D), L[n]? = some a → st[n]? = some d → OwnAt K F L H a d → OwnAt K F' L H' a d) : StOk K F' L H' st :=
  ⟨s.len, s.nd, fun n a d h1 h2 => by
    obtain ⟨k1, k2⟩ := s.at_ n a d h1 h2
    exact ⟨e.stays k1 k2.there, k n a d h1 h2 k2⟩⟩
theorem StOk.grow {F' : Hp} {H' : Hp} (s : StOk K F L H st) (e : Ext F L H F' L H') (k : Same H H') : StOk K F' L H' st :=
  s.step e fun _ _ _ _ _ h => h.mono e.ff e.pre (fun b o q _ => k b o q) fun b hb hc => e.stays hb (by rw [hc]; exact fun z => by cases z)
theorem sto_new (e : Same F H) (s : StOk K F L H st) {p : Addr} {o : HO} (h : H p = none) : StOk K F L (upd H p o) st := s.grow (ext_new e h) (same_upd h)
theorem sto_fz (e : Same F H) (s : StOk K F L H st) {p : Addr} {o : HO} (h : H p = none) : StOk K (upd F p o) L (upd H p o) st := s.grow (ext_fz e h) (same_upd h)
theorem StOk.fresh (s : StOk K F L H st) {p : Addr} (h : H p = none) : p ∉ L := fun z => by
  obtain ⟨n, hn⟩ := List.getElem?_of_mem z
  have hl : n < st.length := by rw [← s.len]; exact (List.getElem?_eq_some_iff.mp hn).1
  exact (s.at_ n p _ hn (List.getElem?_eq_getElem hl)).2.there h
/-- a list that was just made -/
theorem ok_list {Q : VK} {ds : List D} {vs : List V} {p : Addr} (e : Same F H) (s : StOk K F L H st) (h : OkE K F L H Q (.lst ds, .fr) st) (d : DenL K F L ds vs) (hp : H p = none) : Q (.ref p) (upd H p (.lst vs)) :=
  h _ F L _ (ext_new e hp) (sto_new e s hp) ⟨p, rfl, none_of e hp, s.fresh hp, vs, upd_same, d⟩ fun _ a q => by
    cases q; exact ⟨hp, fun C dx fs z => by rw [upd_same] at z; cases z⟩
theorem ok_tup {Q : VK} {ds : List D} {vs : List V} {p : Addr} (e : Same F H) (s : StOk K F L H st) (h : OkE K F L H Q (.tup ds, .fz) st) (d : DenL K F L ds vs) (hp : H p = none) : Q (.ref p) (upd H p (.tup vs)) := by
  refine h _ (upd F p (.tup vs)) L _ (ext_fz e hp) (sto_fz e s hp) ?_ (fun z => nomatch z)
  show Den K (upd F p (.tup vs)) L (.tup ds) (.ref p)
  unfold Den
  exact ⟨p, vs, rfl, .inl (.inl upd_same), d.mono (ext_fz (L := L) e hp).ff fun _ _ q => q⟩
/-- a value that stands already -/
theorem ok_den {Q : VK} {d : D} {v : V} (e : Same F H) (s : StOk K F L H st) (h : OkE K F L H Q (d, .fz) st) (hd : Den K F L d v) : Q v H := h v F L H (.refl e) s hd fun z => nomatch z
theorem ok_int {Q : VK} {i : Int} (e : Same F H) (s : StOk K F L H st) (h : OkE K F L H Q (.int i, .fz) st) : Q (.int i) H := ok_den e s h (by unfold Den; rfl)
theorem ok_bl {Q : VK} {i : Bool} (e : Same F H) (s : StOk K F L H st) (h : OkE K F L H Q (.bl i, .fz) st) : Q (.bl i) H := ok_den e s h (by unfold Den; rfl)
theorem ok_str {Q : VK} {i : Str} (e : Same F H) (s : StOk K F L H st) (h : OkE K F L H Q (.str i, .fz) st) : Q (.str i) H := ok_den e s h (by unfold Den; rfl)

/-! ### a value becomes everyone's -/
theorem Rel.fh {z F0 L0 H0 ρ} (r : Rel K z F0 L0 H0 ρ st F L σ H) : Same F H := r.ext.fh
theorem sto_fzn (s : StOk K F L H st) {F' : Hp} (e : Same F F') (h : ∀ b, F b = none → b ∈ L → F' b = none) (h2 : ∀ b c, F b = none → H b = some (.own c) → c ∈ L → F' b = none) : StOk K F' L H st := by
  refine ⟨s.len, s.nd, fun n b d h1 h3 => ?_⟩
  obtain ⟨k1, k2⟩ := s.at_ n b d h1 h3
  have hb : b ∈ L := List.mem_of_getElem? h1
  refine ⟨h b k1 hb, ?_⟩
  cases d with
  | lst ds =>
    obtain ⟨vs, q1, q2⟩ := k2
    exact ⟨vs, q1, q2.mono e fun _ _ q => q⟩
  | ins c ks ds =>
    obtain ⟨dx, fs, q1, q2, q3, q4, q5, q6, q7⟩ := k2
    exact ⟨dx, fs, q1, q2, h2 dx b q3 q2 hb, q4, q5, q6, q7.mono e fun _ _ q => q⟩
  | _ => exact k2.elim
/-- a thing that nobody else holds is frozen -/
theorem freeze' {F0 H0 : Hp} {L0 : List Addr} (x : Ext F0 L0 H0 F L H) (s : StOk K F L H st) {a : Addr} {d : D} (hf : F a = none) (hn : a ∉ L) (o : OwnAt K F L H a d) (n : NewR H0 H a) :
    ∃ F', Ext F0 L0 H0 F' L H ∧ StOk K F' L H st ∧ Den K F' L d (.ref a) ∧ Same F F' ∧ ∀ b, F b = none → b ≠ a → H b ≠ some (.own a) → F' b = none := by
  cases d with
  | lst ds =>
    obtain ⟨vs, h1, h2⟩ := o
    have s1 : Same F (upd F a (.lst vs)) := same_upd hf
    refine ⟨upd F a (.lst vs), ⟨x.ff.trans s1, fun b y q => ?_, fun b y q => ?_, x.kp, x.gr, x.pre, x.nw⟩, sto_fzn s s1 (fun b hb hm => ?_) (fun b c hb hc _ => ?_), ?_, s1, fun b hb hba _ => by rw [upd_ne hba]; exact hb⟩
    · by_cases hb : b = a
      · subst hb; rw [upd_same] at q; cases q; exact h1
      · rw [upd_ne hb] at q; exact x.fh b y q
    · by_cases hb : b = a
      · subst hb; exact .inr n.1
      · rw [upd_ne hb] at q; exact x.new b y q
    · rw [upd_ne (fun z => hn (by rw [← z]; exact hm))]; exact hb
    · rw [upd_ne (fun z => by rw [z, h1] at hc; cases hc)]; exact hb
    · unfold Den
      exact ⟨a, vs, rfl, upd_same, h2.mono s1 fun _ _ q => q⟩
  | ins c ks ds =>
    obtain ⟨dx, fs, h1, h2, h3, h4, h5, h6, h7⟩ := o
    have nd : dx ≠ a := fun z => by rw [z, h1] at h2; cases h2
    have f1 : upd F a (.ins (cA K c) dx fs) dx = none := by rw [upd_ne nd]; exact h3
    have s1 : Same F (upd (upd F a (.ins (cA K c) dx fs)) dx (.own a)) := (same_upd hf).trans (same_upd f1)
    refine ⟨_, ⟨x.ff.trans s1, fun b y q => ?_, fun b y q => ?_, x.kp, x.gr, x.pre, x.nw⟩, sto_fzn s s1 (fun b hb hm => ?_) (fun b e hb hc hm => ?_), ?_, s1, fun b hb hba ho => ?_⟩
    · by_cases hb : b = dx
      · subst hb; rw [upd_same] at q; cases q; exact h2
      · rw [upd_ne hb] at q
        by_cases hb : b = a
        · subst hb; rw [upd_same] at q; cases q; exact h1
        · rw [upd_ne hb] at q; exact x.fh b y q
    · by_cases hb : b = dx
      · subst hb; exact .inr (n.2 _ _ _ h1)
      · rw [upd_ne hb] at q
        by_cases hb : b = a
        · subst hb; exact .inr n.1
        · rw [upd_ne hb] at q; exact x.new b y q
    · rw [upd_ne (fun z => s.notin h2 (by rw [← z]; exact hm)), upd_ne (fun z => hn (by rw [← z]; exact hm))]; exact hb
    · rw [upd_ne (fun z => by rw [z, h2] at hc; cases hc; exact hn hm), upd_ne (fun z => by rw [z, h1] at hc; cases hc)]; exact hb
    · unfold Den
      exact ⟨a, dx, fs, rfl, by rw [upd_ne (Ne.symm nd), upd_same], upd_same, h4, h5, h6, h7.mono s1 fun _ _ q => q⟩
    · rw [upd_ne (fun z => ho (by rw [z]; exact h2)), upd_ne hba]; exact hb
  | _ => exact o.elim
theorem freeze {F0 H0 : Hp} {L0 : List Addr} (x : Ext F0 L0 H0 F L H) (s : StOk K F L H st) {a : Addr} {d : D} (hf : F a = none) (hn : a ∉ L) (o : OwnAt K F L H a d) (n : NewR H0 H a) :
    ∃ F', Ext F0 L0 H0 F' L H ∧ StOk K F' L H st ∧ Den K F' L d (.ref a) := let ⟨F', h1, h2, h3, _⟩ := freeze' x s hf hn o n; ⟨F', h1, h2, h3⟩
end

/-! ### rules -/
theorem _root_.L2.PE.imp {X : Cx} {e : Expr} {t t' : TE} (h : PE X e t) (i : ∀ σ H Q, t' σ H Q → t σ H Q) : PE X e t' := ⟨fun pins s σ H Q I q => h.run pins s σ H Q I (i σ H Q q)⟩
theorem _root_.L2.PT.imp {X : Cx} {e : Expr} {t t' : TT} (h : PT X e t) (i : ∀ σ H Q, t' σ H Q → t σ H Q) : PT X e t' := ⟨fun pins s σ H Q I q => h.run pins s σ H Q I (i σ H Q q)⟩
theorem _root_.L2.PW.imp {X : Cx} {e : Expr} {t t' : TT} (h : PW X e t) (i : ∀ σ H Q, t' σ H Q → t σ H Q) : PW X e t' := ⟨fun w pins s σ H Q I q => h.run w pins s σ H Q I (i σ H Q q)⟩
theorem _root_.L2.PA.imp {X : Cx} {e : List Expr} {t t' : TA} (h : PA X e t) (i : ∀ σ H Q, t' σ H Q → t σ H Q) : PA X e t' := ⟨fun p pins s σ H Q I q => h.run p pins s σ H Q I (i σ H Q q)⟩

section
variable {X : Cx} {W : WX} {e a b c : Expr} {f g k : SE} {pos : Pos}
theorem pe_fzd (h : PE X e (tE X.K W f)) : PE X e (tD X.K W f) := h.imp fun σ H Q q => by
  obtain ⟨z, F0, L0, H0, ρ, st, F, L, r, p⟩ := q
  refine ⟨z, F0, L0, H0, ρ, st, F, L, r, p.bind.mono fun y st' q v F' L' H' e s d n => ?_⟩
  obtain ⟨d0, g0⟩ := y
  cases g0 with
  | fz => exact q v F' L' H' e s d
  | bw => exact q.elim
  | fr =>
    obtain ⟨a, rfl, h1, h2, h3⟩ := d
    obtain ⟨F2, e2, s2, d2⟩ := freeze e s h1 h2 h3 (n rfl a rfl)
    exact q _ F2 L' H' e2 s2 d2
theorem snd_var (i : Nat) {x : Str} (hN : X.N[i]? = some x := by rfl) (hv : Vis X.env.scope x := by first | exact Or.inl rfl | exact Or.inr (Or.inl rfl) | exact Or.inr (Or.inr rfl)) (hd : (x == ("__debug__" : Str)) = false := by decide)
    (hcd : (x == ("__classdict__" : Str)) = false := by decide) : PE X (.Name x pos) (tE X.K W (eVar i)) := (pe_var hN hv hd hcd).imp fun σ H Q q => by
  obtain ⟨z, F0, L0, H0, ρ, st, F, L, r, p⟩ := q
  unfold eVar at p
  cases hs : ρ[i]? with
  | none => rw [hs] at p; exact p.elim
  | some s =>
    have hi : i < σ.length := by rw [← r.len]; exact (List.getElem?_eq_some_iff.mp hs).1
    have hr := r.sl i s _ hs (List.getElem?_eq_getElem hi)
    rw [hs] at p
    cases s with
    | un => exact p.elim
    | val d =>
      obtain ⟨v, e1, e2⟩ := hr
      exact ⟨v, by rw [List.getElem?_eq_getElem hi, e1], ok_den r.fh r.sto p e2⟩
    | own d =>
      obtain ⟨a, e1, h1, h2, h3⟩ := hr
      exact ⟨.ref a, by rw [List.getElem?_eq_getElem hi, e1], p _ F L H r.refl r.sto ⟨a, rfl, h1, h2, h3⟩ fun z => nomatch z⟩
theorem snd_int {i j pos} : PE X (.Constant (.int i) j pos) (tE X.K W (eCst (.int i))) := pe_int.imp fun σ H Q q => by
  obtain ⟨z, F0, L0, H0, ρ, st, F, L, r, p⟩ := q
  exact ok_int r.fh r.sto p
theorem snd_bl {i j pos} : PE X (.Constant (.bool i) j pos) (tE X.K W (eCst (.bl i))) := pe_bl.imp fun σ H Q q => by
  obtain ⟨z, F0, L0, H0, ρ, st, F, L, r, p⟩ := q
  exact ok_bl r.fh r.sto p
theorem snd_non {j pos} : PE X (.Constant .none j pos) (tE X.K W (eCst .non)) := pe_non.imp fun σ H Q q => by
  obtain ⟨z, F0, L0, H0, ρ, st, F, L, r, p⟩ := q
  exact ok_den r.fh r.sto p (by unfold Den; rfl)
theorem snd_str {x j pos} : PE X (.Constant (.str x) j pos) (tE X.K W (eCst (.str x))) := pe_str.imp fun σ H Q q => by
  obtain ⟨z, F0, L0, H0, ρ, st, F, L, r, p⟩ := q
  exact ok_str r.fh r.sto p

/-- an operation on two seen values -/
def BOk (K : PySem.W.Frag) (r : R2) (o : SB) : Prop := ∀ x y v w F L H st W σ Q, Same F H → StOk K F L H st → Vw K F L H x v → Vw K F L H y w → Post K W F L H σ (o x y st) (OkE K F L H Q) → r v w H Q
theorem bin_tE {K : PySem.W.Frag} {r : R2} {o : SB} (ho : BOk K r o) {σ : L2.St} {H : Hp} {Q : VK} (q : tE K W (eBin o f g) σ H Q) : tOp r (tE K W f) (tE K W g) σ H Q := by
  obtain ⟨z, F0, L0, H0, ρ, st, F, L, r, p⟩ := q
  refine ⟨z, F0, L0, H0, ρ, st, F, L, r, p.bind.mono fun x st1 p1 v F1 L1 H1 e1 s1 d1 n1 => ?_⟩
  refine ⟨z, F0, L0, H0, ρ, st1, F1, L1, r.step e1 s1, (p1.step e1).bind.mono fun y st2 p2 w F2 L2 H2 e2 s2 d2 n2 => ?_⟩
  exact ho _ _ v w F2 L2 H2 st2 W σ Q e2.fh s2 (vw_rs e2.fh s2 (d1.step e2 s1)) (vw_rs e2.fh s2 d2) (((p2.step e2).mono fun _ _ h => (h.step e1).step e2))
theorem snd_bin {op : Operator} {r : R2} {o : SB} (hr : OpR X (binaryOp op) r) (ho : BOk X.K r o) (ha : PE X a (tE X.K W f)) (hb : PE X b (tE X.K W g)) : PE X (.BinOp a op b pos) (tE X.K W (eBin o f g)) :=
  (pe_op hr ha hb).imp fun _ _ _ q => bin_tE ho q
theorem snd_cmp {op : CmpOp} {r : R2} {o : SB} (hr : OpR X (compareOp op) r) (ho : BOk X.K r o) (ha : PE X a (tE X.K W f)) (hb : PE X b (tE X.K W g)) (hm : behindInMarks op b = false) : PE X (.Compare a [op] [b] pos) (tE X.K W (eBin o f g)) :=
  (pe_cmpR hr ha hb hm).imp fun _ _ _ q => bin_tE ho q
end
end Q

set_option Elab.async false
set_option linter.all false
set_option maxRecDepth 100000
set_option maxHeartbeats 1000000
/-! Q4: operators and comparisons. -/
namespace Q
open PySem PySem.Spec PyProof.Rows L2
theorem maxLen_eq : maxLen = sizeLine := by rw [sizeLine_eq]; rfl
theorem atI_eq {α : Type} (xs : List α) (i : Int) : Q.atI xs i = L2.atI xs i := rfl
section
variable {K : PySem.W.Frag} {X : Cx}
/-- two ints, no bound -/
theorem bok_I {g : Int → Int → Int} {o : SB} (ho : ∀ x y st, (∃ i j, x = .int i ∧ y = .int j ∧ o x y st = okI (g i j) st) ∨ o x y st = .no) : BOk K (rI0 fun i j => .int (g i j)) o := by
  intro x y v w F L H st W σ Q fh s hv hw p
  rcases ho x y st with ⟨i, j, rfl, rfl, e⟩ | e
  · rw [e] at p
    exact ⟨i, j, hv, hw, ok_int fh s p⟩
  · rw [e] at p; exact p.elim
theorem bok_IC {C : Int → Int → Prop} {g : Int → Int → Int} {o : SB} (ho : ∀ x y st, (∃ i j, x = .int i ∧ y = .int j ∧ C i j ∧ o x y st = okI (g i j) st) ∨ o x y st = .no) : BOk K (rI C fun i j => .int (g i j)) o := by
  intro x y v w F L H st W σ Q fh s hv hw p
  rcases ho x y st with ⟨i, j, rfl, rfl, c, e⟩ | e
  · rw [e] at p
    exact ⟨i, j, hv, hw, c, ok_int fh s p⟩
  · rw [e] at p; exact p.elim
theorem bok_B {g : Int → Int → Bool} {o : SB} (ho : ∀ x y st, (∃ i j, x = .int i ∧ y = .int j ∧ o x y st = okB (g i j) st) ∨ o x y st = .no) : BOk K (rI0 fun i j => .bl (g i j)) o := by
  intro x y v w F L H st W σ Q fh s hv hw p
  rcases ho x y st with ⟨i, j, rfl, rfl, e⟩ | e
  · rw [e] at p
    exact ⟨i, j, hv, hw, ok_bl fh s p⟩
  · rw [e] at p; exact p.elim

theorem b_sub : BOk K (rI0 fun i j => .int (i - j)) bSub := bok_I fun x y st => by
  cases x <;> cases y <;> first | exact .inr rfl | exact .inl ⟨_, _, rfl, rfl, rfl⟩
theorem b_and : BOk K (rI0 fun i j => .int (Builtin.bitAnd i j)) bAnd := bok_I fun x y st => by
  cases x <;> cases y <;> first | exact .inr rfl | exact .inl ⟨_, _, rfl, rfl, rfl⟩
theorem b_or : BOk K (rI0 fun i j => .int (Builtin.bitOr i j)) bOr := bok_I fun x y st => by
  cases x <;> cases y <;> first | exact .inr rfl | exact .inl ⟨_, _, rfl, rfl, rfl⟩
theorem b_xor : BOk K (rI0 fun i j => .int (Builtin.bitXor i j)) bXor := bok_I fun x y st => by
  cases x <;> cases y <;> first | exact .inr rfl | exact .inl ⟨_, _, rfl, rfl, rfl⟩
theorem if_no {C : Prop} [Decidable C] {a : R (D × Fg)} (h : C → (if C then a else R.no) = a ∧ C) : True := trivial
theorem b_fdiv : BOk K (rI CDivW fun i j => .int (i / j)) bFdiv := bok_IC fun x y st => by
  cases x <;> cases y <;> first
    | exact .inr rfl
    | (rename_i i j
       by_cases h : 0 < j ∧ j < 2 ^ 9000
       · exact .inl ⟨i, j, rfl, rfl, wide_div (b := 9000) h.1 (by have := h.1; have := h.2; omega) (by decide) (by decide), if_pos h⟩
       · exact .inr (if_neg h))
theorem b_mod : BOk K (rI (fun _ j => 0 < j) fun i j => .int (i % j)) bMod := bok_IC fun x y st => by
  cases x <;> cases y <;> first
    | exact .inr rfl
    | (rename_i i j
       by_cases h : 0 < j
       · exact .inl ⟨i, j, rfl, rfl, h, if_pos h⟩
       · exact .inr (if_neg h))
theorem b_pow : BOk K (rI CPow fun i j => .int (i ^ j.toNat)) bPow := bok_IC fun x y st => by
  cases x <;> cases y <;> first
    | exact .inr rfl
    | (rename_i i j
       by_cases h : 0 ≤ j ∧ j ≤ 1000000 ∧ i.natAbs < 2 ^ 64
       · exact .inl ⟨i, j, rfl, rfl, h, if_pos h⟩
       · exact .inr (if_neg h))
theorem b_shl : BOk K (rI CShl fun i j => .int (i * 2 ^ j.toNat)) bShl := bok_IC fun x y st => by
  cases x <;> cases y <;> first
    | exact .inr rfl
    | (rename_i i j
       by_cases h : 0 ≤ j ∧ (Builtin.Int.intBits i : Int) + j ≤ 2 ^ 27
       · exact .inl ⟨i, j, rfl, rfl, h, if_pos h⟩
       · exact .inr (if_neg h))
theorem b_shr : BOk K (rI (fun _ j => 0 ≤ j) fun i j => .int (i / 2 ^ j.toNat)) bShr := bok_IC fun x y st => by
  cases x <;> cases y <;> first
    | exact .inr rfl
    | (rename_i i j
       by_cases h : 0 ≤ j
       · exact .inl ⟨i, j, rfl, rfl, h, if_pos h⟩
       · exact .inr (if_neg h))
/-! adding, multiplying -/
theorem or_add : OpR X (binaryOp .Add) (fun x y H Q => (rI0 (fun i j => .int (i + j))) x y H Q ∨ (∃ i j, x = .str i ∧ y = .str j ∧ i.length + j.length ≤ sizeLine ∧ Q (.str (i ++ j)) H) ∨ rCat x y H Q) := op_add.or (op_add_str.or op_cat)
theorem b_add : BOk K (fun x y H Q => (rI0 (fun i j => .int (i + j))) x y H Q ∨ (∃ i j, x = .str i ∧ y = .str j ∧ i.length + j.length ≤ sizeLine ∧ Q (.str (i ++ j)) H) ∨ rCat x y H Q) bAdd := by
  intro x y v w F L H st W σ Q fh s hv hw p
  cases x <;> cases y <;> first
    | exact p.elim
    | exact .inl ⟨_, _, hv, hw, ok_int fh s p⟩
    | skip
  · rename_i a b
    have p : Post K W F L H σ (if a.length + b.length ≤ maxLen then .ok (.str (a ++ b), .fz) st else .no) (OkE K F L H Q) := p
    by_cases h : a.length + b.length ≤ maxLen
    · rw [if_pos h] at p
      exact .inr (.inl ⟨a, b, hv, hw, by rw [← maxLen_eq]; exact h, ok_str fh s p⟩)
    · rw [if_neg h] at p; exact p.elim
  · rename_i a b
    have p : Post K W F L H σ (if a.length + b.length ≤ maxLen then .ok (.lst (a ++ b), .fr) st else .no) (OkE K F L H Q) := p
    obtain ⟨l, xs, rfl, h1, h2⟩ := hv
    obtain ⟨m, ys, rfl, h3, h4⟩ := hw
    by_cases h : a.length + b.length ≤ maxLen
    · rw [if_pos h] at p
      exact .inr (.inr ⟨l, m, xs, ys, rfl, rfl, h1, h3, by rw [← maxLen_eq, ← h2.length, ← h4.length]; exact h, fun q hq => ok_list fh s p (h2.append h4) hq⟩)
    · rw [if_neg h] at p; exact p.elim
theorem or_mul : OpR X (binaryOp .Mult) (fun x y H Q => (rI CMul fun i j => .int (i * j)) x y H Q ∨ (rI CMulW fun i j => .int (i * j)) x y H Q ∨ rRep x y H Q) := op_mul.or (op_mulW.or op_rep)
theorem b_mul : BOk K (fun x y H Q => (rI CMul fun i j => .int (i * j)) x y H Q ∨ (rI CMulW fun i j => .int (i * j)) x y H Q ∨ rRep x y H Q) bMul := by
  intro x y v w F L H st W σ Q fh s hv hw p
  cases x <;> cases y <;> first
    | exact p.elim
    | skip
  · rename_i i j
    have p : Post K W F L H σ (if mulOk i j = true then okI (i * j) st else .no) (OkE K F L H Q) := p
    by_cases h : mulOk i j = true
    · rw [if_pos h] at p
      have h := of_decide_eq_true h
      rcases h with h | h | h
      · exact .inl ⟨i, j, hv, hw, .inl h, ok_int fh s p⟩
      · exact .inl ⟨i, j, hv, hw, .inr h, ok_int fh s p⟩
      · exact .inr (.inl ⟨i, j, hv, hw, h, ok_int fh s p⟩)
    · rw [if_neg h] at p; exact p.elim
  · rename_i a j
    have p : Post K W F L H σ (if j ≤ maxLen ∧ -maxLen ≤ j ∧ a.length * j.toNat ≤ maxLen then .ok (.lst (List.replicate j.toNat a).flatten, .fr) st else .no) (OkE K F L H Q) := p
    obtain ⟨l, xs, rfl, h1, h2⟩ := hv
    split at p
    · rename_i h
      have hm : (maxLen : Int) = 16777216 := rfl
      exact .inr (.inr ⟨l, j, xs, rfl, hw, h1, by omega, by omega, by rw [← maxLen_eq, ← h2.length]; exact h.2.2, fun q hq => ok_list fh s p (h2.rep _) hq⟩)
    · exact p.elim
/-! order -/
theorem c_lt : BOk K (rI0 fun i j => .bl (decide (i < j))) cLt := bok_B fun x y st => by
  cases x <;> cases y <;> first | exact .inr rfl | exact .inl ⟨_, _, rfl, rfl, rfl⟩
theorem c_le : BOk K (rI0 fun i j => .bl (decide (i ≤ j))) cLe := bok_B fun x y st => by
  cases x <;> cases y <;> first | exact .inr rfl | exact .inl ⟨_, _, rfl, rfl, rfl⟩
theorem c_gt : BOk K (rI0 fun i j => .bl (decide (j < i))) cGt := bok_B fun x y st => by
  cases x <;> cases y <;> first | exact .inr rfl | exact .inl ⟨_, _, rfl, rfl, rfl⟩
theorem c_ge : BOk K (rI0 fun i j => .bl (decide (j ≤ i))) cGe := bok_B fun x y st => by
  cases x <;> cases y <;> first | exact .inr rfl | exact .inl ⟨_, _, rfl, rfl, rfl⟩
/-! equality -/
mutual
theorem dp_of {F : Hp} {L : List Addr} {H : Hp} (fh : Same F H) : ∀ (d : D) (v : V) (p : PyData), Den K F L d v → toP d = some p → Dp K H v p
  | .non, _, _, h, e => by
    unfold Den at h; unfold toP at e; cases e; subst h; exact .non
  | .bl b, _, _, h, e => by
    unfold Den at h; unfold toP at e; cases e; subst h; exact .bl b
  | .int i, _, _, h, e => by
    unfold Den at h; unfold toP at e; cases e; subst h; exact .int i
  | .str x, _, _, h, e => by
    unfold Den at h; unfold toP at e; cases e; subst h; exact .str x
  | .lst xs, _, _, h, e => by
    unfold Den at h; unfold toP at e
    obtain ⟨a, vs, rfl, h1, h2⟩ := h
    cases q : toPs xs with
    | none => rw [q] at e; cases e
    | some ps =>
      rw [q] at e; cases e
      exact .lst (SqL.of (fh _ _ h1)) (dps_of fh xs vs ps h2 q)
  | .tup xs, _, _, h, e => by
    unfold Den at h; unfold toP at e
    obtain ⟨a, vs, rfl, h1, h2⟩ := h
    cases q : toPs xs with
    | none => rw [q] at e; cases e
    | some ps =>
      rw [q] at e; cases e
      exact .tup (same_sqT fh h1) (dps_of fh xs vs ps h2 q)
  | .dct _ _, _, _, _, e => by unfold toP at e; cases e
  | .ins _ _ _, _, _, _, e => by unfold toP at e; cases e
  | .ref _, _, _, _, e => by unfold toP at e; cases e
  | .scr _, _, _, _, e => by unfold toP at e; cases e
theorem dps_of {F : Hp} {L : List Addr} {H : Hp} (fh : Same F H) : ∀ (ds : List D) (vs : List V) (ps : List PyData), DenL K F L ds vs → toPs ds = some ps → DpAll K H vs ps
  | [], _, _, h, e => by
    unfold DenL at h; unfold toPs at e; cases e; subst h; exact .nil
  | d :: ds, _, _, h, e => by
    unfold DenL at h; unfold toPs at e
    obtain ⟨w, r, rfl, h1, h2⟩ := h
    cases q1 : toP d with
    | none => rw [q1] at e; cases e
    | some p =>
      cases q2 : toPs ds with
      | none => rw [q1, q2] at e; cases e
      | some ps =>
        rw [q1, q2] at e; cases e
        exact .cons (dp_of fh d w p h1 q1) (dps_of fh ds r ps h2 q2)
end
theorem dp_vw {F : Hp} {L : List Addr} {H : Hp} (fh : Same F H) {d : D} {v : V} {p : PyData} (h : Vw K F L H d v) (e : toP d = some p) : Dp K H v p := by
  cases d with
  | non => unfold toP at e; cases e; cases (show v = .non from h); exact .non
  | bl b => unfold toP at e; cases e; cases (show v = .bl b from h); exact .bl b
  | int b => unfold toP at e; cases e; cases (show v = .int b from h); exact .int b
  | str b => unfold toP at e; cases e; cases (show v = .str b from h); exact .str b
  | lst xs =>
    obtain ⟨a, vs, rfl, h1, h2⟩ := h
    unfold toP at e
    cases q : toPs xs with
    | none => rw [q] at e; cases e
    | some ps =>
      rw [q] at e; cases e
      exact .lst (SqL.of h1) (dps_of fh xs vs ps h2 q)
  | tup xs =>
    obtain ⟨a, vs, rfl, h1, h2⟩ := h
    unfold toP at e
    cases q : toPs xs with
    | none => rw [q] at e; cases e
    | some ps =>
      rw [q] at e; cases e
      exact .tup h1 (dps_of fh xs vs ps h2 q)
  | _ => unfold toP at e; cases e
theorem eqD_some {x y : D} {b : Bool} (h : eqD x y = some b) : ∃ p q, toP x = some p ∧ toP y = some q ∧ SeqAt.shaped p = true ∧ SeqAt.shaped q = true ∧ PyData.eqv p q = b := by
  unfold eqD at h
  cases e1 : toP x with
  | none => rw [e1] at h; cases h
  | some p =>
    cases e2 : toP y with
    | none => rw [e1, e2] at h; cases h
    | some q =>
      rw [e1, e2] at h
      by_cases hs : SeqAt.shaped p = true ∧ SeqAt.shaped q = true
      · have h' : (if SeqAt.shaped p = true ∧ SeqAt.shaped q = true then some (PyData.eqv p q) else none) = some b := h
        rw [if_pos hs] at h'
        exact ⟨p, q, rfl, rfl, hs.1, hs.2, Option.some.inj h'⟩
      · have h' : (if SeqAt.shaped p = true ∧ SeqAt.shaped q = true then some (PyData.eqv p q) else none) = some b := h
        rw [if_neg hs] at h'
        cases h'
theorem eq_rule {F : Hp} {L : List Addr} {H : Hp} {st : List D} {W : WX} {σ : L2.St} {Q : VK} {x y : D} {v w : V} (fh : Same F H) (s : StOk K F L H st) (hv : Vw K F L H x v) (hw : Vw K F L H y w) (p : Post K W F L H σ (ofO (eqD x y) st) (OkE K F L H Q)) : rEqD K v w H Q := by
  cases e : eqD x y with
  | none => rw [e] at p; exact p.elim
  | some b =>
    rw [e] at p
    obtain ⟨d1, d2, t1, t2, s1, s2, eb⟩ := eqD_some e
    exact ⟨d1, d2, dp_vw fh hv t1, dp_vw fh hw t2, s1, s2, by rw [eb]; exact ok_bl fh s p⟩
theorem ne_rule {F : Hp} {L : List Addr} {H : Hp} {st : List D} {W : WX} {σ : L2.St} {Q : VK} {x y : D} {v w : V} (fh : Same F H) (s : StOk K F L H st) (hv : Vw K F L H x v) (hw : Vw K F L H y w) (p : Post K W F L H σ (ofO ((eqD x y).map (!·)) st) (OkE K F L H Q)) : rNeD K v w H Q := by
  cases e : eqD x y with
  | none => rw [e] at p; exact p.elim
  | some b =>
    rw [e] at p
    obtain ⟨d1, d2, t1, t2, s1, s2, eb⟩ := eqD_some e
    exact ⟨d1, d2, dp_vw fh hv t1, dp_vw fh hw t2, s1, s2, by rw [eb]; exact ok_bl fh s p⟩
theorem or_eq (hu : X.A.units + 64 < cLine) : OpR X (compareOp .Eq) (fun x y H Q => rEq x y H Q ∨ rEqD X.K x y H Q) := op_eq.or (op_eqD hu)
theorem or_ne (hu : X.A.units + 64 < cLine) : OpR X (compareOp .NotEq) (fun x y H Q => rNe x y H Q ∨ rNeD X.K x y H Q) := op_ne.or (op_neD hu)
theorem c_eq : BOk K (fun x y H Q => rEq x y H Q ∨ rEqD K x y H Q) cEq := by
  intro x y v w F L H st W σ Q fh s hv hw p
  by_cases hx : (∃ i, x = .int i) ∧ ∃ j, y = .int j
  · obtain ⟨⟨i, rfl⟩, j, rfl⟩ := hx
    cases (show v = .int i from hv)
    cases (show w = .int j from hw)
    refine .inl ⟨rfl, ?_⟩
    have e : decide (V.int i = V.int j) = decide (i = j) := by rw [dec_int, Bool.beq_eq_decide_eq]
    rw [e]
    exact ok_bl fh s p
  · have e : cEq x y st = ofO (eqD x y) st := by
      cases x <;> cases y <;> first | rfl | exact absurd ⟨⟨_, rfl⟩, _, rfl⟩ hx
    rw [e] at p
    exact .inr (eq_rule fh s hv hw p)
theorem c_ne : BOk K (fun x y H Q => rNe x y H Q ∨ rNeD K x y H Q) cNe := by
  intro x y v w F L H st W σ Q fh s hv hw p
  by_cases hx : (∃ i, x = .int i) ∧ ∃ j, y = .int j
  · obtain ⟨⟨i, rfl⟩, j, rfl⟩ := hx
    cases (show v = .int i from hv)
    cases (show w = .int j from hw)
    refine .inl ⟨rfl, ?_⟩
    have e : decide (V.int i = V.int j) = decide (i = j) := by rw [dec_int, Bool.beq_eq_decide_eq]
    rw [e]
    exact ok_bl fh s p
  · by_cases hy : (∃ i, x = .bl i) ∧ ∃ j, y = .bl j
    · obtain ⟨⟨i, rfl⟩, j, rfl⟩ := hy
      cases (show v = .bl i from hv)
      cases (show w = .bl j from hw)
      refine .inl ⟨rfl, ?_⟩
      have e : decide (V.bl i = V.bl j) = decide (i = j) := by rw [dec_bl, Bool.beq_eq_decide_eq]
      rw [e]
      exact ok_bl fh s p
    · have e : cNe x y st = ofO ((eqD x y).map (!·)) st := by
        cases x <;> cases y <;> first | rfl | exact absurd ⟨⟨_, rfl⟩, _, rfl⟩ hx | exact absurd ⟨⟨_, rfl⟩, _, rfl⟩ hy
      rw [e] at p
      exact .inr (ne_rule fh s hv hw p)
end
end Q

set_option Elab.async false
set_option linter.all false
set_option maxRecDepth 100000
set_option maxHeartbeats 1000000
/-! Q5: chains, truth, displays, places, attributes, calls. -/
namespace Q
open PySem PySem.Spec PyProof.Rows L2
section
variable {X : Cx} {W : WX} {e a b c : Expr} {es : List Expr} {f g k : SE} {fs : SEs} {t u v : ST} {pos : Pos}

theorem snd_neg (ha : PE X a (tE X.K W f)) : PE X (.UnaryOp .USub a pos) (tE X.K W (eNeg f)) := (pe_un un_neg ha).imp fun σ H Q q => by
  obtain ⟨z, F0, L0, H0, ρ, st, F, L, r, p⟩ := q
  refine ⟨z, F0, L0, H0, ρ, st, F, L, r, p.bind.mono fun x st1 p1 v F1 L1 H1 e1 s1 d1 n1 => ?_⟩
  obtain ⟨d, gg⟩ := x
  cases d with
  | int i =>
    refine ⟨i, ?_, ok_int e1.fh s1 (p1.step e1 |>.mono fun _ _ h => h.step e1)⟩
    have := vw_rs e1.fh s1 d1
    exact this
  | _ => exact p1.elim
/-- a op b op c -/
theorem snd_chain {op op' : CmpOp} {r r' : R2} {o o' : SB} (hr : OpR X (compareOp op) r) (ho : BOk X.K r o) (hr' : OpR X (compareOp op') r') (ho' : BOk X.K r' o') (ob : ∀ x y st z st', o x y st = .ok z st' → z.2 = .fz) (ha : PE X a (tE X.K W f)) (hb : PE X b (tE X.K W g)) (hc : PE X c (tE X.K W k))
    (hm : lastMarks [op, op'] [b, c] = false := by with_unfolding_all rfl) : PE X (.Compare a [op, op'] [b, c] pos) (tE X.K W (eChain o o' f g k)) :=
  (pe_chain hr hr' ha hb hc hm).imp fun σ H Q q => by
    obtain ⟨z, F0, L0, H0, ρ, st, F, L, r, p⟩ := q
    refine ⟨z, F0, L0, H0, ρ, st, F, L, r, p.bind.mono fun x st1 p1 v F1 L1 H1 e1 s1 d1 n1 => ?_⟩
    refine ⟨z, F0, L0, H0, ρ, st1, F1, L1, r.step e1 s1, (p1.step e1).bind.mono fun y st2 p2 w F2 L2 H2 e2 s2 d2 n2 => ?_⟩
    refine ho _ _ v w F2 L2 H2 st2 W σ _ e2.fh s2 (vw_rs e2.fh s2 (d1.step e2 s1)) (vw_rs e2.fh s2 d2) ?_
    have p2 := (p2.step e2).bind
    cases hz : o (rs st2 x.1) (rs st2 y.1) st2 with
    | no => rw [hz] at p2; exact p2.elim
    | ex c' ks ds st' =>
      rw [hz] at p2
      exact p2
    | ok z st3 =>
      rw [hz] at p2
      have zf := ob _ _ _ _ _ hz
      obtain ⟨zd, zg⟩ := z
      cases zf
      intro zv F3 L3 H3 e3 s3 d3 n3
      cases zd with
      | bl bb =>
        have zv' : zv = .bl bb := by
          have d3 : Den X.K F3 L3 (.bl bb) zv := d3
          unfold Den at d3
          exact d3
        refine ⟨bb, zv', ?_⟩
        have e13 := (e1.trans e2).trans e3
        cases bb with
        | false =>
          rw [if_neg Bool.false_ne_true]
          exact ok_bl e3.fh s3 (OkE.step (show OkE X.K F L H Q (.bl false, .fz) st3 from p2) e13)
        | true =>
          rw [if_pos rfl]
          have r3 := ((r.step e1 s1).step e2 s2).step e3 s3
          have p3 : Post X.K W F2 L2 H2 σ ((k ρ st3).bind fun z st4 => o' (rs st4 y.1) (rs st4 z.1) st4) (OkE X.K F L H Q) := p2
          refine ⟨z, F0, L0, H0, ρ, st3, F3, L3, r3, (Post.bind (p3.step e3)).mono fun z' st4 p4 w' F4 L4 H4 e4 s4 d4 n4 => ?_⟩
          exact ho' _ _ w w' F4 L4 H4 st4 W σ Q e4.fh s4 (vw_rs e4.fh s4 ((d2.step e3 s2).step e4 s3)) (vw_rs e4.fh s4 d4) ((p4.step e4).mono fun _ _ h => (h.step e13).step e4)
      | _ => exact p2.elim

/-! ### truth -/
theorem tru_ok' {F : Hp} {L : List Addr} {H : Hp} {d : D} {v : V} {b : Bool} (h : Vw X.K F L H d v) (e : tru d = some b) : TruV X.K v H b := by
  cases d with
  | non => cases (show v = .non from h); cases e; exact rfl
  | bl x => cases (show v = .bl x from h); cases e; exact rfl
  | int x => cases (show v = .int x from h); cases e; exact rfl
  | str x =>
    cases (show v = .str x from h)
    have e : (if x.length ≤ maxLen then some ((x.length : Int) != 0) else none) = some b := e
    by_cases hl : x.length ≤ maxLen
    · rw [if_pos hl] at e; cases e; exact ⟨by rw [← maxLen_eq]; exact hl, rfl⟩
    · rw [if_neg hl] at e; cases e
  | lst xs =>
    obtain ⟨q, vs, rfl, h1, h2⟩ := h
    cases e
    refine .inl ⟨vs, SqL.of h1, ?_⟩
    have := h2.length
    cases xs <;> cases vs <;> first | rfl | simp at this
  | tup xs =>
    obtain ⟨q, vs, rfl, h1, h2⟩ := h
    cases e
    refine .inr (.inl ⟨vs, h1, ?_⟩)
    have := h2.length
    cases xs <;> cases vs <;> first | rfl | simp at this
  | _ => cases e
theorem snd_tVal (ha : PE X a (tE X.K W f)) (he : ∀ whole, isTrue a X.env whole = (do let v ← whole; standAt a.pos; holding [v] (truthy v)) := by intro _; rfl) : PT X a (tT X.K W (tVal f)) :=
  (pt_truth ha he).imp fun σ H Q q => by
    obtain ⟨z, F0, L0, H0, ρ, st, F, L, r, p⟩ := q
    refine ⟨z, F0, L0, H0, ρ, st, F, L, r, p.bind.mono fun x st1 p1 v F1 L1 H1 e1 s1 d1 n1 => ?_⟩
    cases h : tru (rs st1 x.1) with
    | none => rw [h] at p1; exact p1.elim
    | some bb =>
      rw [h] at p1
      exact ⟨bb, tru_ok' (vw_rs e1.fh s1 d1) h, p1 F1 L1 H1 e1 s1⟩
theorem test_tT {K : PySem.W.Frag} {σ : L2.St} {H : Hp} {Q : Bool → Hp → Prop} (hb : ∀ ρ st z st', f ρ st = .ok z st' → ∃ bb, z = (.bl bb, .fz)) (q : tT K W (tVal f) σ H Q) : tTest (tE K W f) σ H Q := by
  obtain ⟨z, F0, L0, H0, ρ, st, F, L, r, p⟩ := q
  refine ⟨z, F0, L0, H0, ρ, st, F, L, r, ?_⟩
  have p := p.bind
  cases h : f ρ st with
  | no => rw [h] at p; exact p.elim
  | ex c ks ds st' => rw [h] at p; exact p
  | ok z st1 =>
    rw [h] at p
    obtain ⟨bb, rfl⟩ := hb _ _ _ _ h
    intro v F1 L1 H1 e1 s1 d1 n1
    have d1 : Den K F1 L1 (.bl bb) v := d1
    unfold Den at d1
    exact ⟨bb, d1, p F1 L1 H1 e1 s1⟩
/-- comparisons and the like that answer by truth values alone -/
def IsB (f : SE) : Prop := ∀ ρ st z st', f ρ st = .ok z st' → ∃ bb, z = (.bl bb, .fz)
def IsBB (o : SB) : Prop := ∀ x y st z st', o x y st = .ok z st' → ∃ bb, z = (.bl bb, .fz)
theorem isB_bin {o : SB} (h : IsBB o) : IsB (eBin o f g) := by
  intro ρ st z st' e
  unfold eBin at e
  cases h1 : f ρ st with
  | no => rw [h1] at e; cases e
  | ex _ _ _ _ => rw [h1] at e; cases e
  | ok x st1 =>
    rw [h1, R.bind_ok] at e
    cases h2 : g ρ st1 with
    | no => rw [h2] at e; cases e
    | ex _ _ _ _ => rw [h2] at e; cases e
    | ok y st2 =>
      rw [h2, R.bind_ok] at e
      exact h _ _ _ _ _ e
theorem isBB_ofO {o : Option Bool} {st : List D} {z st'} (e : ofO o st = .ok z st') : ∃ bb, z = (.bl bb, .fz) := by
  cases o with
  | none => cases e
  | some b => cases e; exact ⟨b, rfl⟩
theorem isBB_lt : IsBB cLt := fun x y st z st' e => by cases x <;> cases y <;> first | (cases e; done) | (cases e; exact ⟨_, rfl⟩)
theorem isBB_le : IsBB cLe := fun x y st z st' e => by cases x <;> cases y <;> first | (cases e; done) | (cases e; exact ⟨_, rfl⟩)
theorem isBB_gt : IsBB cGt := fun x y st z st' e => by cases x <;> cases y <;> first | (cases e; done) | (cases e; exact ⟨_, rfl⟩)
theorem isBB_ge : IsBB cGe := fun x y st z st' e => by cases x <;> cases y <;> first | (cases e; done) | (cases e; exact ⟨_, rfl⟩)
theorem isBB_eq : IsBB cEq := fun x y st z st' e => by
  unfold cEq at e
  split at e
  · cases e; exact ⟨_, rfl⟩
  · exact isBB_ofO e
theorem isBB_ne : IsBB cNe := fun x y st z st' e => by
  unfold cNe at e
  split at e
  · cases e; exact ⟨_, rfl⟩
  · cases e; exact ⟨_, rfl⟩
  · exact isBB_ofO e
theorem snd_tCmp {op : CmpOp} {r : R2} {o : SB} (hr : OpR X (compareOp op) r) (ho : BOk X.K r o) (hb : IsBB o) (ha : PE X a (tE X.K W f)) (hb' : PE X b (tE X.K W g)) (hm : behindInMarks op b = false) : PT X (.Compare a [op] [b] pos) (tT X.K W (tVal (eBin o f g))) :=
  (pt_cmpR hr ha hb' hm).imp fun σ H Q q => by
    obtain ⟨z, F0, L0, H0, ρ, st, F, L, r, p⟩ := test_tT (isB_bin hb) q
    exact bin_tE ho ⟨z, F0, L0, H0, ρ, st, F, L, r, p⟩
theorem isB_chain {o o' : SB} (h' : IsBB o') : IsB (eChain o o' f g k) := by
  intro ρ st z st' e
  unfold eChain at e
  cases h1 : f ρ st with
  | no => rw [h1] at e; cases e
  | ex _ _ _ _ => rw [h1] at e; cases e
  | ok x st1 =>
    rw [h1, R.bind_ok] at e
    cases h2 : g ρ st1 with
    | no => rw [h2] at e; cases e
    | ex _ _ _ _ => rw [h2] at e; cases e
    | ok y st2 =>
      rw [h2, R.bind_ok] at e
      cases h3 : o (rs st2 x.1) (rs st2 y.1) st2 with
      | no => rw [h3] at e; cases e
      | ex _ _ _ _ => rw [h3] at e; cases e
      | ok w st3 =>
        rw [h3, R.bind_ok] at e
        obtain ⟨wd, wg⟩ := w
        cases wd with
        | bl bb =>
          cases bb with
          | false => cases e; exact ⟨_, rfl⟩
          | true =>
            have e : ((k ρ st3).bind fun z st4 => o' (rs st4 y.1) (rs st4 z.1) st4) = .ok z st' := e
            cases h4 : k ρ st3 with
            | no => rw [h4] at e; cases e
            | ex _ _ _ _ => rw [h4] at e; cases e
            | ok q st4 =>
              rw [h4, R.bind_ok] at e
              exact h' _ _ _ _ _ e
        | _ => cases e
/-- is None -/
theorem isNon_eq {F : Hp} {L : List Addr} {H : Hp} {g : Fg} {K : PySem.W.Frag} {d : D} {v : V} (h : DenR K F L H g d v) : decide (v = .non) = d.isNon := by
  cases g with
  | fz =>
    have h : Den K F L d v := h
    cases d <;> unfold Den at h <;> first
      | (subst h; rfl)
      | (obtain ⟨a, vs, rfl, _⟩ := h; rfl)
      | (obtain ⟨a, vs, fs, rfl, _⟩ := h; rfl)
      | (obtain ⟨a, _, rfl⟩ := h; rfl)
      | exact h.elim
  | bw =>
    obtain ⟨a, rfl, _, _, h⟩ := h
    cases d <;> first | rfl | exact h.elim
  | fr =>
    obtain ⟨a, rfl, _, _, h⟩ := h
    cases d <;> first | rfl | exact h.elim
theorem snd_isN {j pos'} (ha : PE X a (tE X.K W f)) : PE X (.Compare a [.Is] [.Constant .none j pos'] pos) (tE X.K W (eIsN f)) := (pe_cmp (pc_isN ha) rfl).imp fun σ H Q q => by
  obtain ⟨z, F0, L0, H0, ρ, st, F, L, r, p⟩ := q
  refine ⟨z, F0, L0, H0, ρ, st, F, L, r, p.bind.mono fun x st1 p1 v F1 L1 H1 e1 s1 d1 n1 => ?_⟩
  have e : decide (v = .non) = x.1.isNon := isNon_eq d1
  show Q (.bl (decide (v = .non))) H1
  rw [e]
  exact ok_bl e1.fh s1 ((p1.step e1).mono fun _ _ h => h.step e1)
theorem snd_notN {j pos'} (ha : PE X a (tE X.K W f)) : PE X (.Compare a [.IsNot] [.Constant .none j pos'] pos) (tE X.K W (eNotN f)) := (pe_cmp (pc_notN ha) rfl).imp fun σ H Q q => by
  obtain ⟨z, F0, L0, H0, ρ, st, F, L, r, p⟩ := q
  refine ⟨z, F0, L0, H0, ρ, st, F, L, r, p.bind.mono fun x st1 p1 v F1 L1 H1 e1 s1 d1 n1 => ?_⟩
  have e : decide (v = .non) = x.1.isNon := isNon_eq d1
  show Q (.bl (!decide (v = .non))) H1
  rw [e]
  exact ok_bl e1.fh s1 ((p1.step e1).mono fun _ _ h => h.step e1)
theorem isB_isN : IsB (eIsN f) := by
  intro ρ st z st' e
  unfold eIsN at e
  cases h1 : f ρ st with
  | no => rw [h1] at e; cases e
  | ex _ _ _ _ => rw [h1] at e; cases e
  | ok x st1 => rw [h1, R.bind_ok] at e; cases e; exact ⟨_, rfl⟩
theorem isB_notN : IsB (eNotN f) := by
  intro ρ st z st' e
  unfold eNotN at e
  cases h1 : f ρ st with
  | no => rw [h1] at e; cases e
  | ex _ _ _ _ => rw [h1] at e; cases e
  | ok x st1 => rw [h1, R.bind_ok] at e; cases e; exact ⟨_, rfl⟩
/-- a comparison (one, or two, or of None) whose value is known to be a truth value, as a test -/
theorem snd_tB (h : PE X e (tE X.K W f)) (hb : IsB f) (ht : ∀ t : TE, PE X e t → PT X e (tTest t)) : PT X e (tT X.K W (tVal f)) := (ht _ h).imp fun σ H Q q => test_tT hb q
theorem snd_tChain {op op' : CmpOp} {r r' : R2} {o o' : SB} (hr : OpR X (compareOp op) r) (ho : BOk X.K r o) (hr' : OpR X (compareOp op') r') (ho' : BOk X.K r' o') (ob : IsBB o) (ob' : IsBB o') (ha : PE X a (tE X.K W f)) (hb : PE X b (tE X.K W g)) (hc : PE X c (tE X.K W k))
    (hm : lastMarks [op, op'] [b, c] = false := by with_unfolding_all rfl) : PT X (.Compare a [op, op'] [b, c] pos) (tT X.K W (tVal (eChain o o' f g k))) :=
  (pt_chain hr hr' ha hb hc hm).imp fun σ H Q q => by
    obtain ⟨z, F0, L0, H0, ρ, st, F, L, r, p⟩ := test_tT (isB_chain ob') q
    refine ⟨z, F0, L0, H0, ρ, st, F, L, r, p.bind.mono fun x st1 p1 v F1 L1 H1 e1 s1 d1 n1 => ?_⟩
    refine ⟨z, F0, L0, H0, ρ, st1, F1, L1, r.step e1 s1, (p1.step e1).bind.mono fun y st2 p2 w F2 L2 H2 e2 s2 d2 n2 => ?_⟩
    refine ho _ _ v w F2 L2 H2 st2 W σ _ e2.fh s2 (vw_rs e2.fh s2 (d1.step e2 s1)) (vw_rs e2.fh s2 d2) ?_
    have p2 := (p2.step e2).bind
    cases hz : o (rs st2 x.1) (rs st2 y.1) st2 with
    | no => rw [hz] at p2; exact p2.elim
    | ex c' ks ds st' => rw [hz] at p2; exact p2
    | ok z st3 =>
      rw [hz] at p2
      obtain ⟨bb, rfl⟩ := ob _ _ _ _ _ hz
      intro zv F3 L3 H3 e3 s3 d3 n3
      have d3 : Den X.K F3 L3 (.bl bb) zv := d3
      unfold Den at d3
      refine ⟨bb, d3, ?_⟩
      have e13 := (e1.trans e2).trans e3
      cases bb with
      | false =>
        rw [if_neg Bool.false_ne_true]
        exact ok_bl e3.fh s3 (OkE.step p2 e13)
      | true =>
        rw [if_pos rfl]
        have r3 := ((r.step e1 s1).step e2 s2).step e3 s3
        have p3 : Post X.K W F2 L2 H2 σ ((k ρ st3).bind fun z st4 => o' (rs st4 y.1) (rs st4 z.1) st4) _ := p2
        refine ⟨z, F0, L0, H0, ρ, st3, F3, L3, r3, (Post.bind (p3.step e3)).mono fun z' st4 p4 w' F4 L4 H4 e4 s4 d4 n4 => ?_⟩
        exact ho' _ _ w w' F4 L4 H4 st4 W σ _ e4.fh s4 (vw_rs e4.fh s4 ((d2.step e3 s2).step e4 s3)) (vw_rs e4.fh s4 d4) ((p4.step e4).mono fun _ _ h => (h.step e13).step e4)
theorem snd_tIsN {j pos'} (ha : PE X a (tE X.K W f)) : PT X (.Compare a [.Is] [.Constant .none j pos'] pos) (tT X.K W (tVal (eIsN f))) := (pt_cmp (pc_isN ha) rfl).imp fun σ H Q q => by
  obtain ⟨z, F0, L0, H0, ρ, st, F, L, r, p⟩ := test_tT isB_isN q
  refine ⟨z, F0, L0, H0, ρ, st, F, L, r, p.bind.mono fun x st1 p1 v F1 L1 H1 e1 s1 d1 n1 => ?_⟩
  have e : decide (v = .non) = x.1.isNon := isNon_eq d1
  refine ⟨decide (v = .non), rfl, ?_⟩
  rw [e]
  obtain ⟨c, hc, hq⟩ := ok_bl e1.fh s1 ((p1.step e1).mono fun _ _ h => h.step e1)
  cases hc
  exact hq
theorem snd_tNotN {j pos'} (ha : PE X a (tE X.K W f)) : PT X (.Compare a [.IsNot] [.Constant .none j pos'] pos) (tT X.K W (tVal (eNotN f))) := (pt_cmp (pc_notN ha) rfl).imp fun σ H Q q => by
  obtain ⟨z, F0, L0, H0, ρ, st, F, L, r, p⟩ := test_tT isB_notN q
  refine ⟨z, F0, L0, H0, ρ, st, F, L, r, p.bind.mono fun x st1 p1 v F1 L1 H1 e1 s1 d1 n1 => ?_⟩
  have e : decide (v = .non) = x.1.isNon := isNon_eq d1
  refine ⟨!decide (v = .non), rfl, ?_⟩
  rw [e]
  obtain ⟨c, hc, hq⟩ := ok_bl e1.fh s1 ((p1.step e1).mono fun _ _ h => h.step e1)
  cases hc
  exact hq
theorem snd_tNot (ha : PT X a (tT X.K W t)) : PT X (.UnaryOp .Not a pos) (tT X.K W (tNot t)) := (pt_not ha).imp fun σ H Q q => by
  obtain ⟨z, F0, L0, H0, ρ, st, F, L, r, p⟩ := q
  exact ⟨z, F0, L0, H0, ρ, st, F, L, r, p.bind.mono fun x st1 p1 F1 L1 H1 e1 s1 => p1 F1 L1 H1 e1 s1⟩
theorem snd_and1 (ha : PT X a (tT X.K W t)) : PW X (.BoolOp .And [a] pos) (tT X.K W t) := pw_and1 ha
theorem snd_or1 (ha : PT X a (tT X.K W t)) : PW X (.BoolOp .Or [a] pos) (tT X.K W t) := pw_or1 ha
theorem snd_tAnd (ha : PT X a (tT X.K W t)) (hb : PW X (.BoolOp .And (b :: es) pos) (tT X.K W u)) : PW X (.BoolOp .And (a :: b :: es) pos) (tT X.K W (tAnd t u)) := (pw_and ha hb).imp fun σ H Q q => by
  obtain ⟨z, F0, L0, H0, ρ, st, F, L, r, p⟩ := q
  refine ⟨z, F0, L0, H0, ρ, st, F, L, r, p.bind.mono fun x st1 p1 F1 L1 H1 e1 s1 => ?_⟩
  cases x with
  | true => exact ⟨z, F0, L0, H0, ρ, st1, F1, L1, r.step e1 s1, (p1.step e1).mono fun _ _ h => h.step e1⟩
  | false => exact p1 F1 L1 H1 e1 s1
theorem snd_tOr (ha : PT X a (tT X.K W t)) (hb : PW X (.BoolOp .Or (b :: es) pos) (tT X.K W u)) : PW X (.BoolOp .Or (a :: b :: es) pos) (tT X.K W (tOr t u)) := (pw_or ha hb).imp fun σ H Q q => by
  obtain ⟨z, F0, L0, H0, ρ, st, F, L, r, p⟩ := q
  refine ⟨z, F0, L0, H0, ρ, st, F, L, r, p.bind.mono fun x st1 p1 F1 L1 H1 e1 s1 => ?_⟩
  cases x with
  | false => exact ⟨z, F0, L0, H0, ρ, st1, F1, L1, r.step e1 s1, (p1.step e1).mono fun _ _ h => h.step e1⟩
  | true => exact p1 F1 L1 H1 e1 s1
/-! .. as values -/
theorem vbl {K : PySem.W.Frag} {F : Hp} {L : List Addr} {H : Hp} {st : List D} {g : Fg} {bb : Bool} {v : V} (e : Same F H) (s : StOk K F L H st) (h : DenR K F L H g (.bl bb) v) : v = .bl bb := vw_rs e s h
theorem snd_one {op} (h : PE X a (tE X.K W f)) : PE X (.BoolOp op [a] pos) (tE X.K W f) := pe_one h
theorem snd_eAnd (ha : PE X a (tE X.K W f)) (hb : PE X (.BoolOp .And (b :: es) pos) (tE X.K W g)) : PE X (.BoolOp .And (a :: b :: es) pos) (tE X.K W (eAnd f g)) := (pe_and ha hb).imp fun σ H Q q => by
  obtain ⟨z, F0, L0, H0, ρ, st, F, L, r, p⟩ := q
  refine ⟨z, F0, L0, H0, ρ, st, F, L, r, p.bind.mono fun x st1 p1 v F1 L1 H1 e1 s1 d1 n1 => ?_⟩
  obtain ⟨d, gg⟩ := x
  cases d with
  | bl bb =>
    refine ⟨bb, vbl e1.fh s1 d1, ?_⟩
    cases bb with
    | true =>
      rw [if_pos rfl]
      exact ⟨z, F0, L0, H0, ρ, st1, F1, L1, r.step e1 s1, (p1.step e1).mono fun _ _ h => h.step e1⟩
    | false =>
      rw [if_neg Bool.false_ne_true]
      exact ok_bl e1.fh s1 ((p1.step e1).mono fun _ _ h => h.step e1)
  | _ => exact p1.elim
theorem snd_eOr (ha : PE X a (tE X.K W f)) (hb : PE X (.BoolOp .Or (b :: es) pos) (tE X.K W g)) : PE X (.BoolOp .Or (a :: b :: es) pos) (tE X.K W (eOr f g)) := (pe_or ha hb).imp fun σ H Q q => by
  obtain ⟨z, F0, L0, H0, ρ, st, F, L, r, p⟩ := q
  refine ⟨z, F0, L0, H0, ρ, st, F, L, r, p.bind.mono fun x st1 p1 v F1 L1 H1 e1 s1 d1 n1 => ?_⟩
  obtain ⟨d, gg⟩ := x
  cases d with
  | bl bb =>
    refine ⟨bb, vbl e1.fh s1 d1, ?_⟩
    cases bb with
    | false =>
      rw [if_neg Bool.false_ne_true]
      exact ⟨z, F0, L0, H0, ρ, st1, F1, L1, r.step e1 s1, (p1.step e1).mono fun _ _ h => h.step e1⟩
    | true =>
      rw [if_pos rfl]
      exact ok_bl e1.fh s1 ((p1.step e1).mono fun _ _ h => h.step e1)
  | _ => exact p1.elim
theorem snd_eNot (ha : PE X a (tE X.K W f)) : PE X (.UnaryOp .Not a pos) (tE X.K W (eNot f)) := (pe_not ha).imp fun σ H Q q => by
  obtain ⟨z, F0, L0, H0, ρ, st, F, L, r, p⟩ := q
  refine ⟨z, F0, L0, H0, ρ, st, F, L, r, p.bind.mono fun x st1 p1 v F1 L1 H1 e1 s1 d1 n1 => ?_⟩
  obtain ⟨d, gg⟩ := x
  cases d with
  | bl bb => exact ⟨bb, vbl e1.fh s1 d1, ok_bl e1.fh s1 ((p1.step e1).mono fun _ _ h => h.step e1)⟩
  | _ => exact p1.elim
theorem snd_if (ht : PT X c (tT X.K W t)) (ha : PE X a (tE X.K W f)) (hb : PE X b (tE X.K W g)) : PE X (.IfExp c a b pos) (tE X.K W (eIf t f g)) := (pe_ifExp ht ha hb).imp fun σ H Q q => by
  obtain ⟨z, F0, L0, H0, ρ, st, F, L, r, p⟩ := q
  refine ⟨z, F0, L0, H0, ρ, st, F, L, r, p.bind.mono fun x st1 p1 F1 L1 H1 e1 s1 => ?_⟩
  cases x with
  | true => exact ⟨z, F0, L0, H0, ρ, st1, F1, L1, r.step e1 s1, (p1.step e1).mono fun _ _ h => h.step e1⟩
  | false => exact ⟨z, F0, L0, H0, ρ, st1, F1, L1, r.step e1 s1, (p1.step e1).mono fun _ _ h => h.step e1⟩

/-! ### lists of values -/
theorem snd_nil : PA X [] (tA X.K W eNil) := pa_nil.imp fun σ H Q q => by
  obtain ⟨z, F0, L0, H0, ρ, st, F, L, r, p⟩ := q
  exact p [] F L H r.refl r.sto .nil
theorem snd_cons (ha : PE X a (tE X.K W f)) (hr : PA X es (tA X.K W fs)) (hs : starEach (a :: es) X.env = (false, eval a X.env) :: starEach es X.env := by rfl) : PA X (a :: es) (tA X.K W (eCons f fs)) :=
  (pa_cons (pe_fzd ha) hr hs).imp fun σ H Q q => by
    obtain ⟨z, F0, L0, H0, ρ, st, F, L, r, p⟩ := q
    refine ⟨z, F0, L0, H0, ρ, st, F, L, r, p.bind.mono fun x st1 p1 v F1 L1 H1 e1 s1 d1 => ?_⟩
    refine ⟨z, F0, L0, H0, ρ, st1, F1, L1, r.step e1 s1, (p1.step e1).bind.mono fun y st2 p2 w F2 L2 H2 e2 s2 d2 => ?_⟩
    exact p2 _ F2 L2 H2 (e1.trans e2) s2 (.cons (e2.den d1) d2)
theorem snd_tup {x1} (h : PA X es (tA X.K W fs)) : PE X (.Tuple es x1 pos) (tE X.K W (eTup fs)) := (pe_tup h).imp fun σ H Q q => by
  obtain ⟨z, F0, L0, H0, ρ, st, F, L, r, p⟩ := q
  refine ⟨z, F0, L0, H0, ρ, st, F, L, r, p.bind.mono fun x st1 p1 v F1 L1 H1 e1 s1 d1 => ?_⟩
  by_cases hl : x.length ≤ maxLen
  · have p1 : Post X.K W F L H σ (if x.length ≤ maxLen then .ok (.tup x, .fz) st1 else .no) (OkE X.K F L H Q) := p1
    rw [if_pos hl] at p1
    exact ⟨by rw [← d1.length, ← maxLen_eq]; exact hl, fun q hq => ok_tup e1.fh s1 (OkE.step p1 e1) d1 hq⟩
  · have p1 : Post X.K W F L H σ (if x.length ≤ maxLen then .ok (.tup x, .fz) st1 else .no) (OkE X.K F L H Q) := p1
    rw [if_neg hl] at p1
    exact p1.elim
theorem snd_lst (h : PA X es (tA X.K W fs)) : PE X (.List es pos) (tE X.K W (eLst fs)) := (pe_lst h).imp fun σ H Q q => by
  obtain ⟨z, F0, L0, H0, ρ, st, F, L, r, p⟩ := q
  refine ⟨z, F0, L0, H0, ρ, st, F, L, r, p.bind.mono fun x st1 p1 v F1 L1 H1 e1 s1 d1 => ?_⟩
  by_cases hl : x.length ≤ maxLen
  · have p1 : Post X.K W F L H σ (if x.length ≤ maxLen then .ok (.lst x, .fr) st1 else .no) (OkE X.K F L H Q) := p1
    rw [if_pos hl] at p1
    exact ⟨by rw [← d1.length, ← maxLen_eq]; exact hl, fun q hq => ok_list e1.fh s1 (OkE.step p1 e1) d1 hq⟩
  · have p1 : Post X.K W F L H σ (if x.length ≤ maxLen then .ok (.lst x, .fr) st1 else .no) (OkE X.K F L H Q) := p1
    rw [if_neg hl] at p1
    exact p1.elim
end
end Q

set_option Elab.async false
set_option linter.all false
set_option maxRecDepth 100000
set_option maxHeartbeats 1000000
/-! Q6: places, attributes, calls, built-in functions. -/
namespace Q
open PySem PySem.Spec PyProof.Rows L2
section
variable {X : Cx} {W : WX} {e a b c : Expr} {es : List Expr} {f g k : SE} {fs : SEs} {t u v : ST} {pos : Pos}
theorem vw_den {K : PySem.W.Frag} {F : Hp} {L : List Addr} {H : Hp} {Q : VK} {st : List D} {ds : List D} {vs : List V} {i : Int} (e : Same F H) (s : StOk K F L H st) (d : DenL K F L ds vs) {W : WX} {σ : L2.St} (p : Post K W F L H σ (ofD (atI ds i) st) (OkE K F L H Q)) : ∃ v, L2.atI vs i = some v ∧ Q v H := by
  cases h : atI ds i with
  | none => rw [h] at p; exact p.elim
  | some x =>
    rw [h] at p
    unfold atI at h
    cases hn : ixN ds.length i with
    | none => rw [hn] at h; cases h
    | some j =>
      rw [hn] at h
      obtain ⟨v, h1, h2⟩ := d.get h
      refine ⟨v, ?_, ok_den e s p h2⟩
      show (L2.ixN vs.length i).bind (fun j => vs[j]?) = some v
      rw [← d.length, show L2.ixN ds.length i = some j from hn]
      exact h1
theorem b_ix {K : PySem.W.Frag} : BOk K (rIx K) ixD := by
  intro x y v w F L H st W σ Q fh s hv hw p
  cases x <;> cases y <;> first
    | exact p.elim
    | skip
  · rename_i z i
    have p : Post K W F L H σ (if z.length ≤ maxLen then ofD ((atI z.cps.toList i).map fun c => .str ⟨#[c]⟩) st else .no) (OkE K F L H Q) := p
    by_cases hl : z.length ≤ maxLen
    · rw [if_pos hl] at p
      cases h : atI z.cps.toList i with
      | none => rw [h] at p; exact p.elim
      | some cc =>
        rw [h] at p
        exact .inr (.inr ⟨z, i, cc, hv, hw, by rw [← maxLen_eq]; exact hl, h, ok_str fh s p⟩)
    · rw [if_neg hl] at p; exact p.elim
  · obtain ⟨q, vs, rfl, h1, h2⟩ := hv
    obtain ⟨u, h3, h4⟩ := vw_den fh s h2 p
    exact .inr (.inl ⟨q, vs, _, u, rfl, hw, h1, h3, h4⟩)
  · obtain ⟨q, vs, rfl, h1, h2⟩ := hv
    obtain ⟨u, h3, h4⟩ := vw_den fh s h2 p
    exact .inl ⟨q, vs, _, u, rfl, hw, SqL.of h1, h3, h4⟩
theorem snd_idx (ha : PE X a (tE X.K W f)) (hb : PE X b (tE X.K W g)) (hs : PlainIx b := by intro _ _; rfl) : PE X (.Subscript a b pos) (tE X.K W (eIdx f g)) := (pe_ix ix_seq ha hb hs).imp fun _ _ _ q => bin_tE b_ix q
/-! slices -/
abbrev SO := En → List D → R (Option Int)
def tO (K : PySem.W.Frag) (W : WX) (f : SO) : TO := fun σ H Q => ∃ z F0 L0 H0 ρ st F L, Rel K z F0 L0 H0 ρ st F L σ H ∧ Post K W F L H σ (f ρ st) fun o st' => ∀ F' L' H', Ext F L H F' L' H' → StOk K F' L' H' st' → Q o H'
theorem _root_.L2.PO.imp {X : Cx} {e : Option Expr} {t t' : TO} (h : PO X e t) (i : ∀ σ H Q, t' σ H Q → t σ H Q) : PO X e t' := ⟨fun pins s σ H Q I q => h.run pins s σ H Q I (i σ H Q q)⟩
theorem snd_no : PO X none (tO X.K W eNo) := po_none.imp fun σ H Q q => by
  obtain ⟨z, F0, L0, H0, ρ, st, F, L, r, p⟩ := q
  exact p F L H r.refl r.sto
theorem snd_part (ha : PE X a (tE X.K W f)) : PO X (some a) (tO X.K W (ePart f)) := (po_some ha).imp fun σ H Q q => by
  obtain ⟨z, F0, L0, H0, ρ, st, F, L, r, p⟩ := q
  refine ⟨z, F0, L0, H0, ρ, st, F, L, r, p.bind.mono fun x st1 p1 v F1 L1 H1 e1 s1 d1 n1 => ?_⟩
  obtain ⟨d, gg⟩ := x
  cases d with
  | int i => exact ⟨i, vw_rs e1.fh s1 d1, p1 F1 L1 H1 e1 s1⟩
  | _ => exact p1.elim
theorem cut_eq (xs : List V) (lo hi : Option Int) : cut xs lo hi = cutV xs lo hi := rfl
theorem denL_cut {K : PySem.W.Frag} {F : Hp} {L : List Addr} {ds : List D} {vs : List V} (h : DenL K F L ds vs) (lo hi : Option Int) : DenL K F L (cut ds lo hi) (cutV vs lo hi) := by
  rw [← cut_eq]
  unfold cut
  rw [h.length]
  exact (h.drop _).take _
theorem snd_sl {lo hi : Option Expr} {p2 : Pos} {l h : SO} (ha : PE X a (tE X.K W f)) (hl : PO X lo (tO X.K W l)) (hh : PO X hi (tO X.K W h)) : PE X (.Subscript a (.Slice lo hi none p2) pos) (tE X.K W (eSl f l h)) := (pe_slice sl_list ha hl hh).imp fun σ H Q q => by
  obtain ⟨z, F0, L0, H0, ρ, st, F, L, r, p⟩ := q
  refine ⟨z, F0, L0, H0, ρ, st, F, L, r, p.bind.mono fun x st1 p1 v F1 L1 H1 e1 s1 d1 n1 => ?_⟩
  refine ⟨z, F0, L0, H0, ρ, st1, F1, L1, r.step e1 s1, (p1.step e1).bind.mono fun o st2 p2 F2 L2 H2 e2 s2 => ?_⟩
  refine ⟨z, F0, L0, H0, ρ, st2, F2, L2, (r.step e1 s1).step e2 s2, (p2.step e2).bind.mono fun o' st3 p3 F3 L3 H3 e3 s3 => ?_⟩
  have hv := vw_rs e3.fh s3 ((d1.step e2 s1).step e3 s2)
  have p3 := p3.step e3
  have e13 := (e1.trans e2).trans e3
  cases hd : rs st3 x.1 with
  | lst ds =>
    rw [hd] at p3 hv
    obtain ⟨q, vs, rfl, h1, h2⟩ := hv
    exact ⟨q, vs, rfl, SqL.of h1, fun y hy => ok_list e3.fh s3 (OkE.step p3 e13) (denL_cut h2 o o') hy⟩
  | scr ds =>
    rw [hd] at p3 hv
    obtain ⟨q, vs, rfl, h1, h2⟩ := hv
    exact ⟨q, vs, rfl, h1, fun y hy => ok_list e3.fh s3 (OkE.step p3 e13) (denL_cut h2 o o') hy⟩
  | _ => rw [hd] at p3; exact p3.elim
/-! attributes -/
theorem lkp_get {K : PySem.W.Frag} {F : Hp} {L : List Addr} {x : String} : ∀ {ks : List String} {ds : List D} {fs : List (Str × V)} {d : D}, fs.map (·.1) = ks.map Str.ofString → DenL K F L ds (fs.map (·.2)) → (∀ k, Str.ofString k = Str.ofString x → k = x) → lkp ks ds x = some d → x ∈ ks ∧ ∃ v, fs.lookup (Str.ofString x) = some v ∧ Den K F L d v
  | [], ds, fs, d, _, _, _, h => by cases ds <;> cases h
  | k :: ks, [], fs, d, _, _, _, h => by cases h
  | k :: ks, d0 :: ds, [], d, e, _, _, h => by simp at e
  | k :: ks, d0 :: ds, (y, w) :: fs, d, e, h2, hi, h => by
    rw [List.map_cons, List.map_cons, List.cons.injEq] at e
    rw [List.map_cons] at h2
    unfold DenL at h2
    obtain ⟨w', r, e2, h3, h4⟩ := h2
    obtain ⟨rfl, rfl⟩ := List.cons.inj e2
    have h : (if k = x then some d0 else lkp ks ds x) = some d := h
    have e1 : y = Str.ofString k := e.1
    subst e1
    by_cases hk : k = x
    · rw [if_pos hk] at h
      cases h
      subst hk
      refine ⟨List.mem_cons_self, w, ?_, h3⟩
      simp [List.lookup]
    · rw [if_neg hk] at h
      obtain ⟨m, v, h5, h6⟩ := lkp_get e.2 h4 hi h
      refine ⟨List.mem_cons_of_mem _ m, v, ?_, h6⟩
      have nb : (Str.ofString x == Str.ofString k) = false := beq_eq_false_iff_ne.mpr fun z => hk (hi k z.symm)
      simp only [List.lookup, nb]
      exact h5
theorem ofString_inj {a b : String} (h : Str.ofString a = Str.ofString b) : a = b := by
  rw [Str.ofString_eq_toList, Str.ofString_eq_toList] at h
  have h1 : (a.toList.map Char.toNat).toArray = (b.toList.map Char.toNat).toArray := congrArg Str.cps h
  have h2 : a.toList.map Char.toNat = b.toList.map Char.toNat := by
    have := congrArg Array.toList h1
    simpa using this
  have h3 : a.toList = b.toList := by
    have inj : Function.Injective Char.toNat := fun x y e => Char.ext (UInt32.toNat_inj.mp e)
    exact (List.map_inj_right (fun x y e => inj e)).mp h2
  exact String.toList_inj.mp h3
theorem snd_fld {x : String} (ha : PE X a (tE X.K W f)) (hb : attributeBase a (Str.ofString x) X.env (eval a X.env) = eval a X.env := by rfl) : PE X (.Attribute a (Str.ofString x) pos) (tE X.K W (eFld f x)) := (pe_fld ha hb).imp fun σ H Q q => by
  obtain ⟨z, F0, L0, H0, ρ, st, F, L, r, p⟩ := q
  refine ⟨z, F0, L0, H0, ρ, st, F, L, r, p.bind.mono fun y st1 p1 v F1 L1 H1 e1 s1 d1 n1 => ?_⟩
  have hv := vw_rs e1.fh s1 d1
  cases hd : rs st1 y.1 with
  | ins cc ks ds =>
    rw [hd] at p1 hv
    obtain ⟨q, dx, fs', rfl, h1, h2, h3, h4, h5⟩ := hv
    cases hl : lkp ks ds x with
    | none =>
      have p1 : Post X.K W F L H σ (ofD (lkp ks ds x) st1) (OkE X.K F L H Q) := p1
      rw [hl] at p1; exact p1.elim
    | some d =>
      have p1 : Post X.K W F L H σ (ofD (lkp ks ds x) st1) (OkE X.K F L H Q) := p1
      rw [hl] at p1
      obtain ⟨m, u, h6, h7⟩ := lkp_get h2 h5 (fun k z => ofString_inj z) hl
      exact ⟨q, _, dx, fs', u, rfl, h1, h3.cls, h4 x m, h6, ok_den e1.fh s1 (OkE.step p1 e1) h7⟩
  | _ => rw [hd] at p1; exact p1.elim

/-! ### calls -/
/-- what a def promises, by its function -/
def spD (K : PySem.W.Frag) (n : Nat) (w : SF) : Sp := fun vs H Q E => ∃ ds st F L, vs.length = n ∧ DenL K F L ds vs ∧ Same F H ∧ StOk K F L H st ∧ Post K (fun u od _ H' => E u od H') F L H [] (w ds st) (OkE K F L H Q)
theorem spD_len {K : PySem.W.Frag} {n : Nat} {w : SF} {vs : List V} {H : Hp} {Q : VK} {E : XK} (h : spD K n w vs H Q E) : vs.length = n := let ⟨_, _, _, _, e, _⟩ := h; e
theorem Post.wish {α : Type} {K : PySem.W.Frag} {W W' : WX} {F : Hp} {L : List Addr} {H : Hp} {σ σ' : L2.St} {r : R α} {Ok : α → List D → Prop} (h : Post K W F L H σ r Ok) (i : ∀ u od H', W u od σ H' → W' u od σ' H') : Post K W' F L H σ' r Ok := by
  cases r with
  | ok a st' => exact h
  | ex c ks ds st' => exact fun u od F' L' H' e s x => i u od H' (h u od F' L' H' e s x)
  | no => exact h
variable {k1 : Nat} {fA : Addr} {fd : FuncData} {ps : List Str} {w : SF} {x : Str} {p : Pos} {n : Nat}
theorem call_spD {K : PySem.W.Frag} {σ : L2.St} {H : Hp} {Q : VK} {fs : SEs} {w : SF} {n : Nat} (hn : ∀ ρ st ds st', fs ρ st = .ok ds st' → ds.length = n) (q : tE K W (eCall w fs) σ H Q) : tCallSD (spD K n w) [] (WE W) (tA K W fs) σ H Q := by
  obtain ⟨z, F0, L0, H0, ρ, st, F, L, r, p⟩ := q
  refine ⟨z, F0, L0, H0, ρ, st, F, L, r, ?_⟩
  have p := p.bind
  cases h : fs ρ st with
  | no => rw [h] at p; exact p.elim
  | ex c ks ds st' => rw [h] at p; exact p
  | ok ds st1 =>
    rw [h] at p
    have p : Post K W F L H σ (w ds st1) (OkE K F L H Q) := p
    intro vs F1 L1 H1 e1 s1 d1
    rw [List.append_nil]
    exact ⟨ds, st1, F1, L1, by rw [← d1.length]; exact hn _ _ _ _ h, d1, e1.fh, s1, ((p.step e1).mono fun _ _ h => OkE.step h e1).wish fun _ _ _ z => z⟩
theorem snd_call (tk : Takes X W) (F : FnOk X.prog X.w X.K X.mg X.base (L2.CX X.prog X.w) k1 fA fd ps (spD X.K n w)) (hr : Room k1 X.A) (hg : Gl X x) (hm : X.mg x = some (.ref fA)) (hk : PySem.W.keepIn X.K (.ref fA) = true) (hb : Binds X.K fd ps []) (ha : PA X (e :: es) (tA X.K W fs))
    (hn : ∀ ρ st ds st', fs ρ st = .ok ds st' → ds.length = n)
    (hdb : (x == ("__debug__" : Str)) = false := by decide) (he : starEach (e :: es) X.env = (false, eval e X.env) :: starEach es X.env := by rfl) (hpl : (backTo pos (starEach es X.env)).any (·.1) = false := by rfl) :
    PE X (.Call (.Name x p) (e :: es) [] pos) (tE X.K W (eCall w fs)) := (pe_callSD F hr hg hm hk hb .nil (fun σ => passAt tk σ) ha hdb he hpl).imp fun _ _ _ q => call_spD hn q
theorem len_nil : ∀ ρ st ds st', eNil ρ st = .ok ds st' → ds.length = 0 := fun ρ st ds st' h => by cases h; rfl
theorem len_cons {m : Nat} (h : ∀ ρ st ds st', fs ρ st = .ok ds st' → ds.length = m) : ∀ ρ st ds st', eCons f fs ρ st = .ok ds st' → ds.length = m + 1 := fun ρ st ds st' e => by
  unfold eCons at e
  cases h1 : fzd f ρ st with
  | no => rw [h1] at e; cases e
  | ex _ _ _ _ => rw [h1] at e; cases e
  | ok d st1 =>
    rw [h1, R.bind_ok] at e
    cases h2 : fs ρ st1 with
    | no => rw [h2] at e; cases e
    | ex _ _ _ _ => rw [h2] at e; cases e
    | ok es st2 =>
      rw [h2, R.bind_ok] at e
      cases e
      rw [List.length_cons, h _ _ _ _ h2]
/-- a property -/
theorem snd_prop {cc y : String} {pA gA : Addr} (ha : PE X a (tE X.K W f)) (ci : InsOk X.K cc) (hp : PropOf X.K (cA X.K cc) (Str.ofString y) pA gA) (F : FnOk X.prog X.w X.K X.mg X.base (L2.CX X.prog X.w) k1 gA fd ps (spD X.K 1 w)) (hr : Room (k1 + 1) X.A) (hb : Binds X.K fd ps [])
    (hab : attributeBase a (Str.ofString y) X.env (eval a X.env) = eval a X.env := by rfl) : PE X (.Attribute a (Str.ofString y) pos) (tE X.K W (eProp f cc w)) := (pe_prop (pe_fzd ha) ci.cls hp F hr hb .nil passL hab).imp fun σ H Q q => by
  obtain ⟨z, F0, L0, H0, ρ, st, F, L, r, p⟩ := q
  refine ⟨z, F0, L0, H0, ρ, st, F, L, r, p.bind.mono fun d st1 p1 v F1 L1 H1 e1 s1 d1 => ?_⟩
  have hv : Vw X.K F1 L1 H1 (rs st1 d) v := vw_rs (g := .fz) e1.fh s1 d1
  cases hd : rs st1 d with
  | ins c' ks ds =>
    rw [hd] at p1 hv
    have p2 : Post X.K W F L H σ (if c' = cc then noX (w [d] st1) else .no) (OkE X.K F L H Q) := p1
    clear p1
    by_cases hc : c' = cc
    · rw [if_pos hc] at p2
      subst hc
      obtain ⟨q, dx, fs', rfl, h1, h2, h3, h4, h5⟩ := hv
      refine ⟨q, dx, fs', rfl, h1, [d], st1, F1, L1, rfl, .cons d1 .nil, e1.fh, s1, ?_⟩
      cases hw : w [d] st1 with
      | no => rw [hw] at p2; exact p2.elim
      | ex _ _ _ _ => rw [hw] at p2; exact p2.elim
      | ok z st2 =>
        rw [hw] at p2
        exact OkE.step p2 e1
    · rw [if_neg hc] at p2; exact p2.elim
  | _ => rw [hd] at p1; exact p1.elim

/-! ### built-in functions -/
def FOk (K : PySem.W.Frag) (r : List V → Hp → VK → Prop) (f : D → List D → R (D × Fg)) : Prop := ∀ x v F L H st W σ Q, Same F H → StOk K F L H st → Vw K F L H x v → Post K W F L H σ (f x st) (OkE K F L H Q) → r [v] H Q
theorem fun1_tE {K : PySem.W.Frag} {r : List V → Hp → VK → Prop} {h : D → List D → R (D × Fg)} (ho : FOk K r h) {σ : L2.St} {H : Hp} {Q : VK} (q : tE K W (eFun1 h f) σ H Q) : tCB r (tCons (tE K W f) tNil) σ H Q := by
  obtain ⟨z, F0, L0, H0, ρ, st, F, L, r, p⟩ := q
  refine ⟨z, F0, L0, H0, ρ, st, F, L, r, p.bind.mono fun x st1 p1 v F1 L1 H1 e1 s1 d1 n1 => ?_⟩
  exact ho _ v F1 L1 H1 st1 W σ Q e1.fh s1 (vw_rs e1.fh s1 d1) ((p1.step e1).mono fun _ _ h => h.step e1)
theorem snd_funB {id : String} {r : List V → Hp → VK → Prop} {h : D → List D → R (D × Fg)} (hc : CallR X (.builtin id) r) (ho : FOk X.K r h) (hv : bootBuiltins x = some (.builtin id)) (hg : Gl X x) (hm : X.mg x = none) (ha : PE X a (tE X.K W f)) (hn : x ≠ "__name__" := by decide) (hdb : (x == ("__debug__" : Str)) = false := by decide)
    (hs : starEach [a] X.env = (false, eval a X.env) :: starEach [] X.env := by rfl) : PE X (.Call (.Name x p) [a] [] pos) (tE X.K W (eFun1 h f)) := (pe_callB hc hg hm hv (pa_cons ha pa_nil hs) hn hdb hs rfl).imp fun _ _ _ q => fun1_tE ho q
theorem snd_funT {T : String} {r : List V → Hp → VK → Prop} {h : D → List D → R (D × Fg)} (hc : CallR X (.type T) r) (ho : FOk X.K r h) (hv : bootBuiltins x = some (.type T)) (hg : Gl X x) (hm : X.mg x = none) (ha : PE X a (tE X.K W f)) (hn : x ≠ "__name__" := by decide) (hdb : (x == ("__debug__" : Str)) = false := by decide)
    (hs : starEach [a] X.env = (false, eval a X.env) :: starEach [] X.env := by rfl) : PE X (.Call (.Name x p) [a] [] pos) (tE X.K W (eFun1 h f)) := (pe_callTy hc hg hm hv (pa_cons ha pa_nil hs) hn hdb hs rfl).imp fun _ _ _ q => fun1_tE ho q
theorem f_len {K : PySem.W.Frag} : FOk K (fun xs H Q => ∃ x n, xs = [x] ∧ LenV K x H n ∧ Q (.int n) H) fLen := by
  intro x v F L H st W σ Q fh s hv p
  cases x with
  | lst xs =>
    obtain ⟨a, vs, rfl, h1, h2⟩ := hv
    exact ⟨.ref a, vs.length, rfl, .inl ⟨vs, SqL.of h1, rfl⟩, by rw [← h2.length]; exact ok_int fh s p⟩
  | tup xs =>
    obtain ⟨a, vs, rfl, h1, h2⟩ := hv
    exact ⟨.ref a, vs.length, rfl, .inr ⟨vs, h1, rfl⟩, by rw [← h2.length]; exact ok_int fh s p⟩
  | str z =>
    have p : Post K W F L H σ (if z.length ≤ maxLen then okI z.length st else .no) (OkE K F L H Q) := p
    by_cases hl : z.length ≤ maxLen
    · rw [if_pos hl] at p
      cases (show v = .str z from hv)
      exact ⟨.str z, z.length, rfl, ⟨by rw [← maxLen_eq]; exact hl, rfl⟩, ok_int fh s p⟩
    · rw [if_neg hl] at p; exact p.elim
  | _ => exact p.elim
theorem snd_len (hg : Gl X "len") (hm : X.mg "len" = none) (ha : PE X a (tE X.K W f)) (hs : starEach [a] X.env = (false, eval a X.env) :: starEach [] X.env := by rfl) : PE X (.Call (.Name "len" p) [a] [] pos) (tE X.K W (eFun1 fLen f)) := snd_funB call_len f_len PySem.boot_len hg hm ha (by decide) (by decide) hs
theorem f_list {K : PySem.W.Frag} : FOk K (fun xs H Q => ∃ p ys, xs = [.ref p] ∧ (SqL K H p ys ∨ SqT K H p ys) ∧ ∀ l, H l = none → Q (.ref l) (upd H l (.lst ys))) fList := by
  intro x v F L H st W σ Q fh s hv p
  cases x with
  | lst xs =>
    obtain ⟨a, vs, rfl, h1, h2⟩ := hv
    exact ⟨a, vs, rfl, .inl (SqL.of h1), fun l hl => ok_list fh s p h2 hl⟩
  | tup xs =>
    obtain ⟨a, vs, rfl, h1, h2⟩ := hv
    exact ⟨a, vs, rfl, .inr h1, fun l hl => ok_list fh s p h2 hl⟩
  | _ => exact p.elim
theorem boot_listT : bootBuiltins "list" = some (.type "list") := by decide +kernel
theorem boot_tupleT : bootBuiltins "tuple" = some (.type "tuple") := by decide +kernel
theorem boot_intT : bootBuiltins "int" = some (.type "int") := by decide +kernel
theorem boot_absB : bootBuiltins "abs" = some (.builtin "abs") := by decide +kernel
theorem boot_allB : bootBuiltins "all" = some (.builtin "all") := by decide +kernel
theorem boot_anyB : bootBuiltins "any" = some (.builtin "any") := by decide +kernel
theorem boot_sumB : bootBuiltins "sum" = some (.builtin "sum") := by decide +kernel
theorem boot_isB : bootBuiltins "isinstance" = some (.builtin "isinstance") := by decide +kernel
theorem snd_list (hg : Gl X "list") (hm : X.mg "list" = none) (ha : PE X a (tE X.K W f)) (hs : starEach [a] X.env = (false, eval a X.env) :: starEach [] X.env := by rfl) : PE X (.Call (.Name "list" p) [a] [] pos) (tE X.K W (eFun1 fList f)) := snd_funT call_list_of f_list boot_listT hg hm ha (by decide) (by decide) hs
theorem f_tuple {K : PySem.W.Frag} : FOk K (fun xs H Q => ∃ p ys, xs = [.ref p] ∧ ((SqL K H p ys ∧ ∀ l, H l = none → Q (.ref l) (upd H l (.tup ys))) ∨ (SqT K H p ys ∧ Q (.ref p) H))) (fun x st => match x with
    | .lst xs => .ok (.tup xs, .fz) st
    | _ => .no) := by
  intro x v F L H st W σ Q fh s hv p
  cases x with
  | lst xs =>
    obtain ⟨a, vs, rfl, h1, h2⟩ := hv
    exact ⟨a, vs, rfl, .inl ⟨SqL.of h1, fun l hl => ok_tup fh s p h2 hl⟩⟩
  | _ => exact p.elim
/-- tuple(x), a tuple is itself -/
theorem snd_tuple (hg : Gl X "tuple") (hm : X.mg "tuple" = none) (ha : PE X a (tE X.K W f)) (hs : starEach [a] X.env = (false, eval a X.env) :: starEach [] X.env := by rfl) : PE X (.Call (.Name "tuple" p) [a] [] pos) (tE X.K W (eFun1 fTuple f)) :=
  (pe_callTy call_tuple_of hg hm boot_tupleT (pa_cons ha pa_nil hs) (by decide) (by decide) hs rfl).imp fun σ H Q q => by
    obtain ⟨z, F0, L0, H0, ρ, st, F, L, r, p⟩ := q
    refine ⟨z, F0, L0, H0, ρ, st, F, L, r, p.bind.mono fun x st1 p1 v F1 L1 H1 e1 s1 d1 n1 => ?_⟩
    have p1 := p1.step e1
    have hv := vw_rs e1.fh s1 d1
    cases hd : rs st1 x.1 with
    | lst xs =>
      rw [hd] at hv p1
      obtain ⟨a, vs, rfl, h1, h2⟩ := hv
      exact ⟨a, vs, rfl, .inl ⟨SqL.of h1, fun l hl => ok_tup e1.fh s1 (OkE.step p1 e1) h2 hl⟩⟩
    | tup xs =>
      rw [hd] at p1
      obtain ⟨xd, xg⟩ := x
      -- a tuple is never of the store nor a name's own
      cases xg with
      | fz =>
        cases xd with
        | tup ys =>
          cases hd
          have hv : Vw X.K F1 L1 H1 (.tup xs) v := vw_rs (g := .fz) (d := .tup xs) e1.fh s1 d1
          obtain ⟨a, vs, rfl, h1, h2⟩ := hv
          exact ⟨a, vs, rfl, .inr ⟨h1, ok_den e1.fh s1 (OkE.step p1 e1) d1⟩⟩
        | ref m =>
          have d1 : Den X.K F1 L1 (.ref m) v := d1
          unfold Den at d1
          obtain ⟨a, h1, rfl⟩ := d1
          have hl : m < st1.length := by rw [← s1.len]; exact (List.getElem?_eq_some_iff.mp h1).1
          have := (s1.at_ m a _ h1 (List.getElem?_eq_getElem hl)).2
          have hd : st1.getD m .non = .tup xs := hd
          rw [List.getD_eq_getElem?_getD, List.getElem?_eq_getElem hl] at hd
          have hd : st1[m] = .tup xs := hd
          rw [hd] at this
          exact this.elim
        | _ => cases hd
      | bw =>
        obtain ⟨a, _, _, _, h⟩ := d1
        cases xd <;> first | cases hd | exact h.elim
        exact h.elim
      | fr =>
        obtain ⟨a, _, _, _, h⟩ := d1
        cases xd <;> first | cases hd | exact h.elim
        exact h.elim
    | _ => rw [hd] at p1; exact p1.elim
theorem f_int {K : PySem.W.Frag} : FOk K (fun xs H Q => (∃ i, xs = [.int i] ∧ Q (.int i) H) ∨ ∃ k, xs = [.bl k] ∧ Q (.int (if k then 1 else 0)) H) fInt := by
  intro x v F L H st W σ Q fh s hv p
  cases x with
  | int i => exact .inl ⟨i, by rw [show v = .int i from hv], ok_int fh s p⟩
  | bl i => exact .inr ⟨i, by rw [show v = .bl i from hv], ok_int fh s p⟩
  | _ => exact p.elim
theorem snd_toInt (hg : Gl X "int") (hm : X.mg "int" = none) (ha : PE X a (tE X.K W f)) (hs : starEach [a] X.env = (false, eval a X.env) :: starEach [] X.env := by rfl) : PE X (.Call (.Name "int" p) [a] [] pos) (tE X.K W (eFun1 fInt f)) := snd_funT call_int1 f_int boot_intT hg hm ha (by decide) (by decide) hs
theorem f_abs {K : PySem.W.Frag} : FOk K (fun xs H Q => ∃ i, xs = [.int i] ∧ Q (.int (if i < 0 then -i else i)) H) fAbs := by
  intro x v F L H st W σ Q fh s hv p
  cases x with
  | int i => exact ⟨i, by rw [show v = .int i from hv], ok_int fh s p⟩
  | _ => exact p.elim
theorem snd_abs (hg : Gl X "abs") (hm : X.mg "abs" = none) (ha : PE X a (tE X.K W f)) (hs : starEach [a] X.env = (false, eval a X.env) :: starEach [] X.env := by rfl) : PE X (.Call (.Name "abs" p) [a] [] pos) (tE X.K W (eFun1 fAbs f)) := snd_funB call_abs f_abs boot_absB hg hm ha (by decide) (by decide) hs
theorem bools_den {K : PySem.W.Frag} {F : Hp} {L : List Addr} : ∀ {xs : List D} {vs : List V} {bs : List Bool}, DenL K F L xs vs → boolsOf xs = some bs → vs = bs.map V.bl
  | [], vs, bs, h, e => by unfold DenL at h; unfold boolsOf at e; cases e; exact h
  | .bl b :: r, vs, bs, h, e => by
    unfold DenL at h
    obtain ⟨w, r', rfl, h1, h2⟩ := h
    unfold Den at h1
    unfold boolsOf at e
    cases q : boolsOf r with
    | none => rw [q] at e; cases e
    | some bs' =>
      rw [q] at e; cases e
      rw [h1, bools_den h2 q]; rfl
  | .non :: _, _, _, _, e => by unfold boolsOf at e; cases e
  | .int _ :: _, _, _, _, e => by unfold boolsOf at e; cases e
  | .str _ :: _, _, _, _, e => by unfold boolsOf at e; cases e
  | .tup _ :: _, _, _, _, e => by unfold boolsOf at e; cases e
  | .lst _ :: _, _, _, _, e => by unfold boolsOf at e; cases e
  | .dct _ _ :: _, _, _, _, e => by unfold boolsOf at e; cases e
  | .ins _ _ _ :: _, _, _, _, e => by unfold boolsOf at e; cases e
  | .ref _ :: _, _, _, _, e => by unfold boolsOf at e; cases e
  | .scr _ :: _, _, _, _, e => by unfold boolsOf at e; cases e
theorem ints_den {K : PySem.W.Frag} {F : Hp} {L : List Addr} : ∀ {xs : List D} {vs : List V} {bs : List Int}, DenL K F L xs vs → intsOf xs = some bs → vs = bs.map V.int
  | [], vs, bs, h, e => by unfold DenL at h; unfold intsOf at e; cases e; exact h
  | .int b :: r, vs, bs, h, e => by
    unfold DenL at h
    obtain ⟨w, r', rfl, h1, h2⟩ := h
    unfold Den at h1
    unfold intsOf at e
    cases q : intsOf r with
    | none => rw [q] at e; cases e
    | some bs' =>
      rw [q] at e; cases e
      rw [h1, ints_den h2 q]; rfl
  | .non :: _, _, _, _, e => by unfold intsOf at e; cases e
  | .bl _ :: _, _, _, _, e => by unfold intsOf at e; cases e
  | .str _ :: _, _, _, _, e => by unfold intsOf at e; cases e
  | .tup _ :: _, _, _, _, e => by unfold intsOf at e; cases e
  | .lst _ :: _, _, _, _, e => by unfold intsOf at e; cases e
  | .dct _ _ :: _, _, _, _, e => by unfold intsOf at e; cases e
  | .ins _ _ _ :: _, _, _, _, e => by unfold intsOf at e; cases e
  | .ref _ :: _, _, _, _, e => by unfold intsOf at e; cases e
  | .scr _ :: _, _, _, _, e => by unfold intsOf at e; cases e
end
end Q

set_option Elab.async false
set_option linter.all false
set_option maxRecDepth 100000
set_option maxHeartbeats 1000000
/-! Q7: isinstance, all, any, sum; what is walked. -/
namespace Q
open PySem PySem.Spec PyProof.Rows L2 RZ RT
def tyS : Ty → String
  | .int => "int" | .bool => "bool" | .str => "str" | .list => "list" | .tuple => "tuple" | .dict => "dict"
def tyD : D → String
  | .non => "NoneType" | .bl _ => "bool" | .int _ => "int" | .str _ => "str" | .tup _ => "tuple" | .lst _ => "list" | .dct _ _ => "dict" | _ => ""
def isTyN (n : String) : Ty → Bool
  | .int => n == "int" || n == "bool" | .bool => n == "bool" | .str => n == "str" | .list => n == "list" | .tuple => n == "tuple" | .dict => n == "dict"
theorem kit_tab (K : PySem.W.Frag) : ∀ n ∈ ["NoneType", "bool", "int", "str", "tuple", "list", "dict"], ∀ T : Ty, PySem.W.kitOne K (.type n) (.type (tyS T)) = some (isTyN n T) := fun n hn T => by
  simp only [List.mem_cons, List.mem_nil_iff, or_false] at hn
  rcases hn with rfl | rfl | rfl | rfl | rfl | rfl | rfl <;> cases T <;> exact kit_ty (by decide +kernel)
section
variable {K : PySem.W.Frag} {X : Cx} {W : WX} {e a b c : Expr} {es : List Expr} {f g k : SE} {fs : SEs} {t u v : ST} {pos : Pos} {x : Str} {p : Pos}
theorem tyx_of {F : Hp} {L : List Addr} {H : Hp} {d : D} {v : V} (h : Vw K F L H d v) (ns : ∀ xs, d ≠ .scr xs) : ∃ t, TyX K H v t ∧ (∀ T : Ty, PySem.W.kitOne K t (.type (tyS T)) = some (isTy d T)) ∧ ((∀ c ks ds, d ≠ .ins c ks ds) → t = .type (tyD d)) ∧ ∀ c ks ds, d = .ins c ks ds → t = .ref (cA K c) := by
  cases d with
  | non => cases (show v = .non from h); exact ⟨_, .base .non, fun T => by
      rw [kit_tab K _ (by decide)]
      cases T <;> rfl, fun _ => rfl, fun _ _ _ z => nomatch z⟩
  | bl y => cases (show v = .bl y from h); exact ⟨_, .base (.bl y), fun T => by
      rw [kit_tab K _ (by decide)]
      cases T <;> rfl, fun _ => rfl, fun _ _ _ z => nomatch z⟩
  | int y => cases (show v = .int y from h); exact ⟨_, .base (.int y), fun T => by
      rw [kit_tab K _ (by decide)]
      cases T <;> rfl, fun _ => rfl, fun _ _ _ z => nomatch z⟩
  | str y => cases (show v = .str y from h); exact ⟨_, .base (.str y), fun T => by
      rw [kit_tab K _ (by decide)]
      cases T <;> rfl, fun _ => rfl, fun _ _ _ z => nomatch z⟩
  | lst xs =>
    obtain ⟨q, vs, rfl, h1, h2⟩ := h
    exact ⟨_, .base (.lst h1), fun T => by
      rw [kit_tab K _ (by decide)]
      cases T <;> rfl, fun _ => rfl, fun _ _ _ z => nomatch z⟩
  | tup xs =>
    obtain ⟨q, vs, rfl, h1, h2⟩ := h
    refine ⟨.type "tuple", ?_, fun T => by
      rw [kit_tab K _ (by decide)]
      cases T <;> rfl, fun _ => rfl, fun _ _ _ z => nomatch z⟩
    rcases h1 with (h1 | ⟨o, h1⟩) | ⟨o, its, n, h1, h3, _⟩
    · exact .base (.tup h1)
    · exact .fTuple h1
    · exact .kTuple h1 h3
  | ins cc ks ds =>
    obtain ⟨q, dx, fs', rfl, h1, h2, h3, h4, h5⟩ := h
    refine ⟨_, .base (.ins h1 h3.cls h3.cl h3.gs h3.tk h3.mr), fun T => ?_, fun z => absurd rfl (z cc ks ds), fun _ _ _ z => by cases z; rfl⟩
    cases T <;> exact h3.kb _ (by decide)
  | scr xs => exact absurd rfl (ns xs)
  | dct _ _ => exact h.elim
  | ref n => exact h.elim
theorem kit_any {t : Value} {d : D} (h : ∀ T : Ty, PySem.W.kitOne K t (.type (tyS T)) = some (isTy d T)) : ∀ Ts : List Ty, PySem.W.kitAny K t (Ts.map fun T => .type (tyS T)) = some (Ts.any (isTy d))
  | [] => kitAny_nil
  | T :: r => by
    rw [List.map_cons, List.any_cons]
    refine kitAny_cons (h T) (fun hb => ?_) (fun hb => ?_)
    · rw [hb, Bool.false_or]; exact kit_any h r
    · rw [hb, Bool.true_or]
def boolP (T : String) : Prop := True
/-- isinstance(x, T) -/
theorem snd_is1 (T : Ty) {T' : Str} (hT : bootBuiltins T' = some (.type (tyS T))) (hg : Gl X "isinstance") (hm : X.mg "isinstance" = none) (hg2 : Gl X T') (hm2 : X.mg T' = none) (ha : PE X a (tE X.K W f)) (hn : T' ≠ "__name__" := by decide) (hdb : (T' == ("__debug__" : Str)) = false := by decide) {p2 : Pos}
    (hs : starEach [a, .Name T' p2] X.env = (false, eval a X.env) :: starEach [.Name T' p2] X.env := by rfl) : PE X (.Call (.Name "isinstance" p) [a, .Name T' p2] [] pos) (tE X.K W (eIs f [T])) :=
  (pe_callB call_isi hg hm boot_isB (pa_cons ha (pa_cons (pe_bltn hg2 hm2 hT (v := .ty (tyS T)) rfl hn hdb) pa_nil rfl) hs) (by decide) (by decide) hs rfl).imp fun σ H Q q => by
    obtain ⟨z, F0, L0, H0, ρ, st, F, L, r, p⟩ := q
    refine ⟨z, F0, L0, H0, ρ, st, F, L, r, p.bind.mono fun y st1 p1 v F1 L1 H1 e1 s1 d1 n1 => ?_⟩
    have hv := vw_rs e1.fh s1 d1
    have p1 := p1.step e1
    generalize hd : rs st1 y.1 = d at hv p1
    have go : (∀ xs, d ≠ .scr xs) → OkE X.K F L H Q (.bl ([T].any (isTy d)), .fz) st1 → rIsi X.K [v, .ty (tyS T)] H1 Q := fun ns q => by
      obtain ⟨t, ty, hk, _, _⟩ := tyx_of hv ns
      refine ⟨v, .ty (tyS T), t, _, _, rfl, .ty _, ty, hk T, ?_⟩
      have : [T].any (isTy d) = isTy d T := by simp
      rw [← this]
      exact ok_bl e1.fh s1 (OkE.step q e1)
    cases d with
    | scr xs => exact p1.elim
    | ref n => exact p1.elim
    | ins _ _ _ => exact p1.elim
    | _ => exact go (fun xs z => nomatch z) p1
/-- isinstance(x, (T, U)) -/
theorem snd_is2 (T U : Ty) {T' U' : Str} (hT : bootBuiltins T' = some (.type (tyS T))) (hU : bootBuiltins U' = some (.type (tyS U))) (hg : Gl X "isinstance") (hm : X.mg "isinstance" = none) (hg2 : Gl X T') (hm2 : X.mg T' = none) (hg3 : Gl X U') (hm3 : X.mg U' = none) (ha : PE X a (tE X.K W f)) (hn : T' ≠ "__name__" := by decide)
    (hdb : (T' == ("__debug__" : Str)) = false := by decide) (hn3 : U' ≠ "__name__" := by decide) (hdb3 : (U' == ("__debug__" : Str)) = false := by decide) {p2 p3 p4 : Pos} {kk : Nat}
    (hs : starEach [a, .Tuple [.Name T' p2, .Name U' p3] kk p4] X.env = (false, eval a X.env) :: starEach [.Tuple [.Name T' p2, .Name U' p3] kk p4] X.env := by rfl) : PE X (.Call (.Name "isinstance" p) [a, .Tuple [.Name T' p2, .Name U' p3] kk p4] [] pos) (tE X.K W (eIs f [T, U])) :=
  (pe_callB call_isiT hg hm boot_isB (pa_cons ha (pa_cons (pe_tup (pa_cons (pe_bltn hg2 hm2 hT (v := .ty (tyS T)) rfl hn hdb) (pa_cons (pe_bltn hg3 hm3 hU (v := .ty (tyS U)) rfl hn3 hdb3) pa_nil rfl) rfl)) pa_nil rfl) hs) (by decide) (by decide) hs rfl).imp fun σ H Q q => by
    obtain ⟨z, F0, L0, H0, ρ, st, F, L, r, p⟩ := q
    refine ⟨z, F0, L0, H0, ρ, st, F, L, r, p.bind.mono fun y st1 p1 v F1 L1 H1 e1 s1 d1 n1 => ?_⟩
    have hv := vw_rs e1.fh s1 d1
    have p1 := p1.step e1
    refine ⟨by show 2 ≤ sizeLine; rw [sizeLine_eq]; decide, fun tp htp => ?_⟩
    have e2 := ext_new (L := L1) (o := .tup [.ty (tyS T), .ty (tyS U)]) e1.fh htp
    have s2 := sto_new (o := .tup [.ty (tyS T), .ty (tyS U)]) e1.fh s1 htp
    have hv2 := vw_rs e2.fh s2 (d1.step e2 s1)
    generalize hd : rs st1 y.1 = d at hv p1 hv2
    have go : (∀ xs, d ≠ .scr xs) → OkE X.K F L H Q (.bl ([T, U].any (isTy d)), .fz) st1 → rIsiT X.K [v, .ref tp] (upd H1 tp (.tup [.ty (tyS T), .ty (tyS U)])) Q := fun ns q => by
      obtain ⟨t, ty, hk, _, _⟩ := tyx_of hv2 ns
      exact ⟨v, tp, _, t, _, _, rfl, upd_same, .cons (.ty _) (.cons (.ty _) .nil), ty, kit_any hk [T, U], ok_bl e2.fh s2 (OkE.step (OkE.step q e1) e2)⟩
    cases d with
    | scr xs => exact p1.elim
    | ref n => exact p1.elim
    | ins _ _ _ => exact p1.elim
    | _ => exact go (fun xs z => nomatch z) p1
/-- isinstance(x, C), an own class -/
theorem snd_isC {cc : String} {cs : List String} (hk : ∀ c' ∈ cs, PySem.W.kitOne X.K (.ref (cA X.K c')) (.ref (cA X.K cc)) = some (decide (c' = cc))) (hk2 : ∀ T ∈ ["NoneType", "bool", "int", "str", "tuple", "list", "dict"], PySem.W.kitOne X.K (.type T) (.ref (cA X.K cc)) = some false)
    (hg : Gl X "isinstance") (hm : X.mg "isinstance" = none) (hg2 : Gl X (Str.ofString cc)) (hm2 : X.mg (Str.ofString cc) = some (.ref (cA X.K cc))) (ha : PE X a (tE X.K W f)) (hdb : (Str.ofString cc == ("__debug__" : Str)) = false := by decide) {p2 : Pos}
    (hs : starEach [a, .Name (Str.ofString cc) p2] X.env = (false, eval a X.env) :: starEach [.Name (Str.ofString cc) p2] X.env := by rfl) : PE X (.Call (.Name "isinstance" p) [a, .Name (Str.ofString cc) p2] [] pos) (tE X.K W (eIsC cs f cc)) :=
  (pe_callB call_isi hg hm boot_isB (pa_cons ha (pa_cons (pe_glob hg2 hm2 (v := .ref (cA X.K cc)) rfl hdb) pa_nil rfl) hs) (by decide) (by decide) hs rfl).imp fun σ H Q q => by
    obtain ⟨z, F0, L0, H0, ρ, st, F, L, r, p⟩ := q
    refine ⟨z, F0, L0, H0, ρ, st, F, L, r, p.bind.mono fun y st1 p1 v F1 L1 H1 e1 s1 d1 n1 => ?_⟩
    have hv := vw_rs e1.fh s1 d1
    have p1 := p1.step e1
    generalize hd : rs st1 y.1 = d at hv p1
    have go : (∀ xs, d ≠ .scr xs) → (∀ c ks ds, d ≠ .ins c ks ds) → tyD d ∈ ["NoneType", "bool", "int", "str", "tuple", "list", "dict"] → OkE X.K F L H Q (.bl false, .fz) st1 → rIsi X.K [v, .ref (cA X.K cc)] H1 Q := fun ns ni hm q => by
      obtain ⟨t, ty, _, ht, _⟩ := tyx_of hv ns
      rw [ht ni] at ty
      exact ⟨v, _, _, _, _, rfl, .own _, ty, hk2 _ hm, ok_bl e1.fh s1 (OkE.step q e1)⟩
    cases d with
    | scr xs => exact p1.elim
    | ref n => exact p1.elim
    | ins c' ks ds =>
      have p1 : Post X.K W F1 L1 H1 σ (if c' ∈ cs then okB (decide (c' = cc)) st1 else .no) (OkE X.K F L H Q) := p1
      by_cases hc : c' ∈ cs
      · rw [if_pos hc] at p1
        obtain ⟨t, ty, _, _, ht⟩ := tyx_of hv (fun xs z => nomatch z)
        rw [ht c' ks ds rfl] at ty
        exact ⟨v, _, _, _, _, rfl, .own _, ty, hk c' hc, ok_bl e1.fh s1 (OkE.step p1 e1)⟩
      · rw [if_neg hc] at p1; exact p1.elim
    | _ => exact go (fun xs z => nomatch z) (fun _ _ _ z => nomatch z) (by simp [tyD]) p1
/-! all, any, sum of a list -/
theorem f_all : FOk K (rAll K) fAll := by
  intro x v F L H st W σ Q fh s hv p
  cases x with
  | lst xs =>
    obtain ⟨a, vs, rfl, h1, h2⟩ := hv
    have p : Post K W F L H σ (match boolsOf xs with
      | some bs => okB (bs.all id) st
      | none => .no) (OkE K F L H Q) := p
    cases hb : boolsOf xs with
    | none => rw [hb] at p; exact p.elim
    | some bs =>
      rw [hb] at p
      have := bools_den h2 hb
      subst this
      exact ⟨a, bs, rfl, SqL.of h1, ok_bl fh s p⟩
  | _ => exact p.elim
theorem f_any : FOk K (rAny K) fAny := by
  intro x v F L H st W σ Q fh s hv p
  cases x with
  | lst xs =>
    obtain ⟨a, vs, rfl, h1, h2⟩ := hv
    have p : Post K W F L H σ (match boolsOf xs with
      | some bs => okB (bs.any id) st
      | none => .no) (OkE K F L H Q) := p
    cases hb : boolsOf xs with
    | none => rw [hb] at p; exact p.elim
    | some bs =>
      rw [hb] at p
      have := bools_den h2 hb
      subst this
      exact ⟨a, bs, rfl, SqL.of h1, ok_bl fh s p⟩
  | _ => exact p.elim
theorem f_sum : FOk K (rSum K) fSum := by
  intro x v F L H st W σ Q fh s hv p
  cases x with
  | lst xs =>
    obtain ⟨a, vs, rfl, h1, h2⟩ := hv
    have p : Post K W F L H σ (match intsOf xs with
      | some bs => okI bs.sum st
      | none => .no) (OkE K F L H Q) := p
    cases hb : intsOf xs with
    | none => rw [hb] at p; exact p.elim
    | some bs =>
      rw [hb] at p
      have := ints_den h2 hb
      subst this
      exact ⟨a, bs, rfl, SqL.of h1, ok_int fh s p⟩
  | _ => exact p.elim
theorem snd_all (hc : X.calm = true) (hg : Gl X "all") (hm : X.mg "all" = none) (ha : PE X a (tE X.K W f)) (hs : starEach [a] X.env = (false, eval a X.env) :: starEach [] X.env := by rfl) : PE X (.Call (.Name "all" p) [a] [] pos) (tE X.K W (eFun1 fAll f)) := snd_funB (cr_all hc) f_all boot_allB hg hm ha (by decide) (by decide) hs
theorem snd_any (hc : X.calm = true) (hg : Gl X "any") (hm : X.mg "any" = none) (ha : PE X a (tE X.K W f)) (hs : starEach [a] X.env = (false, eval a X.env) :: starEach [] X.env := by rfl) : PE X (.Call (.Name "any" p) [a] [] pos) (tE X.K W (eFun1 fAny f)) := snd_funB (cr_any hc) f_any boot_anyB hg hm ha (by decide) (by decide) hs
theorem snd_sum (hc : X.calm = true) (hg : Gl X "sum") (hm : X.mg "sum" = none) (ha : PE X a (tE X.K W f)) (hs : starEach [a] X.env = (false, eval a X.env) :: starEach [] X.env := by rfl) : PE X (.Call (.Name "sum" p) [a] [] pos) (tE X.K W (eFun1 fSum f)) := snd_funB (cr_sum hc) f_sum boot_sumB hg hm ha (by decide) (by decide) hs
end

/-! ### what is walked -/
/-- an iterator that gives these data, one after another -/
def WalkD (K : PySem.W.Frag) (J : It) (F : Hp) (L : List Addr) (ds : List D) (gs : Gd := []) : Prop := ∃ (G : Hp → Prop) (Y : Nat → Hp → V → Hp → Prop), Walk J ds.length G Y ∧ (∀ F2 L2 H2 st, Same F F2 → (∀ (n : Nat) (a : Addr), L[n]? = some a → L2[n]? = some a) → Same F2 H2 → StOk K F2 L2 H2 st → gdOk gs st = true → G H2) ∧
  ∀ (i : Nat) H2 x H3 d F2 L2 st, Same F F2 → (∀ (n : Nat) (a : Addr), L[n]? = some a → L2[n]? = some a) → Same F2 H2 → StOk K F2 L2 H2 st → gdOk gs st = true → Y i H2 x H3 → ds[i]? = some d → ∃ F3, Ext F2 L2 H2 F3 L2 H3 ∧ StOk K F3 L2 H3 st ∧ Den K F3 L2 d x
def tI (K : PySem.W.Frag) (W : WX) (f : SI) : TI := fun σ H R => ∃ z F0 L0 H0 ρ st F L, Rel K z F0 L0 H0 ρ st F L σ H ∧ Post K W F L H σ (f ρ st) fun ds st' => ∀ J F' L' H', Ext F L H F' L' H' → StOk K F' L' H' st' → WalkD K J F' L' ds.1 ds.2 → R J H'
theorem _root_.L2.PI.imp {X : Cx} {tg e : Expr} {t t' : TI} (h : PI X tg e t) (i : ∀ σ H R, t' σ H R → t σ H R) : PI X tg e t' := ⟨fun pins s σ H R I q => h.run pins s σ H R I (i σ H R q)⟩
theorem rev_get {α : Type} (xs : List α) {i : Nat} (h : i < xs.length) : xs.reverse[i]? = xs[xs.length - 1 - i]? := by
  rw [List.getElem?_reverse h]
mutual
theorem beqD_eq : ∀ {x y : D}, beqD x y = true → x = y
  | .non, y, h => by cases y <;> first | rfl | (unfold beqD at h; cases h)
  | .bl a, y, h => by
    cases y <;> unfold beqD at h <;> first
      | (exact congrArg D.bl (of_decide_eq_true h))
      | cases h
  | .int a, y, h => by
    cases y <;> unfold beqD at h <;> first
      | (exact congrArg D.int (of_decide_eq_true h))
      | cases h
  | .str a, y, h => by
    cases y <;> unfold beqD at h <;> first
      | (exact congrArg D.str (of_decide_eq_true h))
      | cases h
  | .tup a, y, h => by
    cases y <;> unfold beqD at h <;> first
      | (exact congrArg D.tup (beqDs_eq h))
      | cases h
  | .lst a, y, h => by
    cases y <;> unfold beqD at h <;> first
      | (exact congrArg D.lst (beqDs_eq h))
      | cases h
  | .dct a c, y, h => by
    cases y <;> unfold beqD at h <;> first
      | (rw [beqDs_eq (Bool.and_eq_true_iff.mp h).1, beqDs_eq (Bool.and_eq_true_iff.mp h).2])
      | cases h
  | .ins c ks ds, y, h => by
    cases y <;> unfold beqD at h <;> first
      | (rw [of_decide_eq_true (Bool.and_eq_true_iff.mp h).1, of_decide_eq_true (Bool.and_eq_true_iff.mp (Bool.and_eq_true_iff.mp h).2).1, beqDs_eq (Bool.and_eq_true_iff.mp (Bool.and_eq_true_iff.mp h).2).2])
      | cases h
  | .ref a, y, h => by
    cases y <;> unfold beqD at h <;> first
      | (exact congrArg D.ref (of_decide_eq_true h))
      | cases h
  | .scr a, y, h => by
    cases y <;> unfold beqD at h <;> first
      | (exact congrArg D.scr (beqDs_eq h))
      | cases h
theorem beqDs_eq : ∀ {xs ys : List D}, beqDs xs ys = true → xs = ys
  | [], [], _ => rfl
  | [], _ :: _, h => by unfold beqDs at h; cases h
  | _ :: _, [], h => by unfold beqDs at h; cases h
  | x :: xs, y :: ys, h => by
    unfold beqDs at h
    rw [beqD_eq (Bool.and_eq_true_iff.mp h).1, beqDs_eq (Bool.and_eq_true_iff.mp h).2]
end
theorem gd_one {m : Nat} {xs st : List D} (h : gdOk [(m, xs)] st = true) : st[m]? = some (.lst xs) := by
  unfold gdOk at h
  rw [List.all_cons] at h
  have h := (Bool.and_eq_true_iff.mp h).1
  cases hs : st[m]? with
  | none => rw [hs] at h; cases h
  | some d =>
    rw [hs] at h
    cases d with
    | lst ys => rw [beqDs_eq h]
    | _ => cases h
/-- a list of the store that stays as it is -/
theorem ref_now {K : PySem.W.Frag} {F : Hp} {L : List Addr} {H : Hp} {st : List D} {m : Nat} {a : Addr} {xs : List D} (so : StOk K F L H st) (hl : L[m]? = some a) (hs : st[m]? = some (.lst xs)) : ∃ vs, H a = some (.lst vs) ∧ DenL K F L xs vs := by
  obtain ⟨_, vs, h1, h2⟩ := so.at_ m a _ hl hs
  exact ⟨vs, h1, h2⟩
theorem ext_ref {K : PySem.W.Frag} {F : Hp} {L : List Addr} {m : Nat} {a : Addr} {xs : List D} (hl : L[m]? = some a) : WalkD K (Itl K a) F L xs [(m, xs)] := by
  refine ⟨fun H => ∃ vs, SqL K H a vs ∧ vs.length = xs.length, fun i H x H' => H' = H ∧ ∀ vs, SqL K H a vs → vs[i]? = some x, ⟨fun i H hi q => ?_, fun H q => ?_, fun i H x H' hi q y => y⟩, fun F2 L2 H2 st sf pf sh so g => ?_, fun i H2 x H3 d F2 L2 st sf pf sh so g y hd => ?_⟩
  · obtain ⟨vs, h1, h2⟩ := q
    exact ⟨vs, vs[i], h1, List.getElem?_eq_getElem (by omega)⟩
  · obtain ⟨vs, h1, h2⟩ := q
    exact ⟨vs, h1, by omega⟩
  · obtain ⟨vs, h1, h2⟩ := ref_now so (pf _ _ hl) (gd_one g)
    exact ⟨vs, SqL.of h1, h2.length.symm⟩
  · obtain ⟨vs, h1, h2⟩ := ref_now so (pf _ _ hl) (gd_one g)
    obtain ⟨rfl, y⟩ := y
    obtain ⟨v, h3, h4⟩ := h2.get hd
    rw [y vs (SqL.of h1)] at h3
    cases h3
    exact ⟨F2, .refl sh, so, h4⟩
theorem ref_rev {K : PySem.W.Frag} {F : Hp} {L : List Addr} {m : Nat} {a : Addr} {xs : List D} {n : Nat} (hn : n = xs.length) (hl : L[m]? = some a) : WalkD K (Itv K a n) F L xs.reverse [(m, xs)] := by
  subst hn
  refine ⟨fun H => ∃ vs, SqL K H a vs ∧ vs.length = xs.length, fun i H x H' => H' = H ∧ ∀ vs, SqL K H a vs → vs[xs.length - 1 - i]? = some x, ⟨fun i H hi q => ?_, fun H q => ?_, fun i H x H' hi q y => y⟩, fun F2 L2 H2 st sf pf sh so g => ?_, fun i H2 x H3 d F2 L2 st sf pf sh so g y hd => ?_⟩
  · obtain ⟨vs, h1, h2⟩ := q
    rw [List.length_reverse] at hi
    exact ⟨hi, vs, vs[xs.length - 1 - i]'(by omega), h1, List.getElem?_eq_getElem (by omega)⟩
  · show xs.length ≤ xs.reverse.length
    rw [List.length_reverse]; exact Nat.le_refl _
  · obtain ⟨vs, h1, h2⟩ := ref_now so (pf _ _ hl) (gd_one g)
    exact ⟨vs, SqL.of h1, h2.length.symm⟩
  · obtain ⟨vs, h1, h2⟩ := ref_now so (pf _ _ hl) (gd_one g)
    obtain ⟨rfl, y⟩ := y
    have hi : i < xs.length := by
      have := (List.getElem?_eq_some_iff.mp hd).1
      rw [List.length_reverse] at this
      exact this
    rw [rev_get xs hi] at hd
    obtain ⟨v, h3, h4⟩ := h2.get hd
    rw [y vs (SqL.of h1)] at h3
    cases h3
    exact ⟨F2, .refl sh, so, h4⟩
theorem ext_len {K : PySem.W.Frag} {F : Hp} {L : List Addr} {J : It} {ds : List D} {vs : List V} (h : DenL K F L ds vs) {G : Hp → Prop} (w : Walk J vs.length G (YAt vs)) (hG : ∀ F2 H2, Same F F2 → Same F2 H2 → G H2) : WalkD K J F L ds :=
  ⟨G, YAt vs, by rw [h.length]; exact w, fun F2 _ H2 _ q1 _ q2 _ _ => hG F2 H2 q1 q2, fun i H2 x H3 d F2 L2 st sf pf sh so _ y hd => by
    obtain ⟨rfl, hx⟩ := y
    obtain ⟨v, h1, h2⟩ := h.get hd
    rw [hx] at h1; cases h1
    exact ⟨F2, .refl sh, so, h2.mono sf pf⟩⟩
theorem pairs_get : ∀ {xs ys : List D} {i : Nat} {d : D}, (pairs xs ys)[i]? = some d → ∃ x y, xs[i]? = some x ∧ ys[i]? = some y ∧ d = .tup [x, y]
  | [], _, _, _, h => by unfold pairs at h; simp at h
  | _ :: _, [], _, _, h => by unfold pairs at h; simp at h
  | x :: xs, y :: ys, 0, d, h => by
    unfold pairs at h
    simp only [List.getElem?_cons_zero, Option.some.injEq] at h
    exact ⟨x, y, rfl, rfl, h.symm⟩
  | x :: xs, y :: ys, i + 1, d, h => by
    unfold pairs at h
    rw [List.getElem?_cons_succ] at h
    obtain ⟨x', y', h1, h2, h3⟩ := pairs_get h
    exact ⟨x', y', by rw [List.getElem?_cons_succ]; exact h1, by rw [List.getElem?_cons_succ]; exact h2, h3⟩
theorem pairs_len : ∀ xs ys : List D, (pairs xs ys).length = min xs.length ys.length
  | [], _ => by unfold pairs; simp
  | _ :: _, [] => by unfold pairs; simp
  | x :: xs, y :: ys => by
    unfold pairs
    rw [List.length_cons, pairs_len xs ys, List.length_cons, List.length_cons]
    omega
theorem enum_get : ∀ {xs : List D} {n i : Nat} {d : D}, (enumL n xs)[i]? = some d → ∃ x, xs[i]? = some x ∧ d = .tup [.int ((n + i : Nat) : Int), x]
  | [], _, _, _, h => by unfold enumL at h; simp at h
  | x :: xs, n, 0, d, h => by
    unfold enumL at h
    simp only [List.getElem?_cons_zero, Option.some.injEq] at h
    exact ⟨x, rfl, h.symm⟩
  | x :: xs, n, i + 1, d, h => by
    unfold enumL at h
    rw [List.getElem?_cons_succ] at h
    obtain ⟨x', h1, h2⟩ := enum_get h
    exact ⟨x', by rw [List.getElem?_cons_succ]; exact h1, by rw [h2]; congr 3; omega⟩
theorem enum_len : ∀ (xs : List D) (n : Nat), (enumL n xs).length = xs.length
  | [], _ => rfl
  | x :: xs, n => by unfold enumL; rw [List.length_cons, enum_len xs, List.length_cons]
/-- new pairs -/
theorem walk_pairs {K : PySem.W.Frag} {F : Hp} {L : List Addr} {J : It} {n : Nat} {ds : List D} {G : Hp → Prop} {xs ys : Nat → Option V} (w : Walk J n G (YPair xs ys)) (hn : ds.length = n) (hG : ∀ F2 H2, Same F F2 → Same F2 H2 → G H2)
    (hd : ∀ (i : Nat) d x y, ds[i]? = some d → xs i = some x → ys i = some y → ∃ dx dy, d = .tup [dx, dy] ∧ Den K F L dx x ∧ Den K F L dy y) : WalkD K J F L ds :=
  ⟨G, _, by rw [hn]; exact w, fun F2 _ H2 _ q1 _ q2 _ _ => hG F2 H2 q1 q2, fun i H2 x H3 d F2 L2 st sf pf sh so _ y hdd => by
    obtain ⟨T, vx, vy, rfl, hT, rfl, h1, h2⟩ := y
    obtain ⟨dx, dy, rfl, d1, d2⟩ := hd i d vx vy hdd h1 h2
    refine ⟨upd F2 T (.tup [vx, vy]), ext_fz sh hT, sto_fz sh so hT, ?_⟩
    unfold Den
    have e := (ext_fz (L := L2) (o := .tup [vx, vy]) sh hT).ff
    exact ⟨T, [vx, vy], rfl, .inl (.inl upd_same), .cons (d1.mono (sf.trans e) pf) (.cons (d2.mono (sf.trans e) pf) .nil)⟩⟩
section
variable {X : Cx} {W : WX} {e a b c tg : Expr} {es : List Expr} {f g k : SE} {fs : SEs} {t u v : ST} {pos : Pos} {x : Str} {p : Pos}
/-- a list, a tuple, a text -/
def iSeq (K : PySem.W.Frag) (tl : TE) : TI := fun σ H R => tl σ H fun x H1 => (∃ a, x = .ref a ∧ ((∃ xs, SqL K H1 a xs) ∧ R (Itl K a) H1 ∨ (∃ xs, SqT K H1 a xs) ∧ R (Itt K a) H1))
theorem pi_seq {l : Expr} {tl : TE} (hl : PE X l tl) : PI X tg l (iSeq X.K tl) := by
  refine ⟨fun pins s σ H R I h => ?_⟩
  refine thn (hl.run pins s σ H _ I h) fun v s1 ⟨x, H1, I1, r1, q1⟩ => ?_
  obtain ⟨a, e, q⟩ := q1
  subst e
  cases r1
  rcases q with ⟨⟨xs, hq⟩, q⟩ | ⟨⟨xs, hq⟩, q⟩
  · obtain ⟨its, rv, p, hz⟩ := I1.list hq
    refine wpAny_pyIter_list p.isList ?_
    refine ⟨s1.heap.objs.size, [s1.heap.objs.size], _, _, H1, rfl, I1.kept (t' := s1.toks) fun b o e => Heap.get?_push_of_some _ e, turn_list a _, ⟨_, Heap.get?_push_size _ rfl, rfl, rfl⟩, fun b hb => ?_, q⟩
    have e : b = s1.heap.objs.size := by simpa using hb
    subst e
    exact I1.fpOk (Nat.le_refl _) (I1.hok.fresh (Nat.le_refl _))
  · obtain ⟨its, rv, p, hz⟩ := I1.tuple hq
    refine wpAny_pyIter_tuple (show s1.heap.IsTuple a its.toArray from p) ?_
    refine ⟨s1.heap.objs.size, [s1.heap.objs.size], _, _, H1, rfl, I1.kept (t' := s1.toks) fun b o e => Heap.get?_push_of_some _ e, turn_tuple a _, ⟨_, Heap.get?_push_size _ rfl, rfl, rfl⟩, fun b hb => ?_, q⟩
    have e : b = s1.heap.objs.size := by simpa using hb
    subst e
    exact I1.fpOk (Nat.le_refl _) (I1.hok.fresh (Nat.le_refl _))
theorem snd_iList (ha : PE X a (tE X.K W f)) : PI X tg a (tI X.K W (iList f)) := (pi_seq (pe_fzd ha)).imp fun σ H R q => by
  obtain ⟨z, F0, L0, H0, ρ, st, F, L, r, p⟩ := q
  refine ⟨z, F0, L0, H0, ρ, st, F, L, r, p.bind.mono fun d st1 p1 v F1 L1 H1 e1 s1 d1 => ?_⟩
  cases d with
  | lst xs =>
    have d2 := d1
    unfold Den at d2
    obtain ⟨q, vs, rfl, h1, h2⟩ := d2
    exact ⟨q, rfl, .inl ⟨⟨vs, SqL.of (e1.fh _ _ h1)⟩, p1 _ F1 L1 H1 e1 s1 (ext_len h2 walk_list fun F2 H2 h3 h4 => SqL.of (h4 _ _ (h3 _ _ h1)))⟩⟩
  | tup xs =>
    have d2 := d1
    unfold Den at d2
    obtain ⟨q, vs, rfl, h1, h2⟩ := d2
    exact ⟨q, rfl, .inr ⟨⟨vs, same_sqT e1.fh h1⟩, p1 _ F1 L1 H1 e1 s1 (ext_len h2 walk_tup fun F2 H2 h3 h4 => same_sqT (h3.trans h4) h1)⟩⟩
  | ref m =>
    unfold Den at d1
    obtain ⟨q, hl, rfl⟩ := d1
    unfold walkOf at p1
    dsimp only at p1
    cases hs : st1[m]? with
    | none => rw [hs] at p1; exact False.elim p1
    | some d =>
      rw [hs] at p1
      cases d with
      | lst xs =>
        obtain ⟨vs, h1, h2⟩ := ref_now s1 hl hs
        exact ⟨q, rfl, .inl ⟨⟨vs, SqL.of h1⟩, p1 _ F1 L1 H1 e1 s1 (ext_ref hl)⟩⟩
      | _ => exact False.elim p1
  | _ => exact False.elim p1
theorem walkD_range {K : PySem.W.Frag} {F : Hp} {L : List Addr} (lo hi : Int) : WalkD K (Itr lo (hi - lo).toNat) F L (rangeL lo hi) := by
  refine ⟨_, _, by unfold rangeL; rw [List.length_map, List.length_range]; exact walk_range, fun _ _ _ _ _ _ _ _ _ => trivial, fun i H2 x H3 d F2 L2 st sf pf sh so _ y hd => ?_⟩
  obtain ⟨rfl, rfl⟩ := y
  unfold rangeL at hd
  rw [List.getElem?_map] at hd
  cases hr : (List.range (hi - lo).toNat)[i]? with
  | none => rw [hr] at hd; cases hd
  | some j =>
    rw [hr] at hd
    have : j = i := by
      have := List.getElem?_eq_some_iff.mp hr
      obtain ⟨h1, h2⟩ := this
      rw [List.getElem_range] at h2
      exact h2.symm
    subst this
    cases hd
    exact ⟨F2, .refl sh, so, by unfold Den; rfl⟩
theorem snd_range1 (hg : Gl X "range") (hm : X.mg "range" = none) (ha : PE X a (tE X.K W f)) (hs : starEach [a] X.env = [(false, eval a X.env)] := by rfl) : PI X tg (.Call (.Name "range" p) [a] [] pos) (tI X.K W (iRange1 f)) := (pi_range1 hg hm (pa_cons ha pa_nil hs) hs).imp fun σ H R q => by
  obtain ⟨z, F0, L0, H0, ρ, st, F, L, r, p⟩ := q
  refine ⟨z, F0, L0, H0, ρ, st, F, L, r, p.bind.mono fun d st1 p1 v F1 L1 H1 e1 s1 d1 n1 => ?_⟩
  have hv := vw_rs e1.fh s1 d1
  obtain ⟨d, gg⟩ := d
  cases d with
  | int j =>
    have p1 : Post X.K W F L H σ (if smallI j = true then .ok (rangeL 0 j, []) st1 else .no) _ := p1
    by_cases hj : smallI j = true
    · rw [if_pos hj] at p1
      have hj := of_decide_eq_true hj
      have h := p1 (Itr 0 (j - 0).toNat) F1 L1 H1 e1 s1 (walkD_range 0 j)
      rw [Int.sub_zero] at h
      exact ⟨j, by rw [show v = .int j from hv], hj.1, hj.2, h⟩
    · rw [if_neg hj] at p1; exact p1.elim
  | _ => exact p1.elim
theorem snd_range2 (hg : Gl X "range") (hm : X.mg "range" = none) (ha : PE X a (tE X.K W f)) (hb : PE X b (tE X.K W g)) (hs : starEach [a, b] X.env = [(false, eval a X.env), (false, eval b X.env)] := by rfl) (hs2 : starEach [b] X.env = [(false, eval b X.env)] := by rfl) : PI X tg (.Call (.Name "range" p) [a, b] [] pos) (tI X.K W (iRange2 f g)) :=
  (pi_range2 hg hm (pa_cons ha (pa_cons hb pa_nil hs2) (by rw [hs, hs2])) hs hs2).imp fun σ H R q => by
    obtain ⟨z, F0, L0, H0, ρ, st, F, L, r, p⟩ := q
    refine ⟨z, F0, L0, H0, ρ, st, F, L, r, p.bind.mono fun d st1 p1 v F1 L1 H1 e1 s1 d1 n1 => ?_⟩
    refine ⟨z, F0, L0, H0, ρ, st1, F1, L1, r.step e1 s1, (p1.step e1).bind.mono fun d' st2 p2 w F2 L2 H2 e2 s2 d2 n2 => ?_⟩
    have hv := vw_rs e1.fh s1 d1
    have hw := vw_rs e2.fh s2 d2
    obtain ⟨d, gg⟩ := d
    obtain ⟨d', gg'⟩ := d'
    cases d <;> cases d' <;> first
      | exact p2.elim
      | (rename_i i j
         have p3 : Post X.K W F1 L1 H1 σ (if (smallI i && smallI j) = true then .ok (rangeL i j, []) st2 else .no) _ := p2
         by_cases hj : (smallI i && smallI j) = true
         · rw [if_pos hj] at p3
           obtain ⟨h1, h2⟩ := Bool.and_eq_true_iff.mp hj
           have h1 := of_decide_eq_true h1
           have h2 := of_decide_eq_true h2
           exact ⟨i, j, by rw [show v = .int i from hv, show w = .int j from hw], ⟨h1.1, h1.2, h2.1, h2.2⟩, p3 _ F2 L2 H2 (e1.trans e2) s2 (walkD_range i j)⟩
         · rw [if_neg hj] at p3; exact p3.elim)
theorem walk_zipT {K : PySem.W.Frag} {a b : Addr} {xs ys : List V} {n : Nat} (hn : n = min xs.length ys.length) : Walk (ItzT K a b) n (fun H => SqT K H a xs ∧ SqT K H b ys) (YPair (fun i => xs[i]?) (fun i => ys[i]?)) := by
  subst hn
  refine ⟨fun i _ hi q => ?_, fun _ q => ⟨xs, ys, q.1, q.2, by omega⟩, fun i H v H' _ q y => ?_⟩
  · have h1 : i < xs.length := by omega
    have h2 : i < ys.length := by omega
    exact ⟨xs, ys, xs[i], ys[i], q.1, q.2, by simp [h1], by simp [h2]⟩
  · obtain ⟨T, x, z, h1, h2, h3, h4, h5⟩ := y
    exact ⟨T, x, z, h1, h2, h3, h4 xs q.1, h5 ys q.2⟩
theorem snd_zip {elts : List Expr} {kk : Nat} {tpos : Pos} (hg : Gl X "zip") (hm : X.mg "zip" = none) (ha : PE X a (tE X.K W f)) (hb : PE X b (tE X.K W g)) (hs : starEach [a, b] X.env = (false, eval a X.env) :: starEach [b] X.env := by rfl) (hs2 : starEach [b] X.env = (false, eval b X.env) :: starEach [] X.env := by rfl)
    (hpl : (backTo pos (starEach [b] X.env)).any (·.1) = false := by rfl) : PI X (.Tuple elts kk tpos) (.Call (.Name "zip" p) [a, b] [] pos) (tI X.K W (iZip f g)) :=
  (pi_zipA hg hm (pa_cons (pe_fzd ha) (pa_cons (pe_fzd hb) pa_nil hs2) hs) hs hpl).imp fun σ H R q => by
    obtain ⟨z, F0, L0, H0, ρ, st, F, L, r, p⟩ := q
    refine ⟨z, F0, L0, H0, ρ, st, F, L, r, p.bind.mono fun d st1 p1 v F1 L1 H1 e1 s1 d1 => ?_⟩
    refine ⟨z, F0, L0, H0, ρ, st1, F1, L1, r.step e1 s1, (p1.step e1).bind.mono fun d' st2 p2 w F2 L2 H2 e2 s2 d2 => ?_⟩
    have d1 := e2.den d1
    cases d <;> cases d' <;> first
      | exact p2.elim
      | skip
    · rename_i xs ys
      unfold Den at d1 d2
      obtain ⟨q1, vs, rfl, h1, h2⟩ := d1
      obtain ⟨q2, ws, rfl, h3, h4⟩ := d2
      refine ⟨q1, q2, vs, ws, rfl, .inr ⟨same_sqT e2.fh h1, same_sqT e2.fh h3, p2 _ F2 L2 H2 (e1.trans e2) s2 (walk_pairs (walk_zipT rfl) (by rw [pairs_len, h2.length, h4.length]) (fun F3 H3 h5 h6 => ⟨same_sqT (h5.trans h6) h1, same_sqT (h5.trans h6) h3⟩) fun i d x y hd hx hy => ?_)⟩⟩
      obtain ⟨x', y', k1, k2, k3⟩ := pairs_get hd
      obtain ⟨u1, k4, k5⟩ := h2.get k1
      obtain ⟨u2, k6, k7⟩ := h4.get k2
      rw [hx] at k4; cases k4
      rw [hy] at k6; cases k6
      exact ⟨x', y', k3, k5, k7⟩
    · rename_i xs ys
      unfold Den at d1 d2
      obtain ⟨q1, vs, rfl, h1, h2⟩ := d1
      obtain ⟨q2, ws, rfl, h3, h4⟩ := d2
      refine ⟨q1, q2, vs, ws, rfl, .inl ⟨SqL.of (e2.fh _ _ h1), SqL.of (e2.fh _ _ h3), p2 _ F2 L2 H2 (e1.trans e2) s2 (walk_pairs (walk_zip rfl) (by rw [pairs_len, h2.length, h4.length]) (fun F3 H3 h5 h6 => ⟨SqL.of (h6 _ _ (h5 _ _ h1)), SqL.of (h6 _ _ (h5 _ _ h3))⟩) fun i d x y hd hx hy => ?_)⟩⟩
      obtain ⟨x', y', k1, k2, k3⟩ := pairs_get hd
      obtain ⟨u1, k4, k5⟩ := h2.get k1
      obtain ⟨u2, k6, k7⟩ := h4.get k2
      rw [hx] at k4; cases k4
      rw [hy] at k6; cases k6
      exact ⟨x', y', k3, k5, k7⟩
theorem snd_enum {elts : List Expr} {kk : Nat} {tpos : Pos} (hg : Gl X "enumerate") (hm : X.mg "enumerate" = none) (ha : PE X a (tE X.K W f)) (hs : starEach [a] X.env = [(false, eval a X.env)] := by rfl) : PI X (.Tuple elts kk tpos) (.Call (.Name "enumerate" p) [a] [] pos) (tI X.K W (iEnum f)) :=
  (pi_enum hg hm (pa_cons (pe_fzd ha) pa_nil hs) hs).imp fun σ H R q => by
    obtain ⟨z, F0, L0, H0, ρ, st, F, L, r, p⟩ := q
    refine ⟨z, F0, L0, H0, ρ, st, F, L, r, p.bind.mono fun d st1 p1 v F1 L1 H1 e1 s1 d1 => ?_⟩
    cases d with
    | lst xs =>
      unfold Den at d1
      obtain ⟨q, vs, rfl, h1, h2⟩ := d1
      refine ⟨q, vs, rfl, SqL.of (e1.fh _ _ h1), p1 _ F1 L1 H1 e1 s1 (walk_pairs walk_enum (by rw [enum_len, h2.length]) (fun F3 H3 h5 h6 => SqL.of (h6 _ _ (h5 _ _ h1))) fun i d x y hd hx hy => ?_)⟩
      obtain ⟨x', k1, k3⟩ := enum_get hd
      obtain ⟨u1, k4, k5⟩ := h2.get k1
      rw [hy] at k4; cases k4
      cases hx
      rw [Nat.zero_add] at k3
      exact ⟨_, x', k3, by unfold Den; rfl, k5⟩
    | _ => exact p1.elim
theorem walk_revT {K : PySem.W.Frag} {a : Addr} {xs : List V} : Walk (ItvT K a xs.length) xs.length (fun H => SqT K H a xs) (fun i H x H' => H' = H ∧ xs[xs.length - 1 - i]? = some x) :=
  ⟨fun i _ hi q => ⟨hi, xs, xs[xs.length - 1 - i]'(by omega), q, by simp [show xs.length - 1 - i < xs.length by omega]⟩, fun _ _ => Nat.le_refl _, fun _ _ _ _ _ q y => ⟨y.1, y.2 xs q⟩⟩
theorem ext_rev {K : PySem.W.Frag} {F : Hp} {L : List Addr} {J : It} {ds : List D} {vs : List V} (h : DenL K F L ds vs) {G : Hp → Prop} (w : Walk J vs.length G (fun i H x H' => H' = H ∧ vs[vs.length - 1 - i]? = some x)) (hG : ∀ F2 H2, Same F F2 → Same F2 H2 → G H2) : WalkD K J F L ds.reverse :=
  ⟨G, _, by rw [List.length_reverse, h.length]; exact w, fun F2 _ H2 _ q1 _ q2 _ _ => hG F2 H2 q1 q2, fun i H2 x H3 d F2 L2 st sf pf sh so _ y hd => by
    obtain ⟨rfl, hx⟩ := y
    have hi : i < ds.length := by
      have := (List.getElem?_eq_some_iff.mp hd).1
      rw [List.length_reverse] at this
      exact this
    rw [rev_get ds hi, h.length] at hd
    obtain ⟨v, h1, h2⟩ := h.get hd
    rw [hx] at h1; cases h1
    exact ⟨F2, .refl sh, so, h2.mono sf pf⟩⟩
theorem snd_rev (hg : Gl X "reversed") (hm : X.mg "reversed" = none) (ha : PE X a (tE X.K W f)) (hs : starEach [a] X.env = (false, eval a X.env) :: starEach [] X.env := by rfl) : PI X tg (.Call (.Name "reversed" p) [a] [] pos) (tI X.K W (iRev f)) :=
  (pi_revA hg hm (pe_fzd ha) hs).imp fun σ H R q => by
    obtain ⟨z, F0, L0, H0, ρ, st, F, L, r, p⟩ := q
    refine ⟨z, F0, L0, H0, ρ, st, F, L, r, p.bind.mono fun d st1 p1 v F1 L1 H1 e1 s1 d1 => ?_⟩
    cases d with
    | lst xs =>
      unfold Den at d1
      obtain ⟨q, vs, rfl, h1, h2⟩ := d1
      exact ⟨q, vs, rfl, .inl ⟨SqL.of (e1.fh _ _ h1), p1 _ F1 L1 H1 e1 s1 (ext_rev h2 walk_rev fun F3 H3 h5 h6 => SqL.of (h6 _ _ (h5 _ _ h1)))⟩⟩
    | tup xs =>
      unfold Den at d1
      obtain ⟨q, vs, rfl, h1, h2⟩ := d1
      exact ⟨q, vs, rfl, .inr ⟨same_sqT e1.fh h1, p1 _ F1 L1 H1 e1 s1 (ext_rev h2 walk_revT fun F3 H3 h5 h6 => same_sqT (h5.trans h6) h1)⟩⟩
    | ref m =>
      unfold Den at d1
      obtain ⟨q, hl, rfl⟩ := d1
      unfold walkOf at p1
      dsimp only at p1
      cases hs : st1[m]? with
      | none => rw [hs] at p1; exact False.elim p1
      | some d =>
        rw [hs] at p1
        cases d with
        | lst xs =>
          obtain ⟨vs, h1, h2⟩ := ref_now s1 hl hs
          exact ⟨q, vs, rfl, .inl ⟨SqL.of h1, p1 _ F1 L1 H1 e1 s1 (ref_rev h2.length.symm hl)⟩⟩
        | _ => exact False.elim p1
    | _ => exact False.elim p1
end
end Q

set_option Elab.async false
set_option linter.all false
set_option maxRecDepth 100000
set_option maxHeartbeats 1000000
/-! Q8: targets, comprehensions, statements, defs. -/
namespace Q
open PySem PySem.Spec PyProof.Rows L2 RZ RT
section
variable {z : Addr} {K : PySem.W.Frag} {F F' F0 H H' H0 : Hp} {L L' L0 : List Addr} {st st' : List D} {ρ : En} {σ : L2.St}
theorem setU {α : Type} {l : List α} {i j : Nat} {x : α} (h : l[j]? = some x) {y : α} : (l.set i y)[j]? = if i = j then some y else some x := by
  have hj := (List.getElem?_eq_some_iff.mp h).1
  by_cases e : i = j
  · subst e; rw [if_pos rfl, List.getElem?_set_self hj]
  · rw [if_neg e, List.getElem?_set_ne e, h]
/-- a name gets a value that anyone may hold -/
theorem Rel.setVal (r : Rel K z F0 L0 H0 ρ st F L σ H) {d : D} {v : V} (h : Den K F L d v) (i : Nat) : Rel K z F0 L0 H0 (ρ.set i (.val d)) st F L (σ.set i (some v)) H := by
  refine ⟨r.ext, r.sto, by rw [List.length_set, List.length_set, r.len], fun j s o h1 h2 => ?_, fun j k a dj dk h1 h2 h3 h4 => ?_, fun j dj a h1 h2 => ?_, fun c ks ds h1 => ?_⟩
  rotate_left 3
  · rw [List.getElem?_set] at h1 ⊢
    by_cases e : i = 0
    · rw [if_pos e] at h1
      split at h1 <;> cases h1
    · rw [if_neg e] at h1 ⊢
      exact r.pin c ks ds h1
  · rw [List.getElem?_set] at h1 h2
    by_cases e : i = j
    · rw [if_pos e] at h1 h2
      split at h1
      · split at h2
        · cases h1; cases h2; exact ⟨v, rfl, h⟩
        · cases h2
      · cases h1
    · rw [if_neg e] at h1 h2
      exact r.sl j s o h1 h2
  · have own : ∀ {j : Nat} {dj : D} {a : Addr}, (ρ.set i (Sl.val d))[j]? = some (.own dj) → (σ.set i (some v))[j]? = some (some (.ref a)) → ρ[j]? = some (.own dj) ∧ σ[j]? = some (some (.ref a)) := fun {j dj a} h1 h2 => by
      rw [List.getElem?_set] at h1 h2
      by_cases e : i = j
      · rw [if_pos e] at h1
        split at h1
        · cases h1
        · cases h1
      · rw [if_neg e] at h1 h2
        exact ⟨h1, h2⟩
    obtain ⟨a1, a2⟩ := own h1 h3
    obtain ⟨b1, b2⟩ := own h2 h4
    exact r.ap j k a dj dk a1 b1 a2 b2
  · rw [List.getElem?_set] at h1 h2
    by_cases e : i = j
    · rw [if_pos e] at h1
      split at h1
      · cases h1
      · cases h1
    · rw [if_neg e] at h1 h2
      exact r.nw j dj a h1 h2
/-- a name gets a thing that nobody else holds -/
theorem Rel.setOwn (r : Rel K z F0 L0 H0 ρ st F L σ H) {d : D} {a : Addr} (h1 : F a = none) (h2 : a ∉ L) (h3 : OwnAt K F L H a d) (h4 : NewR H0 H a) (h5 : ∀ (j : Nat) (dj : D), ρ[j]? = some (.own dj) → σ[j]? ≠ some (some (.ref a))) (i : Nat) (h6 : ∀ c ks ds, d ≠ .ins c ks ds) : Rel K z F0 L0 H0 (ρ.set i (.own d)) st F L (σ.set i (some (.ref a))) H := by
  refine ⟨r.ext, r.sto, by rw [List.length_set, List.length_set, r.len], fun j s o k1 k2 => ?_, fun j k b dj dk k1 k2 k3 k4 => ?_, fun j dj b k1 k2 => ?_, fun c ks ds k1 => ?_⟩
  rotate_left 3
  · rw [List.getElem?_set] at k1 ⊢
    by_cases e : i = 0
    · rw [if_pos e] at k1
      split at k1
      · cases k1; exact absurd rfl (h6 _ _ _)
      · cases k1
    · rw [if_neg e] at k1 ⊢
      exact r.pin c ks ds k1
  · rw [List.getElem?_set] at k1 k2
    by_cases e : i = j
    · rw [if_pos e] at k1 k2
      split at k1
      · split at k2
        · cases k1; cases k2; exact ⟨a, rfl, h1, h2, h3⟩
        · cases k2
      · cases k1
    · rw [if_neg e] at k1 k2
      exact r.sl j s o k1 k2
  · rw [List.getElem?_set] at k1 k2 k3 k4
    by_cases e : i = j
    · by_cases e' : i = k
      · exact e.symm.trans e'
      · rw [if_pos e] at k1 k3
        rw [if_neg e'] at k2 k4
        split at k3
        · cases k3
          exact absurd k4 (h5 k dk k2)
        · cases k3
    · by_cases e' : i = k
      · rw [if_neg e] at k1 k3
        rw [if_pos e'] at k2 k4
        split at k4
        · cases k4
          exact absurd k3 (h5 j dj k1)
        · cases k4
      · rw [if_neg e] at k1 k3
        rw [if_neg e'] at k2 k4
        exact r.ap j k b dj dk k1 k2 k3 k4
  · rw [List.getElem?_set] at k1 k2
    by_cases e : i = j
    · rw [if_pos e] at k1 k2
      split at k2
      · cases k2; exact h4
      · cases k2
    · rw [if_neg e] at k1 k2
      exact r.nw j dj b k1 k2
theorem Rel.own_ne (r : Rel K z F0 L0 H0 ρ st F L σ H) {j : Nat} {d : D} {a : Addr} (h1 : ρ[j]? = some (.own d)) (h2 : σ[j]? = some (some (.ref a))) : H a ≠ none ∧ F a = none ∧ a ∉ L ∧ OwnAt K F L H a d := by
  obtain ⟨b, e, k1, k2, k3⟩ := r.sl j _ _ h1 h2
  cases e
  exact ⟨k3.there, k1, k2, k3⟩
/-- slots forgotten -/
theorem wipeE_get {is : List Nat} : ∀ {j : Nat}, (wipeE ρ is)[j]? = if j ∈ is then ρ[j]?.map (fun _ => Sl.un) else ρ[j]? := by
  induction is with
  | nil => intro j; unfold wipeE; simp
  | cons v vs ih =>
    intro j
    unfold wipeE
    rw [List.getElem?_set]
    have hl : (wipeE ρ vs).length = ρ.length := by
      clear ih
      induction vs with
      | nil => rfl
      | cons w ws ih2 => unfold wipeE; rw [List.length_set, ih2]
    by_cases e : v = j
    · subst e
      rw [if_pos rfl, if_pos List.mem_cons_self, hl]
      by_cases h : v < ρ.length
      · rw [if_pos h, List.getElem?_eq_getElem h]; rfl
      · rw [if_neg h, List.getElem?_eq_none (by omega)]; rfl
    · rw [if_neg e, ih]
      by_cases h : j ∈ vs
      · rw [if_pos h, if_pos (List.mem_cons_of_mem _ h)]
      · rw [if_neg h, if_neg (by simp only [List.mem_cons, not_or]; exact ⟨fun z => e z.symm, h⟩)]
theorem wipe_get {is : List Nat} : ∀ {j : Nat}, (wipe σ is)[j]? = if j ∈ is then σ[j]?.map (fun _ => (none : Option V)) else σ[j]? := by
  induction is with
  | nil => intro j; unfold wipe; simp
  | cons v vs ih =>
    intro j
    unfold wipe
    rw [List.getElem?_set, wipe_length]
    by_cases e : v = j
    · subst e
      rw [if_pos rfl, if_pos List.mem_cons_self]
      by_cases h : v < σ.length
      · rw [if_pos h, List.getElem?_eq_getElem h]; rfl
      · rw [if_neg h, List.getElem?_eq_none (by omega)]; rfl
    · rw [if_neg e, ih]
      by_cases h : j ∈ vs
      · rw [if_pos h, if_pos (List.mem_cons_of_mem _ h)]
      · rw [if_neg h, if_neg (by simp only [List.mem_cons, not_or]; exact ⟨fun z => e z.symm, h⟩)]
theorem wipeE_length (is : List Nat) : (wipeE ρ is).length = ρ.length := by
  induction is with
  | nil => rfl
  | cons w ws ih2 => unfold wipeE; rw [List.length_set, ih2]
theorem Rel.wiped (r : Rel K z F0 L0 H0 ρ st F L σ H) (is : List Nat) : Rel K z F0 L0 H0 (wipeE ρ is) st F L (wipe σ is) H := by
  have back : ∀ {j : Nat} {d : D} {o : Option V}, (wipeE ρ is)[j]? = some (.own d) → (wipe σ is)[j]? = some o → ρ[j]? = some (.own d) ∧ σ[j]? = some o := fun {j d o} h1 h2 => by
    rw [wipeE_get] at h1
    rw [wipe_get] at h2
    by_cases h : j ∈ is
    · rw [if_pos h] at h1
      cases q : ρ[j]? with
      | none => rw [q] at h1; cases h1
      | some x => rw [q] at h1; cases h1
    · rw [if_neg h] at h1 h2
      exact ⟨h1, h2⟩
  refine ⟨r.ext, r.sto, by rw [wipeE_length, wipe_length, r.len], fun j s o h1 h2 => ?_, fun j k a dj dk h1 h2 h3 h4 => ?_, fun j d a h1 h2 => ?_, fun c ks ds h1 => ?_⟩
  rotate_left 3
  · have h0 : 0 ∉ is := fun h => by
      rw [wipeE_get, if_pos h] at h1
      cases q : ρ[0]? with
      | none => rw [q] at h1; cases h1
      | some x => rw [q] at h1; cases h1
    rw [wipeE_get, if_neg h0] at h1
    rw [wipe_get, if_neg h0]
    exact r.pin c ks ds h1
  · rw [wipeE_get] at h1
    rw [wipe_get] at h2
    by_cases h : j ∈ is
    · rw [if_pos h] at h1
      cases q : ρ[j]? with
      | none => rw [q] at h1; cases h1
      | some x => rw [q] at h1; cases h1; trivial
    · rw [if_neg h] at h1 h2
      exact r.sl j s o h1 h2
  · obtain ⟨a1, a2⟩ := back h1 h3
    obtain ⟨b1, b2⟩ := back h2 h4
    exact r.ap j k a dj dk a1 b1 a2 b2
  · obtain ⟨a1, a2⟩ := back h1 h2
    exact r.nw j d a a1 a2
/-- one name's list becomes everyone's -/
theorem Rel.free1 (r : Rel K z F0 L0 H0 ρ st F L σ H) (i : Nat) : ∃ F', Rel K z F0 L0 H0 (free1 ρ i) st F' L σ H ∧ Same F F' := by
  unfold Q.free1
  cases hs : ρ[i]? with
  | none => exact ⟨F, r, Same.refl F⟩
  | some s =>
    cases s with
    | un => exact ⟨F, r, Same.refl F⟩
    | val d => exact ⟨F, r, Same.refl F⟩
    | own d =>
      have hi : i < σ.length := by rw [← r.len]; exact (List.getElem?_eq_some_iff.mp hs).1
      obtain ⟨a, e, k1, k2, k3⟩ := r.sl i _ _ hs (List.getElem?_eq_getElem hi)
      have hσ : σ[i]? = some (some (.ref a)) := by rw [List.getElem?_eq_getElem hi, e]
      obtain ⟨F', x1, x2, x3, x4, x5⟩ := freeze' r.ext r.sto k1 k2 k3 (r.nw i d a hs hσ)
      refine ⟨F', ⟨x1, x2, by rw [List.length_set, r.len], fun j s o h1 h2 => ?_, fun j k b dj dk h1 h2 h3 h4 => ?_, fun j dj b h1 h2 => ?_, fun c ks ds h1 => ?_⟩, x4⟩
      rotate_left 3
      · rw [List.getElem?_set] at h1
        by_cases e : i = 0
        · rw [if_pos e] at h1
          split at h1 <;> cases h1
        · rw [if_neg e] at h1
          exact r.pin c ks ds h1
      · rw [List.getElem?_set] at h1
        by_cases ej : i = j
        · subst ej
          rw [if_pos rfl] at h1
          split at h1
          · cases h1
            rw [hσ] at h2
            cases h2
            exact ⟨_, rfl, x3⟩
          · cases h1
        · rw [if_neg ej] at h1
          have hr := r.sl j s o h1 h2
          cases s with
          | un => trivial
          | val dd =>
            obtain ⟨v, q1, q2⟩ := hr
            exact ⟨v, q1, q2.mono x4 fun _ _ q => q⟩
          | own dd =>
            obtain ⟨b, q1, q2, q3, q4⟩ := hr
            subst q1
            have nb : b ≠ a := fun z => ej (r.ap i j a d dd hs h1 hσ (by rw [← z]; exact h2))
            exact ⟨b, rfl, x5 b q2 nb (fun z => q4.noown z), q3, q4.mono x4 (fun _ _ q => q) (fun _ _ q _ => q) fun c hc hx =>
              x5 c hc (fun z => k3.noown (by rw [← z]; exact hx)) (fun z => nb (by rw [hx] at z; cases z; rfl))⟩
      · have own : ∀ {j : Nat} {dj : D}, (ρ.set i (Sl.val d))[j]? = some (.own dj) → ρ[j]? = some (.own dj) := fun {j dj} h1 => by
          rw [List.getElem?_set] at h1
          by_cases e : i = j
          · rw [if_pos e] at h1
            split at h1 <;> cases h1
          · rw [if_neg e] at h1; exact h1
        exact r.ap j k b dj dk (own h1) (own h2) h3 h4
      · rw [List.getElem?_set] at h1
        by_cases e : i = j
        · rw [if_pos e] at h1
          split at h1 <;> cases h1
        · rw [if_neg e] at h1; exact r.nw j dj b h1 h2
theorem Rel.frees : ∀ (is : List Nat) {ρ : En} {F : Hp}, Rel K z F0 L0 H0 ρ st F L σ H → ∃ F', Rel K z F0 L0 H0 (frees is ρ) st F' L σ H ∧ Same F F'
  | [], _, F, r => ⟨F, r, Same.refl F⟩
  | i :: is, _, _, r => by
    obtain ⟨F1, r1, s1⟩ := r.free1 i
    obtain ⟨F2, r2, s2⟩ := Rel.frees is r1
    exact ⟨F2, r2, s1.trans s2⟩
end

/-! ### targets -/
abbrev Pre (L L' : List Addr) : Prop := ∀ (n : Nat) (a : Addr), L[n]? = some a → L'[n]? = some a
/-- but for some slots as it was -/
def KpS (is : List Nat) (σ σ' : L2.St) : Prop := σ'.length = σ.length ∧ ∀ (j : Nat), j ∉ is → σ'[j]? = σ[j]?
/-- is: the names that are stored to -/
def tG (K : PySem.W.Frag) (is : List Nat) (g : SG) : TG := fun v σ H Q => ∃ z F0 L0 H0 ρ st F L d, Rel K z F0 L0 H0 ρ st F L σ H ∧ Den K F L d v ∧ ∃ ρ', g d ρ = some ρ' ∧ ∀ σ', Rel K z F0 L0 H0 ρ' st F L σ' H → KpS is σ σ' → Q σ' H
def tGs (K : PySem.W.Frag) (is : List Nat) (gs : List SG) : TGs := fun vs σ H Q => ∃ z F0 L0 H0 ρ st F L ds, Rel K z F0 L0 H0 ρ st F L σ H ∧ DenL K F L ds vs ∧ ∃ ρ', gAll gs ds ρ = some ρ' ∧ ∀ σ', Rel K z F0 L0 H0 ρ' st F L σ' H → KpS is σ σ' → Q σ' H
theorem _root_.L2.PG.imp {X : Cx} {e : Expr} {t t' : TG} (h : PG X e t) (i : ∀ v σ H Q, t' v σ H Q → t v σ H Q) : PG X e t' := ⟨fun pins s σ H v u Q I r q => h.run pins s σ H v u Q I r (i v σ H Q q)⟩
theorem _root_.L2.PGs.imp {X : Cx} {e : List Expr} {t t' : TGs} (h : PGs X e t) (i : ∀ v σ H Q, t' v σ H Q → t v σ H Q) : PGs X e t' := ⟨fun pins s σ H v u Q I r q => h.run pins s σ H v u Q I r (i v σ H Q q)⟩
theorem gAll_len : ∀ {gs : List SG} {ds : List D} {ρ ρ' : En}, gAll gs ds ρ = some ρ' → ds.length = gs.length
  | [], [], _, _, _ => rfl
  | [], _ :: _, _, _, h => by unfold gAll at h; cases h
  | _ :: _, [], _, _, h => by unfold gAll at h; cases h
  | g :: gs, d :: ds, ρ, ρ', h => by
    unfold gAll at h
    cases q : g d ρ with
    | none => rw [q] at h; cases h
    | some ρ1 =>
      rw [q] at h
      rw [List.length_cons, List.length_cons, gAll_len (show gAll gs ds ρ1 = some ρ' from h)]
section
variable {X : Cx} {W : WX} {e a b c tg : Expr} {es : List Expr} {f g k : SE} {fs : SEs} {pos : Pos} {x : Str} {p : Pos}
theorem snd_gName {i : Nat} {x : Str} (hN : X.N.Nodup) (hi : X.N[i]? = some x := by rfl) (hx : Loc X.env.scope x := by first | exact Or.inl rfl | exact Or.inr rfl) (hf : X.fn x = true ∨ X.env.scope.names.lookup x = some .local := by first | exact .inl rfl | exact .inr rfl) : PG X (.Name x pos) (tG X.K [i] (gName i)) :=
  (pg_name hN hi hx hf).imp fun v σ H Q q => by
    obtain ⟨z, F0, L0, H0, ρ, st, F, L, d, r, hd, ρ', e, h⟩ := q
    cases e
    exact h _ (r.setVal hd i) ⟨List.length_set, fun j hj => List.getElem?_set_ne (fun z => hj (by simp [z]))⟩
theorem snd_gNil : PGs X [] (tGs X.K [] []) := pgs_nil.imp fun vs σ H Q q => by
  obtain ⟨z, F0, L0, H0, ρ, st, F, L, ds, r, hd, ρ', e, h⟩ := q
  cases ds with
  | nil =>
    unfold gAll at e
    cases e
    unfold DenL at hd
    exact ⟨hd, h σ r ⟨rfl, fun _ _ => rfl⟩⟩
  | cons d ds => unfold gAll at e; cases e
theorem snd_gCons {is js : List Nat} {g : SG} {gs : List SG} (h1 : PG X e (tG X.K is g)) (h2 : PGs X es (tGs X.K js gs)) (hs : (assignEach (e :: es) X.env).map (·.2) = assign e X.env :: (assignEach es X.env).map (·.2) := by rfl) : PGs X (e :: es) (tGs X.K (is ++ js) (g :: gs)) :=
  (pgs_cons h1 h2 hs).imp fun vs σ H Q q => by
    obtain ⟨z, F0, L0, H0, ρ, st, F, L, ds, r, hd, ρ', e, h⟩ := q
    cases ds with
    | nil => unfold gAll at e; cases e
    | cons d ds =>
      unfold gAll at e
      unfold DenL at hd
      obtain ⟨v, r', rfl, d1, d2⟩ := hd
      cases q : g d ρ with
      | none => rw [q] at e; cases e
      | some ρ1 =>
        rw [q] at e
        refine ⟨v, r', rfl, z, F0, L0, H0, ρ, st, F, L, d, r, d1, ρ1, q, fun σ1 r1 j1 => ?_⟩
        refine ⟨z, F0, L0, H0, ρ1, st, F, L, ds, r1, d2, ρ', e, fun σ2 r2 j2 => h σ2 r2 ⟨j2.1.trans j1.1, fun j hj => ?_⟩⟩
        rw [j2.2 j fun z => hj (List.mem_append_right _ z), j1.2 j fun z => hj (List.mem_append_left _ z)]
theorem snd_gTup {is : List Nat} {gs : List SG} {kk : Nat} {n : Nat} (hc : X.calm = true) (h : PGs X es (tGs X.K is gs)) (hg : gs.length = n := by rfl) (hn : (assignEach es X.env).length = n := by rfl) (hst : (assignEach es X.env).findIdx? (·.1) = none := by rfl) : PG X (.Tuple es kk pos) (tG X.K is (gTup gs)) :=
  (pg_tup hc h hn hst).imp fun v σ H Q q => by
    obtain ⟨z, F0, L0, H0, ρ, st, F, L, d, r, hd, ρ', e, h⟩ := q
    cases d with
    | tup ds =>
      have e : gAll gs ds ρ = some ρ' := e
      unfold Den at hd
      obtain ⟨a, vs, rfl, h1, h2⟩ := hd
      exact ⟨a, vs, rfl, same_sqT r.ext.fh h1, by rw [← h2.length, gAll_len e, hg], z, F0, L0, H0, ρ, st, F, L, ds, r, h2, ρ', e, h⟩
    | _ => cases e
end

/-! ### comprehensions -/
abbrev W0 : WX := fun _ _ _ _ => False
theorem wipe_eq {σ σ' : L2.St} {vs is : List Nat} (hl : σ'.length = σ.length) (h : ∀ (j : Nat), j ∉ is → σ'[j]? = (wipe σ vs)[j]?) (hs : ∀ j ∈ is, j ∈ vs) : wipe σ' vs = wipe σ vs := by
  apply List.ext_getElem?
  intro j
  rw [wipe_get]
  by_cases hj : j ∈ vs
  · rw [if_pos hj, wipe_get, if_pos hj]
    by_cases hlt : j < σ.length
    · rw [List.getElem?_eq_getElem hlt, List.getElem?_eq_getElem (by omega)]; rfl
    · rw [List.getElem?_eq_none (by omega), List.getElem?_eq_none (by omega)]
  · rw [if_neg hj, h j fun z => hj (hs j z)]
theorem Ext.updNew {F F' H H' : Hp} {L L' : List Addr} (e : Ext F L H F' L' H') {p : Addr} {o : HO} (h : H p = none) (h' : F' p = none) : Ext F L H F' L' (upd H' p o) where
  ff := e.ff
  fh := fun b x q => by rw [upd_ne (ne_of_none q h')]; exact e.fh b x q
  new := e.new
  kp := fun b x q n => by rw [upd_ne (ne_of_none q h)]; exact e.kp b x q n
  gr := fun b q => by
    by_cases hb : b = p
    · rw [hb]; exact h
    · rw [upd_ne hb] at q; exact e.gr b q
  pre := e.pre
  nw := e.nw
theorem StOk.updOwn {K : PySem.W.Frag} {F H : Hp} {L : List Addr} {st : List D} (s : StOk K F L H st) {p : Addr} {o : HO} (h : p ∉ L) (h2 : ∀ b, H p ≠ some (.own b)) : StOk K F L (upd H p o) st :=
  ⟨s.len, s.nd, fun n b d h1 h3 => by
    obtain ⟨k1, k2⟩ := s.at_ n b d h1 h3
    have nb : b ≠ p := fun z => h (by rw [← z]; exact List.mem_of_getElem? h1)
    refine ⟨k1, k2.mono (Same.refl F) (fun _ _ q => q) (fun c x q r => ?_) fun _ q _ => q⟩
    have nc : c ≠ p := by
      rcases r with rfl | rfl
      · exact nb
      · exact fun z => h2 b (by rw [← z]; exact q)
    rw [upd_ne nc]; exact q⟩
theorem compL_gd {gs : Gd} {g : SG} {t : ST} {e : SE} {ρ : En} {r : List D × List D} : ∀ {ds acc st : List D}, compL gs g t e ρ ds acc st = some r → gdOk gs st = true
  | [], acc, st, h => by
    unfold compL at h
    by_cases q : gdOk gs st = true
    · exact q
    · rw [if_neg q] at h; cases h
  | d :: ds, acc, st, h => by
    unfold compL at h
    by_cases q : gdOk gs st = true
    · exact q
    · rw [if_neg q] at h; cases h
theorem lc_tE {K : PySem.W.Frag} {W : WX} {it : SI} {g : SG} {t : ST} {e : SE} {vs is : List Nat} (hs : ∀ j ∈ is, j ∈ vs) {σ : L2.St} {H : Hp} {Q : VK} (q : tE K W (eComp it g t e vs) σ H Q) : tLc (tI K W it) (tG K is g) (tT K W0 t) (tD K W0 e) vs σ H Q := by
  obtain ⟨z, F0, L0, H0, ρ, st, F, L, r, p⟩ := q
  refine ⟨z, F0, L0, H0, ρ, st, F, L, r, p.bind.mono fun ds st1 p1 J F1 L1 H1 e1 s1 wd DD hD => ?_⟩
  have p1 := p1.step e1
  obtain ⟨G, Y, wk, hG, hY⟩ := wd
  obtain ⟨ds, gs⟩ := ds
  dsimp only at p1
  cases hr : compL gs g t e (wipeE ρ vs) ds [] st1 with
  | none => rw [hr] at p1; exact p1.elim
  | some pr =>
    obtain ⟨xs, st2⟩ := pr
    rw [hr] at p1
    have p1 : OkE K F L H Q (.lst xs, .fr) st2 := p1
    have r1 := r.step e1 s1
    refine lc_it wk (fun i Hc => ∃ F2 L2 st3 acc ws, Ext F1 L1 H1 F2 L2 Hc ∧ StOk K F2 L2 Hc st3 ∧ F2 DD = none ∧ DD ∉ L2 ∧ Hc DD = some (.lst ws) ∧ DenL K F2 L2 acc ws ∧ compL gs g t e (wipeE ρ vs) (ds.drop i) acc st3 = some (xs, st2))
      ⟨F1, L1, st1, [], [], ext_new e1.fh hD, sto_new e1.fh s1 hD, none_of e1.fh hD, s1.fresh hD, upd_same, .nil, hr⟩ (fun i Hc _ hP => ?_) (fun i x Hc Hd hi hP hy => ?_) (fun Hc hP => ?_)
    · obtain ⟨F2, L2, st3, acc, ws, k1, k2, _, _, _, _, k7⟩ := hP
      exact hG F2 L2 Hc st3 k1.ff k1.pre k1.fh k2 (compL_gd k7)
    · obtain ⟨F2, L2, st3, acc, ws, k1, k2, k3, k4, k5, k6, k7⟩ := hP
      have hd := List.getElem?_eq_getElem hi
      have gk := compL_gd k7
      obtain ⟨F3, m1, m2, m3⟩ := hY i Hc x Hd _ F2 L2 st3 k1.ff k1.pre k1.fh k2 gk hy hd
      rw [List.drop_eq_getElem_cons hi] at k7
      unfold compL at k7
      rw [if_pos gk] at k7
      have r3 := ((r1.step k1 k2).step m1 m2).wiped vs
      cases hg : g ds[i] (wipeE ρ vs) with
      | none => rw [hg] at k7; cases k7
      | some ρ1 =>
        rw [hg] at k7
        have k7 : (match t ρ1 st3 with
          | .ok true st1 => (match fzd e ρ1 st1 with
            | .ok x st2 => if acc.length < maxLen then compL gs g t e (wipeE ρ vs) (ds.drop (i + 1)) (acc ++ [x]) st2 else none
            | _ => none)
          | .ok false st1 => compL gs g t e (wipeE ρ vs) (ds.drop (i + 1)) acc st1
          | _ => none) = some (xs, st2) := k7
        refine ⟨z, F0, L0, H0, wipeE ρ vs, st3, F3, L2, ds[i], r3, m3, ρ1, hg, fun σ1 r4 hσ => ?_⟩
        have hl : σ1.length = σ.length := by rw [hσ.1, wipe_length]
        refine ⟨wipe_eq hl hσ.2 hs, z, F0, L0, H0, ρ1, st3, F3, L2, r4, ?_⟩
        have k4' : Hd DD = some (.lst ws) := m1.kp _ _ k5 k4
        have k3' : F3 DD = none := m1.stays k3 (by rw [k5]; exact fun z => by cases z)
        have k1' : Ext F1 L1 H1 F3 L2 Hd := k1.trans m1
        cases ht : t ρ1 st3 with
        | no => rw [ht] at k7; cases k7
        | ex _ _ _ _ => rw [ht] at k7; cases k7
        | ok b st4 =>
          rw [ht] at k7
          intro F4 L4 H4 e4 s4
          have n4 : DD ∉ L4 := fun z => by
            rcases e4.nw DD z with z | z
            · exact k4 z
            · rw [k4'] at z; cases z
          have h4 : H4 DD = some (.lst ws) := e4.kp _ _ k4' k4
          have f4 : F4 DD = none := e4.stays k3' (by rw [k4']; exact fun z => by cases z)
          cases b with
          | false =>
            rw [if_neg Bool.false_ne_true]
            exact ⟨F4, L4, st4, acc, ws, k1'.trans e4, s4, f4, n4, h4, e4.denL (m1.denL k6), k7⟩
          | true =>
            rw [if_pos rfl]
            refine ⟨z, F0, L0, H0, ρ1, st4, F4, L4, r4.step e4 s4, ?_⟩
            have k7 : (match fzd e ρ1 st4 with
              | .ok x st2 => if acc.length < maxLen then compL gs g t e (wipeE ρ vs) (ds.drop (i + 1)) (acc ++ [x]) st2 else none
              | _ => none) = some (xs, st2) := k7
            cases he : fzd e ρ1 st4 with
            | no => rw [he] at k7; cases k7
            | ex _ _ _ _ => rw [he] at k7; cases k7
            | ok y st5 =>
              rw [he] at k7
              have k7 : (if acc.length < maxLen then compL gs g t e (wipeE ρ vs) (ds.drop (i + 1)) (acc ++ [y]) st5 else none) = some (xs, st2) := k7
              intro v F5 L5 H5 e5 s5 d5
              have n5 : DD ∉ L5 := fun z => by
                rcases e5.nw DD z with z | z
                · exact n4 z
                · rw [h4] at z; cases z
              have h5 : H5 DD = some (.lst ws) := e5.kp _ _ h4 n4
              have f5 : F5 DD = none := e5.stays f4 (by rw [h4]; exact fun z => by cases z)
              by_cases hl : acc.length < maxLen
              · rw [if_pos hl] at k7
                have k6' := e5.denL (e4.denL (m1.denL k6))
                exact ⟨ws, h5, by rw [← k6.length, ← maxLen_eq]; exact hl, F5, L5, st5, _, _, ((k1'.trans e4).trans e5).updNew hD f5, s5.updOwn n5 (fun b z => by rw [h5] at z; cases z), f5, n5, upd_same, k6'.append (.cons d5 .nil), k7⟩
              · rw [if_neg hl] at k7; cases k7
    · obtain ⟨F2, L2, st3, acc, ws, k1, k2, k3, k4, k5, k6, k7⟩ := hP
      have gk := compL_gd k7
      rw [List.drop_of_length_le (Nat.le_refl _)] at k7
      unfold compL at k7
      rw [if_pos gk] at k7
      obtain ⟨rfl, rfl⟩ := Prod.mk.inj (Option.some.inj k7)
      exact p1 (.ref DD) F2 L2 Hc (e1.trans k1) k2 ⟨DD, rfl, k3, k4, ws, k5, k6⟩ fun _ a z => by
        cases z
        exact ⟨e1.gr _ hD, fun C dx fs z => by rw [k5] at z; cases z⟩
section
variable {X : Cx} {W : WX} {t : ST} {e : SE} {it : SI} {g : SG} {vs is : List Nat} {elt tg iter : Expr} {ifs : List Expr} {scope : Scope} {own : List (Str × Nat)} {pos : Pos}
theorem snd_yes : PTs X [] (tT X.K W0 tYes) := ⟨fun pins s σ H Q I h => pts_nil.run pins s σ H Q I (by
  obtain ⟨z, F0, L0, H0, ρ, st, F, L, r, p⟩ := h
  exact p F L H r.refl r.sto)⟩
theorem snd_tst {c : Expr} (h : PT X c (tT X.K W0 t)) : PTs X [c] (tT X.K W0 t) := pts_one h
theorem snd_comp (hc : X.calm = true) (hN : X.N.Nodup) (ok : BlkOk X.N X.env.scope scope own) (hs : ∀ j ∈ is, j ∈ own.map (·.2)) (hi : PI X tg iter (tI X.K W it))
    (hg : ∀ (s : Shared) (H : Hp) (C : Addr) (cl : List (Str × Addr)) (fp : List Addr), PG (X.blk s H scope (compEnvC scope cl C X.env) fp) tg (tG X.K is g)) (ht : ∀ (s : Shared) (H : Hp) (C : Addr) (cl : List (Str × Addr)) (fp : List Addr), PTs (X.blk s H scope (compEnvC scope cl C X.env) fp) ifs (tT X.K W0 t))
    (he : ∀ (s : Shared) (H : Hp) (C : Addr) (cl : List (Str × Addr)) (fp : List Addr), PE (X.blk s H scope (compEnvC scope cl C X.env) fp) elt (tE X.K W0 e)) (hf : ∀ x, foldedSetIterable iter X.env x = pure x := by intro _; rfl) :
    PE X (.ListComp elt [⟨tg, iter, ifs, 0⟩] scope pos) (tE X.K W (eComp it g t e (own.map (·.2)))) := (pe_lc hc hN hi ok hg ht (fun s H C cl fp => pe_fzd (he s H C cl fp)) hf).imp fun σ H Q q => lc_tE hs q
end
end Q

set_option Elab.async false
set_option linter.all false
set_option maxRecDepth 100000
set_option maxHeartbeats 1000000
/-! Q9: statements, defs. -/
namespace Q
open PySem PySem.Spec PyProof.Rows L2 RZ RT
/-- what is wanted behind a statement's end -/
def OkS (K : PySem.W.Frag) (W : WX) (z : Addr) (F0 : Hp) (L0 : List Addr) (H0 : Hp) (F : Hp) (L : List Addr) (D : Ends) : Fl → List Q.D → Prop
  | .nx ρ', st' => ∀ σ' H' F' L', Rel K z F0 L0 H0 ρ' st' F' L' σ' H' → Same F F' → Pre L L' → D.nx σ' H'
  | .bk ρ', st' => ∀ σ' H' F' L', Rel K z F0 L0 H0 ρ' st' F' L' σ' H' → Same F F' → Pre L L' → D.bk σ' H'
  | .ct ρ', st' => ∀ σ' H' F' L', Rel K z F0 L0 H0 ρ' st' F' L' σ' H' → Same F F' → Pre L L' → D.ct σ' H'
  | .rt d g, st' => ∀ v H' F' L', Ext F0 L0 H0 F' L' H' → StOk K F' L' H' st' → DenR K F' L' H' g d v → (g = .fr → ∀ a, v = .ref a → NewR H0 H' a) → D.rt v H'
  | .xx c ks ds ρ', st' => ∀ u od σ' H' F' L', Rel K z F0 L0 H0 ρ' st' F' L' σ' H' → XDen K F' L' c ks ds u od → W u od σ' H'
def PostS (K : PySem.W.Frag) (W : WX) (z : Addr) (F0 : Hp) (L0 : List Addr) (H0 : Hp) (F : Hp) (L : List Addr) (D : Ends) (r : R Fl) : Prop := match r with
  | .ok f st' => OkS K W z F0 L0 H0 F L D f st'
  | _ => False
def tS (K : PySem.W.Frag) (W : WX) (f : SS) : TS := fun D σ H => ∃ z F0 L0 H0 ρ st F L, Rel K z F0 L0 H0 ρ st F L σ H ∧ PostS K W z F0 L0 H0 F L D (f ρ st)
theorem _root_.L2.PS.imp {X : Cx} {e : Stmt} {t t' : TS} (h : PS X e t) (i : ∀ D σ H, t' D σ H → t D σ H) : PS X e t' := ⟨fun pins s σ H D I q => h.run pins s σ H D I (i D σ H q)⟩
theorem _root_.L2.PSs.imp {X : Cx} {e : List Stmt} {t t' : TS} (h : PSs X e t) (i : ∀ D σ H, t' D σ H → t D σ H) : PSs X e t' := ⟨fun pins s σ H D I q => h.run pins s σ H D I (i D σ H q)⟩
section
variable {z : Addr} {K : PySem.W.Frag} {W : WX} {F0 F F1 H0 H H1 : Hp} {L0 L L1 : List Addr} {σ : L2.St} {st : List D} {ρ : En} {E : Ends} {α : Type}
theorem OkS.step {f : Fl} {st'} (h : OkS K W z F0 L0 H0 F L E f st') (s : Same F F1) (p : Pre L L1) : OkS K W z F0 L0 H0 F1 L1 E f st' := by
  cases f with
  | nx ρ' => exact fun σ' H' F' L' r s' p' => h σ' H' F' L' r (s.trans s') fun n a q => p' n a (p n a q)
  | bk ρ' => exact fun σ' H' F' L' r s' p' => h σ' H' F' L' r (s.trans s') fun n a q => p' n a (p n a q)
  | ct ρ' => exact fun σ' H' F' L' r s' p' => h σ' H' F' L' r (s.trans s') fun n a q => p' n a (p n a q)
  | rt d g => exact h
  | xx c ks ds ρ' => exact h
theorem PostS.step {r : R Fl} (h : PostS K W z F0 L0 H0 F L E r) (s : Same F F1) (p : Pre L L1) : PostS K W z F0 L0 H0 F1 L1 E r := by
  cases r with
  | ok f st' => exact OkS.step h s p
  | ex _ _ _ _ => exact h
  | no => exact h
/-- an expression first -/
theorem PostS.of {r : R α} {k : α → List D → R Fl} (rel : Rel K z F0 L0 H0 ρ st F L σ H) (h : PostS K W z F0 L0 H0 F L E (r.bindS ρ k)) : Post K W F L H σ r fun a st' => PostS K W z F0 L0 H0 F L E (k a st') := by
  cases r with
  | ok a st' => exact h
  | ex c ks ds st' => exact fun u od F' L' H' e s x => h u od σ H' F' L' (rel.step e s) x
  | no => exact h.elim
theorem PostS.bind {r : R Fl} {k : Fl → List D → R Fl} (h : PostS K W z F0 L0 H0 F L E (r.bind k)) : ∃ f st', r = .ok f st' ∧ PostS K W z F0 L0 H0 F L E (k f st') := by
  cases r with
  | ok f st' => exact ⟨f, st', rfl, h⟩
  | ex _ _ _ _ => exact h.elim
  | no => exact h.elim
theorem Pre.refl (L : List Addr) : Pre L L := fun _ _ q => q
end
section
variable {X : Cx} {W : WX} {s1 : Stmt} {ss : List Stmt} {a b : SS} {f g k : SE} {t : ST} {e c : Expr} {pos pos' : Pos}
theorem snd_sNext : PSs X [] (tS X.K W sNext) := pss_nil.imp fun D σ H q => by
  obtain ⟨z, F0, L0, H0, ρ, st, F, L, r, p⟩ := q
  exact p σ H F L r (Same.refl F) (Pre.refl L)
theorem snd_one' (h : PS X s1 (tS X.K W a)) : PSs X [s1] (tS X.K W a) := pss_one h
theorem snd_seq (h1 : PS X s1 (tS X.K W a)) (h2 : PSs X ss (tS X.K W b)) : PSs X (s1 :: ss) (tS X.K W (sSeq a b)) := (pss_cons h1 h2).imp fun D σ H q => by
  obtain ⟨z, F0, L0, H0, ρ, st, F, L, r, p⟩ := q
  obtain ⟨f, st1, e, p1⟩ := PostS.bind p
  refine ⟨z, F0, L0, H0, ρ, st, F, L, r, ?_⟩
  rw [e]
  cases f with
  | nx ρ1 => exact fun σ' H' F' L' r' s p => ⟨z, F0, L0, H0, ρ1, st1, F', L', r', p1.step s p⟩
  | bk ρ1 => exact p1
  | ct ρ1 => exact p1
  | rt d g => exact p1
  | xx c ks ds ρ1 => exact p1
/-- names whose lists are everyone's from here on -/
theorem snd_fz (is : List Nat) (h : PS X s1 (tS X.K W a)) : PS X s1 (tS X.K W (sFz is a)) := h.imp fun D σ H q => by
  obtain ⟨z, F0, L0, H0, ρ, st, F, L, r, p⟩ := q
  obtain ⟨F', r', s'⟩ := Rel.frees is r
  exact ⟨z, F0, L0, H0, _, st, F', L, r', PostS.step p s' (Pre.refl L)⟩
theorem set_tE {K : PySem.W.Frag} {i : Nat} {D : Ends} {σ : L2.St} {H : Hp} (q : tS K W (sSet i f) D σ H) : tE K W f σ H fun x H1 => L2.gName i x σ H1 D.nx := by
  obtain ⟨z, F0, L0, H0, ρ, st, F, L, r, p⟩ := q
  refine ⟨z, F0, L0, H0, ρ, st, F, L, r, (PostS.of r p).mono fun x st1 p1 v F1 L1 H1 e1 s1 d1 n1 => ?_⟩
  have r1 := r.step e1 s1
  obtain ⟨d, gg⟩ := x
  have val : ∀ F2, Ext F L H F2 L1 H1 → StOk K F2 L1 H1 st1 → Den K F2 L1 d v → PostS K W z F0 L0 H0 F L D (.ok (.nx (ρ.set i (.val d))) st1) → D.nx (σ.set i (some v)) H1 := fun F2 x1 x2 x3 x4 => x4 _ _ _ _ ((r.step x1 x2).setVal x3 i) x1.ff x1.pre
  cases gg with
  | fz => exact val F1 e1 s1 d1 p1
  | bw => exact (show False by cases d <;> exact p1).elim
  | fr =>
    obtain ⟨a, rfl, h1, h2, h3⟩ := d1
    have nn := n1 rfl a rfl
    cases d with
    | lst xs =>
      refine p1 _ _ _ _ (r1.setOwn h1 h2 h3 ⟨r.ext.gr _ nn.1, fun C dx fs q => r.ext.gr _ (nn.2 C dx fs q)⟩ (fun j dj hj hσ => ?_) i fun c ks ds z => by cases z) e1.ff e1.pre
      exact (r.own_ne hj hσ).1 nn.1
    | ins cc ks ds =>
      obtain ⟨F2, x1, x2, x3⟩ := freeze e1 s1 h1 h2 h3 nn
      exact val F2 x1 x2 x3 p1
    | _ => exact h3.elim
/-- x = e -/
theorem snd_set {i : Nat} {x : Str} {pos' : Pos} (hN : X.N.Nodup) (he : PE X e (tE X.K W f)) (hi : X.N[i]? = some x := by rfl) (hx : Loc X.env.scope x := by first | exact Or.inl rfl | exact Or.inr rfl) (hs : swapsWith e (some (.Name x pos')) pos.line X.env = pure false := by rfl)
    (hf : X.fn x = true ∨ X.env.scope.names.lookup x = some .local := by first | exact .inl rfl | exact .inr rfl) : PS X (.Assign [.Name x pos'] e pos) (tS X.K W (sSet i f)) := (ps_set hN hi hx he hs hf).imp fun D σ H q => set_tE q
/-- x = [.. for ..] -/
theorem snd_setLc {i : Nat} {y : Str} {py : Pos} {elt tg iter : Expr} {ifs : List Expr} {scope : Scope} {own : List (Str × Nat)} {spos : Pos} {it : SI} {g : SG} {t : ST} {e : SE} {is : List Nat} (hc : X.calm = true) (hN : X.N.Nodup) (ok : BlkOk X.N X.env.scope scope own) (hs : ∀ j ∈ is, j ∈ own.map (·.2)) (hi : PI X tg iter (tI X.K W it))
    (hg : ∀ (s : Shared) (H : Hp) (C : Addr) (cl : List (Str × Addr)) (fp : List Addr), PG (X.blk s H scope (compEnvC scope cl C X.env) fp) tg (tG X.K is g)) (ht : ∀ (s : Shared) (H : Hp) (C : Addr) (cl : List (Str × Addr)) (fp : List Addr), PTs (X.blk s H scope (compEnvC scope cl C X.env) fp) ifs (tT X.K W0 t))
    (he : ∀ (s : Shared) (H : Hp) (C : Addr) (cl : List (Str × Addr)) (fp : List Addr), PE (X.blk s H scope (compEnvC scope cl C X.env) fp) elt (tE X.K W0 e)) (hy : X.N[i]? = some y := by rfl) (hyl : X.env.scope.names.lookup y = some .local := by rfl)
    (hsw : swapsWith (.ListComp elt [⟨tg, iter, ifs, 0⟩] scope pos) (some (.Name y py)) spos.line X.env = pure true := by exact sw_true rfl rfl rfl (by decide +kernel)) (hf : ∀ x, foldedSetIterable iter X.env x = pure x := by intro _; rfl) :
    PS X (.Assign [.Name y py] (.ListComp elt [⟨tg, iter, ifs, 0⟩] scope pos) spos) (tS X.K W (sSet i (eComp it g t e (own.map (·.2))))) := (ps_setLc hc hN hy hyl hsw hi ok hg ht (fun s H C cl fp => pe_fzd (he s H C cl fp)) hf).imp fun D σ H q => lc_tE hs (set_tE q)
/-- x = e, from now on of the store -/
theorem ref_tE {K : PySem.W.Frag} {i : Nat} {D : Ends} {σ : L2.St} {H : Hp} (q : tS K W (sRef i f) D σ H) : tE K W f σ H fun x H1 => L2.gName i x σ H1 D.nx := by
  obtain ⟨z, F0, L0, H0, ρ, st, F, L, r, p⟩ := q
  refine ⟨z, F0, L0, H0, ρ, st, F, L, r, (PostS.of r p).mono fun x st1 p1 v F1 L1 H1 e1 s1 d1 n1 => ?_⟩
  obtain ⟨d, gg⟩ := x
  cases d <;> cases gg <;> first
    | exact p1.elim
    | skip
  rename_i xs
  obtain ⟨a, rfl, h1, h2, h3⟩ := d1
  have nn := n1 rfl a rfl
  have p1 : PostS K W z F0 L0 H0 F L D (.ok (.nx (ρ.set i (.val (.ref st1.length)))) (st1 ++ [.lst xs])) := p1
  have pre : Pre L1 (L1 ++ [a]) := fun n b q => by
    rw [List.getElem?_append_left (List.getElem?_eq_some_iff.mp q).1]; exact q
  have e2 : Ext F L H F1 (L1 ++ [a]) H1 := ⟨e1.ff, e1.fh, e1.new, e1.kp, e1.gr, fun n b q => pre n b (e1.pre n b q), fun b hb => by
    rcases List.mem_append.mp hb with hb | hb
    · exact e1.nw b hb
    · rw [List.mem_singleton.mp hb]; exact .inr nn.1⟩
  have s2 : StOk K F1 (L1 ++ [a]) H1 (st1 ++ [.lst xs]) := by
    refine ⟨by rw [List.length_append, List.length_append, s1.len]; rfl, fun i j b q1 q2 => ?_, fun n b d q1 q2 => ?_⟩
    · have key : ∀ {m : Nat} {b : Addr}, (L1 ++ [a])[m]? = some b → L1[m]? = some b ∨ (m = L1.length ∧ b = a) := fun {m b} q => by
        by_cases hm : m < L1.length
        · rw [List.getElem?_append_left hm] at q; exact .inl q
        · rw [List.getElem?_append_right (by omega)] at q
          have := List.getElem?_eq_some_iff.mp q
          obtain ⟨z1, z2⟩ := this
          simp only [List.length_singleton] at z1
          have hm0 : m - L1.length = 0 := by omega
          simp only [hm0, List.getElem_cons_zero] at z2
          exact .inr ⟨by omega, z2.symm⟩
      rcases key q1 with k1 | ⟨k1, k2⟩ <;> rcases key q2 with k3 | ⟨k3, k4⟩
      · exact s1.nd i j b k1 k3
      · exact absurd (List.mem_of_getElem? k1) (by rw [k4]; exact h2)
      · exact absurd (List.mem_of_getElem? k3) (by rw [k2]; exact h2)
      · rw [k1, k3]
    · by_cases hm : n < L1.length
      · rw [List.getElem?_append_left hm] at q1
        rw [List.getElem?_append_left (by rw [← s1.len]; exact hm)] at q2
        obtain ⟨k1, k2⟩ := s1.at_ n b d q1 q2
        exact ⟨k1, k2.mono (Same.refl _) pre (fun _ _ q _ => q) fun _ q _ => q⟩
      · rw [List.getElem?_append_right (by omega)] at q1
        rw [List.getElem?_append_right (by rw [← s1.len]; omega)] at q2
        obtain ⟨z1, z2⟩ := List.getElem?_eq_some_iff.mp q1
        simp only [List.length_singleton] at z1
        have hm0 : n - L1.length = 0 := by omega
        rw [hm0] at q1
        rw [← s1.len, hm0] at q2
        cases q1; cases q2
        exact ⟨h1, h3.mono (Same.refl _) pre (fun _ _ q _ => q) fun _ q _ => q⟩
  refine p1 _ _ _ _ ((r.step e2 s2).setVal ?_ i) e2.ff e2.pre
  unfold Den
  exact ⟨a, by rw [← s1.len, List.getElem?_append_right (Nat.le_refl _), Nat.sub_self]; rfl, rfl⟩
theorem snd_ref {i : Nat} {x : Str} {pos' : Pos} (hN : X.N.Nodup) (he : PE X e (tE X.K W f)) (hi : X.N[i]? = some x := by rfl) (hx : Loc X.env.scope x := by first | exact Or.inl rfl | exact Or.inr rfl) (hs : swapsWith e (some (.Name x pos')) pos.line X.env = pure false := by rfl)
    (hf : X.fn x = true ∨ X.env.scope.names.lookup x = some .local := by first | exact .inl rfl | exact .inr rfl) : PS X (.Assign [.Name x pos'] e pos) (tS X.K W (sRef i f)) := (ps_set hN hi hx he hs hf).imp fun D σ H q => ref_tE q
theorem snd_refLc {i : Nat} {y : Str} {py : Pos} {elt tg iter : Expr} {ifs : List Expr} {scope : Scope} {own : List (Str × Nat)} {spos : Pos} {it : SI} {g : SG} {t : ST} {e : SE} {is : List Nat} (hc : X.calm = true) (hN : X.N.Nodup) (ok : BlkOk X.N X.env.scope scope own) (hs : ∀ j ∈ is, j ∈ own.map (·.2)) (hi : PI X tg iter (tI X.K W it))
    (hg : ∀ (s : Shared) (H : Hp) (C : Addr) (cl : List (Str × Addr)) (fp : List Addr), PG (X.blk s H scope (compEnvC scope cl C X.env) fp) tg (tG X.K is g)) (ht : ∀ (s : Shared) (H : Hp) (C : Addr) (cl : List (Str × Addr)) (fp : List Addr), PTs (X.blk s H scope (compEnvC scope cl C X.env) fp) ifs (tT X.K W0 t))
    (he : ∀ (s : Shared) (H : Hp) (C : Addr) (cl : List (Str × Addr)) (fp : List Addr), PE (X.blk s H scope (compEnvC scope cl C X.env) fp) elt (tE X.K W0 e)) (hy : X.N[i]? = some y := by rfl) (hyl : X.env.scope.names.lookup y = some .local := by rfl)
    (hsw : swapsWith (.ListComp elt [⟨tg, iter, ifs, 0⟩] scope pos) (some (.Name y py)) spos.line X.env = pure true := by exact sw_true rfl rfl rfl (by decide +kernel)) (hf : ∀ x, foldedSetIterable iter X.env x = pure x := by intro _; rfl) :
    PS X (.Assign [.Name y py] (.ListComp elt [⟨tg, iter, ifs, 0⟩] scope pos) spos) (tS X.K W (sRef i (eComp it g t e (own.map (·.2))))) := (ps_setLc hc hN hy hyl hsw hi ok hg ht (fun s H C cl fp => pe_fzd (he s H C cl fp)) hf).imp fun D σ H q => lc_tE hs (ref_tE q)
/-- targets = e, of any form -/
theorem snd_asgG {tg : Expr} {is : List Nat} {g : SG} (he : PE X e (tE X.K W f)) (hg : PG X tg (tG X.K is g)) (hs : swapsWithSole [tg] e pos.line X.env = pure false := by rfl) (hw : swappedStores [tg] e X.env = pure none := by rfl) (h1 : (assignEach [tg] X.env).map (·.2) = [assign tg X.env] := by rfl) :
    PS X (.Assign [tg] e pos) (tS X.K W (sAsgG g f)) := (ps_asg (pe_fzd he) hg hs hw h1).imp fun D σ H q => by
  obtain ⟨z, F0, L0, H0, ρ, st, F, L, r, p⟩ := q
  refine ⟨z, F0, L0, H0, ρ, st, F, L, r, (PostS.of r p).mono fun d st1 p1 v F1 L1 H1 e1 s1 d1 => ?_⟩
  cases hg : g d ρ with
  | none => rw [hg] at p1; exact p1.elim
  | some ρ1 =>
    rw [hg] at p1
    exact ⟨z, F0, L0, H0, ρ, st1, F1, L1, d, r.step e1 s1, d1, ρ1, hg, fun σ' r' _ => p1 σ' H1 F1 L1 r' e1.ff e1.pre⟩
theorem snd_par {i j : Nat} {x y : Str} {ea eb : Expr} {px py pt : Pos} {kt k2 pt2} (hc : X.calm = true) (hN : X.N.Nodup) (ha : PE X ea (tE X.K W f)) (hb : PE X eb (tE X.K W g)) (hi : X.N[i]? = some x := by rfl) (hj : X.N[j]? = some y := by rfl) (hij : i ≠ j := by decide) (hx : X.env.scope.names.lookup x = some .local := by rfl) (hy : X.env.scope.names.lookup y = some .local := by rfl)
    (hw : swappedStores [.Tuple [.Name x px, .Name y py] kt pt] (.Tuple [ea, eb] k2 pt2) X.env = pure (some [x, y]) := by rfl) (hs : swapsWithSole [.Tuple [.Name x px, .Name y py] kt pt] (.Tuple [ea, eb] k2 pt2) pos.line X.env = pure false := by rfl) (hst : starEach [ea, eb] X.env = (false, eval ea X.env) :: starEach [eb] X.env := by rfl) (hst2 : starEach [eb] X.env = (false, eval eb X.env) :: starEach [] X.env := by rfl) :
    PS X (.Assign [.Tuple [.Name x px, .Name y py] kt pt] (.Tuple [ea, eb] k2 pt2) pos) (tS X.K W (sPar i j f g)) :=
  (ps_par hc hN hi hj hij hx hy (pa_cons (pe_fzd ha) (pa_cons (pe_fzd hb) pa_nil hst2) hst) hw hs).imp fun D σ H q => by
    obtain ⟨z, F0, L0, H0, ρ, st, F, L, r, p⟩ := q
    refine ⟨z, F0, L0, H0, ρ, st, F, L, r, (PostS.of r p).mono fun d st1 p1 v F1 L1 H1 e1 s1 d1 => ?_⟩
    have r1 := r.step e1 s1
    refine ⟨z, F0, L0, H0, ρ, st1, F1, L1, r1, (PostS.of r1 (PostS.step p1 e1.ff e1.pre)).mono fun d' st2 p2 w F2 L2 H2 e2 s2 d2 => ?_⟩
    exact ⟨v, w, rfl, p2 _ _ _ _ (((r1.step e2 s2).setVal (e2.den d1) i).setVal d2 j) e2.ff e2.pre⟩
theorem snd_expr (he : PE X e (tE X.K W f)) (hs : swapsWith e none pos.line X.env = pure false := by rfl) : PS X (.Expr e pos) (tS X.K W (sDrop f)) := (ps_expr he hs).imp fun D σ H q => by
  obtain ⟨z, F0, L0, H0, ρ, st, F, L, r, p⟩ := q
  exact ⟨z, F0, L0, H0, ρ, st, F, L, r, (PostS.of r p).mono fun d st1 p1 v F1 L1 H1 e1 s1 d1 n1 => p1 _ _ _ _ (r.step e1 s1) e1.ff e1.pre⟩
theorem snd_ret (he : PE X e (tE X.K W f)) : PS X (.Return (some e) pos) (tS X.K W (sRet f)) := (ps_ret he).imp fun D σ H q => by
  obtain ⟨z, F0, L0, H0, ρ, st, F, L, r, p⟩ := q
  refine ⟨z, F0, L0, H0, ρ, st, F, L, r, (PostS.of r p).mono fun d st1 p1 v F1 L1 H1 e1 s1 d1 n1 => ?_⟩
  obtain ⟨d, gg⟩ := d
  cases gg with
  | bw => exact p1.elim
  | fz => exact p1 v H1 F1 L1 (r.ext.trans e1) s1 d1 fun z => nomatch z
  | fr => exact p1 v H1 F1 L1 (r.ext.trans e1) s1 d1 fun _ a q => ⟨r.ext.gr _ (n1 rfl a q).1, fun C dx fs q' => r.ext.gr _ ((n1 rfl a q).2 C dx fs q')⟩
theorem snd_retV (i : Nat) {x : Str} {pos' : Pos} (hN : X.N[i]? = some x := by rfl) (hv : Vis X.env.scope x := by first | exact Or.inl rfl | exact Or.inr (Or.inl rfl) | exact Or.inr (Or.inr rfl)) (hd : (x == ("__debug__" : Str)) = false := by decide)
    (hcd : (x == ("__classdict__" : Str)) = false := by decide) : PS X (.Return (some (.Name x pos')) pos) (tS X.K W (sRetV i)) := (ps_ret (pe_var hN hv hd hcd)).imp fun D σ H q => by
  obtain ⟨z, F0, L0, H0, ρ, st, F, L, r, p⟩ := q
  unfold sRetV at p
  cases hs : ρ[i]? with
  | none => rw [hs] at p; exact p.elim
  | some s =>
    have hi : i < σ.length := by rw [← r.len]; exact (List.getElem?_eq_some_iff.mp hs).1
    have hr := r.sl i s _ hs (List.getElem?_eq_getElem hi)
    rw [hs] at p
    cases s with
    | un => exact p.elim
    | val d =>
      obtain ⟨v, e1, e2⟩ := hr
      exact ⟨v, by rw [List.getElem?_eq_getElem hi, e1], p v H F L r.ext r.sto e2 fun z => nomatch z⟩
    | own d =>
      obtain ⟨a, e1, h1, h2, h3⟩ := hr
      have hσ : σ[i]? = some (some (.ref a)) := by rw [List.getElem?_eq_getElem hi, e1]
      exact ⟨.ref a, hσ, p _ H F L r.ext r.sto ⟨a, rfl, h1, h2, h3⟩ fun _ b q => by cases q; exact r.nw i d a hs hσ⟩
theorem snd_retN : PS X (.Return none pos) (tS X.K W sRetN) := ps_retN.imp fun D σ H q => by
  obtain ⟨z, F0, L0, H0, ρ, st, F, L, r, p⟩ := q
  exact p _ _ _ _ r.ext r.sto (show Den X.K F L .non .non by unfold Den; rfl) fun z => nomatch z
theorem snd_sIf {sa sb : List Stmt} (hc : PT X c (tT X.K W t)) (ha : PSs X sa (tS X.K W a)) (hb : PSs X sb (tS X.K W b)) : PS X (.If c sa sb pos) (tS X.K W (sIf t a b)) := (ps_if hc ha hb).imp fun D σ H q => by
  obtain ⟨z, F0, L0, H0, ρ, st, F, L, r, p⟩ := q
  refine ⟨z, F0, L0, H0, ρ, st, F, L, r, (PostS.of r p).mono fun d st1 p1 F1 L1 H1 e1 s1 => ?_⟩
  cases d with
  | true => exact ⟨z, F0, L0, H0, ρ, st1, F1, L1, r.step e1 s1, PostS.step p1 e1.ff e1.pre⟩
  | false => exact ⟨z, F0, L0, H0, ρ, st1, F1, L1, r.step e1 s1, PostS.step p1 e1.ff e1.pre⟩
theorem snd_pass : PS X (.Pass pos) (tS X.K W sNext) := ps_pass.imp fun D σ H q => by
  obtain ⟨z, F0, L0, H0, ρ, st, F, L, r, p⟩ := q
  exact p σ H F L r (Same.refl F) (Pre.refl L)
theorem snd_bk : PS X (.Break pos) (tS X.K W sBk) := ps_break.imp fun D σ H q => by
  obtain ⟨z, F0, L0, H0, ρ, st, F, L, r, p⟩ := q
  exact p σ H F L r (Same.refl F) (Pre.refl L)
theorem snd_ct : PS X (.Continue pos) (tS X.K W sCt) := ps_continue.imp fun D σ H q => by
  obtain ⟨z, F0, L0, H0, ρ, st, F, L, r, p⟩ := q
  exact p σ H F L r (Same.refl F) (Pre.refl L)
theorem snd_noS : PS X s1 (tS X.K W sNo) := ps_never.imp fun D σ H q => by
  obtain ⟨z, F0, L0, H0, ρ, st, F, L, r, p⟩ := q
  exact p
theorem snd_noSs : PSs X ss (tS X.K W sNo) := pss_never.imp fun D σ H q => by
  obtain ⟨z, F0, L0, H0, ρ, st, F, L, r, p⟩ := q
  exact p
/-- for -/
theorem forL_gd {K : PySem.W.Frag} {W : WX} {z : Addr} {F0 F H0 : Hp} {L0 L : List Addr} {E : Ends} {gs : Gd} {g : SG} {b : SS} {ds : List D} {ρ : En} {st : List D} (h : PostS K W z F0 L0 H0 F L E (forL gs g b ds ρ st)) : gdOk gs st = true := by
  by_cases q : gdOk gs st = true
  · exact q
  · cases ds with
    | nil =>
      unfold forL at h
      rw [if_neg q] at h; exact h.elim
    | cons d ds =>
      unfold forL at h
      rw [if_neg q] at h; exact h.elim
theorem snd_for {tg iter : Expr} {body : List Stmt} {it : SI} {g : SG} {is : List Nat} (hp : PassesOwn (model X.prog X.w) X.A X.env X.xe) (hc : X.calm = true) (hi : PI X tg iter (tI X.K W it)) (hg : PG X tg (tG X.K is g)) (hb : PSs X body (tS X.K W b)) (hs : ∀ x, foldedSetIterable iter X.env x = pure x := by intro _; rfl) :
    PS X (.For tg iter body [] pos) (tS X.K W (sFor it g b)) := (ps_for hp hc hi hg hb hs).imp fun D σ H q => by
  obtain ⟨z, F0, L0, H0, ρ, st, F, L, r, p⟩ := q
  refine ⟨z, F0, L0, H0, ρ, st, F, L, r, (PostS.of r p).mono fun ds st1 p1 J F1 L1 H1 e1 s1 wd => ?_⟩
  obtain ⟨ds, gs⟩ := ds
  dsimp only at p1 wd
  obtain ⟨G, Y, wk, hG, hY⟩ := wd
  refine for_it wk (fun i σ2 H2 => ∃ ρ2 st2 F2 L2, Rel X.K z F0 L0 H0 ρ2 st2 F2 L2 σ2 H2 ∧ Same F1 F2 ∧ Pre L1 L2 ∧ PostS X.K W z F0 L0 H0 F2 L2 D (forL gs g b (ds.drop i) ρ2 st2))
    ⟨ρ, st1, F1, L1, r.step e1 s1, Same.refl _, Pre.refl _, PostS.step p1 e1.ff e1.pre⟩ (fun i σ2 H2 _ hP => ?_) (fun i x σ2 H2 H3 hi hP hy => ?_) (fun σ2 H2 hP => ?_)
  · obtain ⟨ρ2, st2, F2, L2, r2, k1, k2, k3⟩ := hP
    exact hG F2 L2 H2 st2 k1 k2 r2.ext.fh r2.sto (forL_gd k3)
  · obtain ⟨ρ2, st2, F2, L2, r2, k1, k2, k3⟩ := hP
    have gk := forL_gd k3
    obtain ⟨F3, m1, m2, m3⟩ := hY i H2 x H3 _ F2 L2 st2 k1 k2 r2.ext.fh r2.sto gk hy (List.getElem?_eq_getElem hi)
    rw [List.drop_eq_getElem_cons hi] at k3
    unfold forL at k3
    rw [if_pos gk] at k3
    have r3 := r2.step m1 m2
    cases hgg : g ds[i] ρ2 with
    | none => rw [hgg] at k3; exact k3.elim
    | some ρ3 =>
      rw [hgg] at k3
      refine ⟨z, F0, L0, H0, ρ2, st2, F3, L2, ds[i], r3, m3, ρ3, hgg, fun σ3 r4 _ => ?_⟩
      obtain ⟨fl, st3, he, k4⟩ := PostS.bind k3
      refine ⟨z, F0, L0, H0, ρ3, st2, F3, L2, r4, ?_⟩
      rw [he]
      cases fl with
      | nx ρ4 => exact fun σ' H' F' L' r' s' p' => ⟨ρ4, st3, F', L', r', (k1.trans m1.ff).trans s', fun n a q => p' n a (k2 n a q), PostS.step k4 (m1.ff.trans s') p'⟩
      | ct ρ4 => exact fun σ' H' F' L' r' s' p' => ⟨ρ4, st3, F', L', r', (k1.trans m1.ff).trans s', fun n a q => p' n a (k2 n a q), PostS.step k4 (m1.ff.trans s') p'⟩
      | bk ρ4 => exact fun σ' H' F' L' r' s' p' => k4 σ' H' F' L' r' (m1.ff.trans s') p'
      | rt d gg => exact k4
      | xx c ks dd ρ4 => exact k4
  · obtain ⟨ρ2, st2, F2, L2, r2, k1, k2, k3⟩ := hP
    have gk := forL_gd k3
    rw [List.drop_of_length_le (Nat.le_refl _)] at k3
    unfold forL at k3
    rw [if_pos gk] at k3
    exact k3 σ2 H2 F2 L2 r2 (Same.refl _) (Pre.refl _)
end
end Q

set_option Elab.async false
set_option linter.all false
set_option maxRecDepth 100000
set_option maxHeartbeats 1000000
/-! Q10: lists changed, defs, instances. -/
namespace Q
open PySem PySem.Spec PyProof.Rows L2 RZ RT
section
variable {z : Addr} {K : PySem.W.Frag} {F F' F0 H H' H0 : Hp} {L L' L0 : List Addr} {st st' : List D} {ρ : En} {σ : L2.St}
theorem setSlot {l : List Sl} {i j : Nat} {x s : Sl} (h : (l.set i x)[j]? = some s) : (i = j ∧ s = x) ∨ (i ≠ j ∧ l[j]? = some s) := by
  rw [List.getElem?_set] at h
  by_cases e : i = j
  · rw [if_pos e] at h
    split at h
    · cases h; exact .inl ⟨e, rfl⟩
    · cases h
  · rw [if_neg e] at h; exact .inr ⟨e, h⟩
/-- a thing of a name's own is changed: at a, and nothing else -/
theorem Rel.putOwn (r : Rel K z F0 L0 H0 ρ st F L σ H) {i : Nat} {d d' : D} {a : Addr} {o : HO} (hs : ρ[i]? = some (.own d)) (hσ : σ[i]? = some (some (.ref a))) (ho : OwnAt K F L (upd H a o) a d') (hn : ∀ C dx fs, o = .ins C dx fs → ∃ fs', H a = some (.ins C dx fs')) (hp : ∀ c ks ds, d' = .ins c ks ds → ∃ c ks ds, d = .ins c ks ds) : Rel K z F0 L0 H0 (ρ.set i (.own d')) st F L σ (upd H a o) := by
  obtain ⟨k1, k2, k3, k4⟩ := r.own_ne hs hσ
  have nw := r.nw i d a hs hσ
  have keep : ∀ b, b ≠ a → ∀ {dd : D}, OwnAt K F L H b dd → OwnAt K F L (upd H a o) b dd := fun b nb dd h => h.mono (Same.refl F) (fun _ _ q => q) (fun c x q rr => by
    have nc : c ≠ a := by
      rcases rr with rfl | rfl
      · exact nb
      · exact fun z => k4.noown (by rw [← z]; exact q)
    rw [upd_ne nc]; exact q) fun _ q _ => q
  refine ⟨r.ext.updNew nw.1 k2, r.sto.updOwn k3 (fun b => k4.noown), by rw [List.length_set, r.len], fun j s o' h1 h2 => ?_, fun j k b dj dk h1 h2 h3 h4 => ?_, fun j dj b h1 h2 => ?_, fun c ks ds h1 => ?_⟩
  rotate_left 3
  · rcases setSlot h1 with ⟨rfl, q⟩ | ⟨_, h1⟩
    · obtain ⟨c', ks', ds', rfl⟩ := hp c ks ds (Sl.own.inj q).symm
      exact r.pin _ _ _ hs
    · exact r.pin c ks ds h1
  · rcases setSlot h1 with ⟨rfl, rfl⟩ | ⟨hij, h1⟩
    · rw [hσ] at h2; cases h2
      exact ⟨a, rfl, k2, k3, ho⟩
    · have hr := r.sl j s o' h1 h2
      cases s with
      | un => trivial
      | val dd => exact hr
      | own dd =>
        obtain ⟨b, q1, q2, q3, q4⟩ := hr
        subst q1
        have nb : b ≠ a := fun z => hij (r.ap i j a d dd hs h1 hσ (by rw [← z]; exact h2))
        exact ⟨b, rfl, q2, q3, keep b nb q4⟩
  · have own : ∀ {j : Nat} {dj : D}, (ρ.set i (Sl.own d'))[j]? = some (.own dj) → ∃ dj', ρ[j]? = some (.own dj') := fun {j dj} h1 => by
      rcases setSlot h1 with ⟨rfl, _⟩ | ⟨_, h1⟩
      · exact ⟨d, hs⟩
      · exact ⟨dj, h1⟩
    obtain ⟨d1, q1⟩ := own h1
    obtain ⟨d2, q2⟩ := own h2
    exact r.ap j k b d1 d2 q1 q2 h3 h4
  · rcases setSlot h1 with ⟨rfl, _⟩ | ⟨hij, h1⟩
    · rw [hσ] at h2; cases h2
      refine ⟨nw.1, fun C dx fs q => ?_⟩
      rw [upd_same] at q
      obtain ⟨fs', h⟩ := hn C dx fs (Option.some.inj q)
      exact nw.2 C dx fs' h
    · have n2 := r.nw j dj b h1 h2
      have nb : b ≠ a := fun z => hij (r.ap i j a d dj hs h1 hσ (by rw [← z]; exact h2))
      refine ⟨n2.1, fun C dx fs q => ?_⟩
      rw [upd_ne nb] at q
      exact n2.2 C dx fs q
/-- a thing of the store is changed -/
theorem Rel.putSto (r : Rel K z F0 L0 H0 ρ st F L σ H) {n : Nat} {d d' : D} {a : Addr} {o : HO} (hl : L[n]? = some a) (hs : st[n]? = some d) (ho : OwnAt K F L (upd H a o) a d') : Rel K z F0 L0 H0 ρ (st.set n d') F L σ (upd H a o) := by
  obtain ⟨k1, k2⟩ := r.sto.at_ n a d hl hs
  have ha : a ∈ L := List.mem_of_getElem? hl
  have keep : ∀ b, b ≠ a → ∀ {dd : D}, OwnAt K F L H b dd → OwnAt K F L (upd H a o) b dd := fun b nb dd h => h.mono (Same.refl F) (fun _ _ q => q) (fun c x q rr => by
    have nc : c ≠ a := by
      rcases rr with rfl | rfl
      · exact nb
      · exact fun z => k2.noown (by rw [← z]; exact q)
    rw [upd_ne nc]; exact q) fun _ q _ => q
  refine ⟨⟨r.ext.ff, fun b x q => ?_, r.ext.new, fun b x q hb => ?_, fun b q => ?_, r.ext.pre, r.ext.nw⟩, ⟨by rw [List.length_set, r.sto.len], r.sto.nd, fun m b dd h1 h2 => ?_⟩, r.len, fun j s o' h1 h2 => ?_, r.ap, fun j dj b h1 h2 => ?_, r.pin⟩
  · rw [upd_ne (ne_of_none q k1)]; exact r.ext.fh b x q
  · have nb : b ≠ a := fun z => by
      rcases r.ext.nw a ha with w | w
      · exact hb (by rw [z]; exact w)
      · rw [z, w] at q; cases q
    rw [upd_ne nb]; exact r.ext.kp b x q hb
  · by_cases hb : b = a
    · subst hb; rw [upd_same] at q; cases q
    · rw [upd_ne hb] at q; exact r.ext.gr b q
  · by_cases hm : n = m
    · subst hm
      rw [hl] at h1; cases h1
      rw [List.getElem?_set_self (List.getElem?_eq_some_iff.mp hs).1] at h2
      cases h2
      exact ⟨k1, ho⟩
    · rw [List.getElem?_set_ne hm] at h2
      obtain ⟨q1, q2⟩ := r.sto.at_ m b dd h1 h2
      exact ⟨q1, keep b (fun z => hm (r.sto.nd n m a hl (by rw [← z]; exact h1))) q2⟩
  · have hr := r.sl j s o' h1 h2
    cases s with
    | un => trivial
    | val dd => exact hr
    | own dd =>
      obtain ⟨b, q1, q2, q3, q4⟩ := hr
      exact ⟨b, q1, q2, q3, keep b (fun z => q3 (by rw [z]; exact ha)) q4⟩
  · have n2 := r.nw j dj b h1 h2
    obtain ⟨_, _, q3, _⟩ := r.own_ne h1 h2
    refine ⟨n2.1, fun C dx fs q => ?_⟩
    rw [upd_ne (fun z => q3 (by rw [z]; exact ha))] at q
    exact n2.2 C dx fs q
/-- where a name's list stands, and what happens if it is changed there -/
theorem Rel.list (r : Rel K z F0 L0 H0 ρ st F L σ H) {i : Nat} {h : List D → Option (List D)} {W : WX} {E : Ends} (p : PostS K W z F0 L0 H0 F L E (putL ρ st i h)) :
    ∃ a xs vs ys, σ[i]? = some (some (.ref a)) ∧ H a = some (.lst vs) ∧ DenL K F L xs vs ∧ h xs = some ys ∧ ∀ ws, DenL K F L ys ws → E.nx σ (upd H a (.lst ws)) := by
  unfold putL at p
  cases hs : ρ[i]? with
  | none => rw [hs] at p; exact p.elim
  | some s =>
    have hi : i < σ.length := by rw [← r.len]; exact (List.getElem?_eq_some_iff.mp hs).1
    have hr := r.sl i s _ hs (List.getElem?_eq_getElem hi)
    rw [hs] at p
    cases s with
    | un => exact p.elim
    | own d =>
      cases d with
      | lst xs =>
        obtain ⟨a, e1, h1, h2, vs, h3, h4⟩ := hr
        have hσ : σ[i]? = some (some (.ref a)) := by rw [List.getElem?_eq_getElem hi, e1]
        cases hx : h xs with
        | none =>
          have p : PostS K W z F0 L0 H0 F L E (match h xs with
            | some ys => .ok (.nx (ρ.set i (.own (.lst ys)))) st
            | none => .no) := p
          rw [hx] at p; exact p.elim
        | some ys =>
          have p : PostS K W z F0 L0 H0 F L E (match h xs with
            | some ys => .ok (.nx (ρ.set i (.own (.lst ys)))) st
            | none => .no) := p
          rw [hx] at p
          refine ⟨a, xs, vs, ys, hσ, h3, h4, hx, fun ws hw => ?_⟩
          exact p _ _ _ _ (r.putOwn hs hσ ⟨ws, upd_same, hw⟩ (fun C dx fs z => by cases z) fun c ks ds z => by cases z) (Same.refl F) (Pre.refl L)
      | _ => exact p.elim
    | val d =>
      cases d with
      | ref n =>
        obtain ⟨v, e1, e2⟩ := hr
        unfold Den at e2
        obtain ⟨a, hl, rfl⟩ := e2
        have hσ : σ[i]? = some (some (.ref a)) := by rw [List.getElem?_eq_getElem hi, e1]
        have hn : n < st.length := by rw [← r.sto.len]; exact (List.getElem?_eq_some_iff.mp hl).1
        have hsn := List.getElem?_eq_getElem hn
        have p : PostS K W z F0 L0 H0 F L E (match st[n]? with
          | some (.lst xs) => match h xs with
            | some ys => .ok (.nx ρ) (st.set n (.lst ys))
            | none => .no
          | _ => .no) := p
        rw [hsn] at p
        cases hd : st[n] with
        | lst xs =>
          rw [hd] at p hsn
          obtain ⟨k1, vs, k2, k3⟩ := r.sto.at_ n a _ hl hsn
          cases hx : h xs with
          | none =>
            have p : PostS K W z F0 L0 H0 F L E (match h xs with
              | some ys => .ok (.nx ρ) (st.set n (.lst ys))
              | none => .no) := p
            rw [hx] at p; exact p.elim
          | some ys =>
            have p : PostS K W z F0 L0 H0 F L E (match h xs with
              | some ys => .ok (.nx ρ) (st.set n (.lst ys))
              | none => .no) := p
            rw [hx] at p
            exact ⟨a, xs, vs, ys, hσ, k2, k3, hx, fun ws hw => p _ _ _ _ (r.putSto hl hsn ⟨ws, upd_same, hw⟩) (Same.refl F) (Pre.refl L)⟩
        | _ => rw [hd] at p; exact p.elim
      | _ => exact p.elim
end
section
variable {X : Cx} {W : WX} {s1 : Stmt} {ss : List Stmt} {a b : SS} {f g k : SE} {t : ST} {e c : Expr} {pos pos' : Pos}
theorem list_now {K : PySem.W.Frag} {F0 H0 F H : Hp} {L0 L : List Addr} {ρ : En} {st : List D} {σ : L2.St} (r : Rel K z F0 L0 H0 ρ st F L σ H) {i : Nat} (h : isL ρ st i = true) : ∃ a vs, σ[i]? = some (some (.ref a)) ∧ H a = some (.lst vs) := by
  unfold isL at h
  cases hs : ρ[i]? with
  | none => rw [hs] at h; cases h
  | some s =>
    have hi : i < σ.length := by rw [← r.len]; exact (List.getElem?_eq_some_iff.mp hs).1
    have hr := r.sl i s _ hs (List.getElem?_eq_getElem hi)
    rw [hs] at h
    cases s with
    | un => cases h
    | own d =>
      cases d with
      | lst xs =>
        obtain ⟨a, e1, h1, h2, vs, h3, h4⟩ := hr
        exact ⟨a, vs, by rw [List.getElem?_eq_getElem hi, e1], h3⟩
      | _ => cases h
    | val d =>
      cases d with
      | ref n =>
        obtain ⟨v, e1, e2⟩ := hr
        unfold Den at e2
        obtain ⟨a, hl', rfl⟩ := e2
        have h : (match st[n]? with | some (.lst _) => true | _ => false) = true := h
        cases hx : st[n]? with
        | none => rw [hx] at h; cases h
        | some d =>
          rw [hx] at h
          cases d with
          | lst xs =>
            obtain ⟨k1, vs, k2, k3⟩ := r.sto.at_ n a _ hl' hx
            exact ⟨a, vs, by rw [List.getElem?_eq_getElem hi, e1], k2⟩
          | _ => cases h
      | _ => cases h
variable {ap : Pos} {pv : Pos}
theorem snd_app (i : Nat) {x : Str} (he : PE X e (tE X.K W f)) (hN : X.N[i]? = some x := by rfl) (hv : Vis X.env.scope x := by first | exact Or.inl rfl | exact Or.inr (Or.inl rfl) | exact Or.inr (Or.inr rfl)) (hd : (x == ("__debug__" : Str)) = false := by decide)
    (hcd : (x == ("__classdict__" : Str)) = false := by decide)
    (hfew : ((backTo pos' (starEach [e] X.env)).all (fun x => !x.1) && (backToKw pos' (keywordEach [] X.env)).all (fun x => x.1.isSome)
      && decide ([e].length + ([] : List Keyword).length + (if ([] : List Keyword).isEmpty then 0 else 1) < 30)) = true := by rfl)
    (hline : (ap.endLine == pos'.line) = true := by rfl) (hst : starEach [e] X.env = (false, eval e X.env) :: starEach [] X.env := by rfl) (hpl : (backTo pos' (starEach [] X.env)).any (·.1) = false := by rfl)
    (hs : swapsWith (.Call (.Attribute (.Name x pv) "append" ap) [e] [] pos') none pos.line X.env = pure false := by rfl) :
    PS X (.Expr (.Call (.Attribute (.Name x pv) "append" ap) [e] [] pos') pos) (tS X.K W (sApp i f)) :=
  (ps_expr (pe_bm PySem.F.plainAttrs_list PySem.F.slot_list_append PySem.F.type_list_append mt_append (pe_var hN hv hd hcd) (pa_cons (pe_fzd he) pa_nil hst) (by rfl) hfew hline hst hpl) hs).imp fun D σ H q => by
    obtain ⟨z, F0, L0, H0, ρ, st, F, L, r, p⟩ := q
    unfold sApp at p
    by_cases hl : isL ρ st i = true
    · rw [if_pos hl] at p
      obtain ⟨a, vs, hσ, hH⟩ := list_now r hl
      refine ⟨.ref a, hσ, .inl ⟨rfl, vs, SqL.of hH⟩, z, F0, L0, H0, ρ, st, F, L, r, (PostS.of r p).mono fun d st1 p1 v F1 L1 H1 e1 s1 d1 => ?_⟩
      obtain ⟨a', xs, vs', ys, q1, q2, q3, q4, q5⟩ := (r.step e1 s1).list (PostS.step p1 e1.ff e1.pre)
      rw [hσ] at q1
      cases q1
      by_cases hz : xs.length < maxLen
      · rw [if_pos hz] at q4
        cases q4
        exact ⟨a, vs', v, rfl, rfl, q2, by rw [← q3.length, ← maxLen_eq]; exact hz, q5 _ (q3.append (.cons d1 .nil))⟩
      · rw [if_neg hz] at q4; cases q4
    · rw [if_neg hl] at p; exact p.elim
theorem snd_put (i : Nat) {x : Str} {sp : Pos} (he : PE X e (tE X.K W f)) (hc : PE X c (tE X.K W g)) (hN : X.N[i]? = some x := by rfl) (hv : Vis X.env.scope x := by first | exact Or.inl rfl | exact Or.inr (Or.inl rfl) | exact Or.inr (Or.inr rfl)) (hd : (x == ("__debug__" : Str)) = false := by decide)
    (hcd : (x == ("__classdict__" : Str)) = false := by decide)
    (ha : ∀ v, assign (.Subscript (.Name x pv) c sp) X.env v = (do
      let ov ← holding [v] (eval (.Name x pv) X.env)
      let iv ← holding [v, ov] (eval c X.env)
      standAt sp
      holding [v, ov, iv] (setItem ov iv v)
      release [v, ov, iv] []) := by intro _; rfl)
    (hs : swapsWithSole [.Subscript (.Name x pv) c sp] e pos.line X.env = pure false := by rfl) (hw : swappedStores [.Subscript (.Name x pv) c sp] e X.env = pure none := by rfl)
    (h1 : (assignEach [.Subscript (.Name x pv) c sp] X.env).map (·.2) = [assign (.Subscript (.Name x pv) c sp) X.env] := by rfl) :
    PS X (.Assign [.Subscript (.Name x pv) c sp] e pos) (tS X.K W (sPut i g f)) :=
  (ps_asg (pe_fzd he) (pg_sub (pe_var hN hv hd hcd) hc set_list ha) hs hw h1).imp fun D σ H q => by
    obtain ⟨z, F0, L0, H0, ρ, st, F, L, r, p⟩ := q
    unfold sPut at p
    by_cases hl : isL ρ st i = true
    · rw [if_pos hl] at p
      obtain ⟨a, vs, hσ, hH⟩ := list_now r hl
      refine ⟨z, F0, L0, H0, ρ, st, F, L, r, (PostS.of r p).mono fun d st1 p1 v F1 L1 H1 e1 s1 d1 => ?_⟩
      have r1 := r.step e1 s1
      refine ⟨.ref a, hσ, z, F0, L0, H0, ρ, st1, F1, L1, r1, (PostS.of r1 (PostS.step p1 e1.ff e1.pre)).mono fun y st2 p2 w F2 L2 H2 e2 s2 d2 _ => ?_⟩
      obtain ⟨y, gg⟩ := y
      cases y with
      | int j =>
        have hw : w = .int j := vw_rs e2.fh s2 d2
        subst hw
        obtain ⟨a', xs, vs', ys, q1, q2, q3, q4, q5⟩ := (r1.step e2 s2).list (PostS.step p2 e2.ff e2.pre)
        rw [hσ] at q1
        cases q1
        cases hn : ixN xs.length j with
        | none => rw [hn] at q4; cases q4
        | some n =>
          rw [hn] at q4
          cases q4
          exact ⟨a, vs', j, n, rfl, rfl, q2, by rw [← q3.length]; exact hn, q5 _ (q3.set (e2.den d1) n)⟩
      | _ => exact p2.elim
    · rw [if_neg hl] at p; exact p.elim
end
end Q

set_option Elab.async false
set_option linter.all false
set_option maxRecDepth 100000
set_option maxHeartbeats 1000000
/-! Q11: attributes stored, defs, classes. -/
namespace Q
open PySem PySem.Spec PyProof.Rows L2 RZ RT
section
variable {z : Addr} {K : PySem.W.Frag} {F F' F0 H H' H0 : Hp} {L L' L0 : List Addr} {st st' : List D} {ρ : En} {σ : L2.St}
theorem putF_keys (f : String) (v : V) : ∀ {ks : List String} {fs : List (Str × V)}, fs.map (·.1) = ks.map Str.ofString → (putF (Str.ofString f) v fs).map (·.1) = (atKs ks f).map Str.ofString
  | [], [], _ => rfl
  | [], _ :: _, h => by simp at h
  | _ :: _, [], h => by simp at h
  | k :: ks, (g, x) :: fs, h => by
    rw [List.map_cons, List.map_cons, List.cons.injEq] at h
    have e1 : g = Str.ofString k := h.1
    subst e1
    unfold putF atKs
    by_cases hk : k = f
    · rw [if_pos hk, if_pos (by rw [hk]), List.map_cons, List.map_cons, h.2]
    · rw [if_neg hk, if_neg (fun q => hk (ofString_inj q)), List.map_cons, List.map_cons, putF_keys f v h.2]
theorem putF_vals (f : String) {v : V} {d : D} (hd : Den K F L d v) : ∀ {ks : List String} {fs : List (Str × V)} {ds : List D}, fs.map (·.1) = ks.map Str.ofString → DenL K F L ds (fs.map (·.2)) → DenL K F L (atVs ks ds f d) ((putF (Str.ofString f) v fs).map (·.2))
  | [], [], _, _, _ => by unfold atVs putF; exact .cons hd .nil
  | [], _ :: _, _, h, _ => by simp at h
  | _ :: _, [], _, h, _ => by simp at h
  | k :: ks, (g, x) :: fs, [], _, h => by
    rw [List.map_cons] at h
    unfold DenL at h
    cases h
  | k :: ks, (g, x) :: fs, d0 :: ds, h, h2 => by
    rw [List.map_cons, List.map_cons, List.cons.injEq] at h
    have e1 : g = Str.ofString k := h.1
    subst e1
    rw [List.map_cons] at h2
    unfold DenL at h2
    obtain ⟨w, r, e2, h3, h4⟩ := h2
    obtain ⟨rfl, rfl⟩ := List.cons.inj e2
    unfold putF atVs
    by_cases hk : k = f
    · rw [if_pos hk, if_pos (by rw [hk]), List.map_cons]
      exact .cons hd h4
    · rw [if_neg hk, if_neg (fun q => hk (ofString_inj q)), List.map_cons]
      exact .cons h3 (putF_vals f hd h.2 h4)
theorem putK_mem {f k : String} : ∀ {ks : List String}, k ∈ atKs ks f → k ∈ ks ∨ k = f
  | [], h => .inr (by simpa [atKs] using h)
  | x :: ks, h => by
    unfold atKs at h
    by_cases hx : x = f
    · rw [if_pos hx] at h; exact .inl h
    · rw [if_neg hx] at h
      rcases List.mem_cons.mp h with h | h
      · exact .inl (by rw [h]; exact List.mem_cons_self)
      · rcases putK_mem h with h | h
        · exact .inl (List.mem_cons_of_mem _ h)
        · exact .inr h
/-- an instance with one attribute put -/
theorem OwnAt.putA {a : Addr} {c f : String} {ks : List String} {ds : List D} {d : D} {v : V} (h : OwnAt K F L H a (.ins c ks ds)) (hd : Den K F L d v) (hn : NoAttr K (cA K c) (Str.ofString f)) (hl : ks.length < 1000) :
    ∃ dx fs, H a = some (.ins (cA K c) dx fs) ∧ Cls K (cA K c) ∧ fs.length < 1000 ∧ OwnAt K F L (upd H a (.ins (cA K c) dx (putF (Str.ofString f) v fs))) a (.ins c (atKs ks f) (atVs ks ds f d)) := by
  obtain ⟨dx, fs, h1, h2, h3, h4, h5, h6, h7⟩ := h
  have nd : dx ≠ a := fun z => by rw [z, h1] at h2; cases h2
  have hl2 : fs.length = ks.length := by have := congrArg List.length h4; simpa using this
  exact ⟨dx, fs, h1, h5.cls, by rw [hl2]; exact hl, dx, _, upd_same, by rw [upd_ne nd]; exact h2, h3, putF_keys f v h4, h5, fun k hk => (putK_mem hk).elim (h6 k) fun e => by rw [e]; exact hn, putF_vals f hd h4 h7⟩
theorem Rel.inst (r : Rel K z F0 L0 H0 ρ st F L σ H) {i : Nat} {c f : String} {d : D} {v : V} (hd : Den K F L d v) (hn : NoAttr K (cA K c) (Str.ofString f)) {W : WX} {E : Ends} (p : PostS K W z F0 L0 H0 F L E (putI ρ st i c f d)) :
    ∃ a dx fs, σ[i]? = some (some (.ref a)) ∧ H a = some (.ins (cA K c) dx fs) ∧ Cls K (cA K c) ∧ fs.length < 1000 ∧ E.nx σ (upd H a (.ins (cA K c) dx (putF (Str.ofString f) v fs))) := by
  unfold putI at p
  cases hs : ρ[i]? with
  | none => rw [hs] at p; exact p.elim
  | some s =>
    have hi : i < σ.length := by rw [← r.len]; exact (List.getElem?_eq_some_iff.mp hs).1
    have hr := r.sl i s _ hs (List.getElem?_eq_getElem hi)
    rw [hs] at p
    cases s with
    | un => exact p.elim
    | own d0 =>
      cases d0 with
      | ins c' ks ds =>
        obtain ⟨a, e1, h1, h2, h3⟩ := hr
        have hσ : σ[i]? = some (some (.ref a)) := by rw [List.getElem?_eq_getElem hi, e1]
        have p : PostS K W z F0 L0 H0 F L E (if c' = c ∧ ks.length < 1000 then .ok (.nx (ρ.set i (.own (.ins c (atKs ks f) (atVs ks ds f d))))) st else .no) := p
        by_cases hc : c' = c ∧ ks.length < 1000
        · rw [if_pos hc] at p
          obtain ⟨rfl, hl⟩ := hc
          obtain ⟨dx, fs, q1, q2, q3, q4⟩ := h3.putA hd hn hl
          exact ⟨a, dx, fs, hσ, q1, q2, q3, p _ _ _ _ (r.putOwn hs hσ q4 (fun C dx' fs' e => by cases e; exact ⟨_, q1⟩) fun _ _ _ _ => ⟨_, _, _, rfl⟩) (Same.refl F) (Pre.refl L)⟩
        · rw [if_neg hc] at p; exact p.elim
      | _ => exact p.elim
    | val d0 =>
      cases d0 with
      | ref n =>
        obtain ⟨v', e1, e2⟩ := hr
        unfold Den at e2
        obtain ⟨a, hl, rfl⟩ := e2
        have hσ : σ[i]? = some (some (.ref a)) := by rw [List.getElem?_eq_getElem hi, e1]
        have hn' : n < st.length := by rw [← r.sto.len]; exact (List.getElem?_eq_some_iff.mp hl).1
        have hsn := List.getElem?_eq_getElem hn'
        have p : PostS K W z F0 L0 H0 F L E (match st[n]? with
          | some (.ins c' ks ds) => if c' = c ∧ ks.length < 1000 then .ok (.nx ρ) (st.set n (.ins c (atKs ks f) (atVs ks ds f d))) else .no
          | _ => .no) := p
        rw [hsn] at p
        cases hd0 : st[n] with
        | ins c' ks ds =>
          rw [hd0] at p hsn
          have p : PostS K W z F0 L0 H0 F L E (if c' = c ∧ ks.length < 1000 then .ok (.nx ρ) (st.set n (.ins c (atKs ks f) (atVs ks ds f d))) else .no) := p
          obtain ⟨k1, k2⟩ := r.sto.at_ n a _ hl hsn
          by_cases hc : c' = c ∧ ks.length < 1000
          · rw [if_pos hc] at p
            obtain ⟨rfl, hll⟩ := hc
            obtain ⟨dx, fs, q1, q2, q3, q4⟩ := k2.putA hd hn hll
            exact ⟨a, dx, fs, hσ, q1, q2, q3, p _ _ _ _ (r.putSto hl hsn q4) (Same.refl F) (Pre.refl L)⟩
          · rw [if_neg hc] at p; exact p.elim
        | _ => rw [hd0] at p; exact p.elim
      | _ => exact p.elim
/-! ### a def's entry -/
theorem enS_get {n : Nat} {ds : List D} {i : Nat} {s : Sl} (h : (enS n ds)[i]? = some s) : (∃ d, ds[i]? = some d ∧ s = .val d) ∨ s = .un := by
  unfold enS at h
  by_cases hi : i < ds.length
  · rw [List.getElem?_append_left (by rw [List.length_map]; exact hi), List.getElem?_map, List.getElem?_eq_getElem hi] at h
    cases h
    exact .inl ⟨_, List.getElem?_eq_getElem hi, rfl⟩
  · rw [List.getElem?_append_right (by rw [List.length_map]; omega), List.getElem?_replicate] at h
    split at h
    · cases h; exact .inr rfl
    · cases h
theorem start_get {N : List Str} {vs : List V} {i : Nat} {v : V} (h : vs[i]? = some v) : (start N vs)[i]? = some (some v) := by
  have hi := (List.getElem?_eq_some_iff.mp h).1
  unfold L2.start
  rw [List.getElem?_append_left (by rw [List.length_map]; exact hi), List.getElem?_map, h]
  rfl
theorem enS_len {n : Nat} {ds : List D} : (enS n ds).length = ds.length + (n - ds.length) := by
  unfold enS; simp
theorem start_len {N : List Str} {vs : List V} : (start N vs).length = vs.length + (N.length - vs.length) := by
  unfold L2.start; simp
theorem start_rel {N : List Str} {ds : List D} {vs : List V} (e : Same F H) (s : StOk K F L H st) (h : DenL K F L ds vs) : Rel K z F L H (enS N.length ds) st F L (start N vs) H := by
  have no : ∀ {i : Nat} {d : D}, (enS N.length ds)[i]? ≠ some (.own d) := fun {i d} q => by
    rcases enS_get q with ⟨_, _, q⟩ | q <;> cases q
  refine ⟨.refl e, s, by rw [enS_len, start_len, h.length], fun i s o h1 h2 => ?_, fun i j a di dj h1 => (no h1).elim, fun i d a h1 => (no h1).elim, fun c ks ds h1 => (no h1).elim⟩
  rcases enS_get h1 with ⟨d, q, rfl⟩ | rfl
  · obtain ⟨v, q1, q2⟩ := h.get q
    rw [start_get q1] at h2
    cases h2
    exact ⟨v, rfl, q2⟩
  · trivial
/-- a new instance's entry: behind its making -/
theorem made_ext (e : Same F H) (s : StOk K F L H st) {a dx : Addr} {c : String} (h1 : H a = none) (h2 : H dx = none) (h3 : dx ≠ a) (ci : InsOk K c) :
    Ext F L H F L (upd (upd H dx (.own a)) a (.ins (cA K c) dx [])) ∧ StOk K F L (upd (upd H dx (.own a)) a (.ins (cA K c) dx [])) st ∧ OwnAt K F L (upd (upd H dx (.own a)) a (.ins (cA K c) dx [])) a (.ins c [] []) ∧ F a = none ∧ a ∉ L ∧ NewR H (upd (upd H dx (.own a)) a (.ins (cA K c) dx [])) a := by
  have e1 := ext_new (L := L) (o := .own a) e h2
  have s1 := sto_new (o := .own a) e s h2
  have h1' : upd H dx (.own a) a = none := by rw [upd_ne (Ne.symm h3)]; exact h1
  refine ⟨e1.trans (ext_new e1.fh h1'), sto_new e1.fh s1 h1', ⟨dx, [], upd_same, by rw [upd_ne h3, upd_same], none_of e h2, rfl, ci, (fun k hk => by cases hk), DenL.nil⟩, none_of e h1, s.fresh h1, h1, fun C dx' fs q => ?_⟩
  rw [upd_same] at q
  cases q
  exact h2
theorem made_rel {N : List Str} {ds : List D} {vs : List V} (e : Same F H) (s : StOk K F L H st) (h : DenL K F L ds vs) {a dx : Addr} {c : String} (h1 : H a = none) (h2 : H dx = none) (h3 : dx ≠ a) (ci : InsOk K c) (hN : N ≠ []) :
    Rel K a F L H (.own (.ins c [] []) :: enS (N.length - 1) ds) st F L (start N (.ref a :: vs)) (upd (upd H dx (.own a)) a (.ins (cA K c) dx [])) := by
  obtain ⟨k1, k2, k3, k4, k5, k6⟩ := made_ext e s h1 h2 h3 ci
  have no : ∀ {i : Nat} {d : D}, (Sl.own (.ins c [] []) :: enS (N.length - 1) ds)[i]? = some (.own d) → i = 0 := fun {i d} q => by
    cases i with
    | zero => rfl
    | succ i =>
      rw [List.getElem?_cons_succ] at q
      rcases enS_get q with ⟨_, _, q⟩ | q <;> cases q
  have g0 : (start N (V.ref a :: vs))[0]? = some (some (.ref a)) := start_get rfl
  refine ⟨k1, k2, ?_, fun i s o q1 q2 => ?_, fun i j b di dj q1 q2 _ _ => (no q1).trans (no q2).symm, fun i d b q1 q2 => ?_, fun _ _ _ _ => g0⟩
  · rw [List.length_cons, enS_len, start_len, List.length_cons, h.length]
    have : 0 < N.length := List.length_pos_iff.mpr hN
    omega
  · cases i with
    | zero =>
      rw [g0] at q2
      cases q1; cases q2
      exact ⟨a, rfl, k4, k5, k3⟩
    | succ i =>
      rw [List.getElem?_cons_succ] at q1
      rcases enS_get q1 with ⟨d, q, rfl⟩ | rfl
      · obtain ⟨v, r1, r2⟩ := h.get q
        have : (start N (V.ref a :: vs))[i + 1]? = some (some v) := start_get (by rw [List.getElem?_cons_succ]; exact r1)
        rw [this] at q2
        cases q2
        exact ⟨v, rfl, r2⟩
      · trivial
  · have := no q1
    subst this
    rw [g0] at q2
    cases q2
    exact k6
/-- what a body must do for its def -/
theorem body_of {E : XK} {Q : VK} {r : R Fl} (p : Post K (fun u od _ H' => E u od H') F L H [] (endF r) (OkE K F L H Q)) : PostS K (fun cls d _ H => E cls d H) z F L H F L { nx := fun _ H' => Q .non H', rt := Q } r := by
  cases r with
  | no => exact p
  | ex _ _ _ _ => exact p
  | ok f st' =>
    cases f with
    | nx ρ' => exact fun σ' H' F' L' r' _ _ => p .non F' L' H' r'.ext r'.sto (show Den K F' L' .non .non by unfold Den; rfl) fun z => nomatch z
    | bk ρ' => exact p.elim
    | ct ρ' => exact p.elim
    | rt d g => exact fun v H' F' L' => p v F' L' H'
    | xx c ks ds ρ' => exact fun u od σ' H' F' L' r' x => p u od F' L' H' r'.ext r'.sto x
theorem body_ofI {E : XK} {Q : VK} {r : R Fl} {c : String} (p : Post K (fun u od _ H' => E u od H') F L H [] (endI c r) (OkE K F L H fun v H' => v = .ref z → Q .non H')) : PostS K (fun cls d _ H => E cls d H) z F L H F L { nx := fun _ H' => Q .non H', rt := Q } r := by
  cases r with
  | no => exact p
  | ex _ _ _ _ => exact p
  | ok f st' =>
    cases f with
    | nx ρ' =>
      intro σ' H' F' L' r' _ _
      have p : Post K (fun u od _ H' => E u od H') F L H [] (match (ρ'[0]? : Option Sl) with
        | some (.own (.ins c' ks ds)) => if c' = c then .ok (.ins c ks ds, .fr) st' else .no
        | _ => .no) (OkE K F L H fun v H' => v = .ref z → Q .non H') := p
      cases hs : ρ'[0]? with
      | none => rw [hs] at p; exact p.elim
      | some s =>
        rw [hs] at p
        cases s with
        | own d =>
          cases d with
          | ins c' ks ds =>
            have p : Post K (fun u od _ H' => E u od H') F L H [] (if c' = c then .ok (.ins c ks ds, .fr) st' else .no) (OkE K F L H fun v H' => v = .ref z → Q .non H') := p
            by_cases hc : c' = c
            · rw [if_pos hc] at p
              subst hc
              have hσ := r'.pin _ _ _ hs
              obtain ⟨b, e1, h1, h2, h3⟩ := r'.sl 0 _ _ hs hσ
              cases e1
              exact p (.ref z) F' L' H' r'.ext r'.sto ⟨z, rfl, h1, h2, h3⟩ (fun _ b q => by cases q; exact r'.nw 0 _ z hs hσ) rfl
            · rw [if_neg hc] at p; exact p.elim
          | _ => exact p.elim
        | _ => exact p.elim
    | bk ρ' => exact p.elim
    | ct ρ' => exact p.elim
    | rt d g => exact p.elim
    | xx c ks ds ρ' => exact fun u od σ' H' F' L' r' x => p u od F' L' H' r'.ext r'.sto x
end
section
variable {X : Cx} {W : WX} {s1 : Stmt} {ss : List Stmt} {a b : SS} {f g k : SE} {t : ST} {e c : Expr} {pos pos' pv : Pos}
theorem snd_attr (i : Nat) {cc y : String} {x : Str} (he : PE X e (tE X.K W f)) (hn : NoAttr X.K (cA X.K cc) (Str.ofString y)) (hN : X.N[i]? = some x := by rfl) (hv : Vis X.env.scope x := by first | exact Or.inl rfl | exact Or.inr (Or.inl rfl) | exact Or.inr (Or.inr rfl)) (hd : (x == ("__debug__" : Str)) = false := by decide)
    (hcd : (x == ("__classdict__" : Str)) = false := by decide) (hs : swapsWith e (some (.Attribute (.Name x pv) (Str.ofString y) pos')) pos.line X.env = pure false := by rfl) :
    PS X (.Assign [.Attribute (.Name x pv) (Str.ofString y) pos'] e pos) (tS X.K W (sAttr i cc y f)) :=
  (ps_fld (pe_var hN hv hd hcd) (pe_fzd he) hs).imp fun D σ H q => by
    obtain ⟨z, F0, L0, H0, ρ, st, F, L, r, p⟩ := q
    refine ⟨z, F0, L0, H0, ρ, st, F, L, r, (PostS.of r p).mono fun d st1 p1 v F1 L1 H1 e1 s1 d1 => ?_⟩
    obtain ⟨a, dx, fs, q1, q2, q3, q4, q5⟩ := (r.step e1 s1).inst d1 hn (PostS.step p1 e1.ff e1.pre)
    exact ⟨.ref a, q1, a, _, dx, fs, rfl, q2, q3, hn, q4, q5⟩
end
/-! ### defs and classes -/
/-- what the making of an instance promises, by __init__ -/
def spI (K : PySem.W.Frag) (n : Nat) (c : String) (w : SF) : Sp := fun vs H Q E => ∃ a dx vs' ds st F L H1, vs = .ref a :: vs' ∧ vs'.length = n ∧ DenL K F L ds vs' ∧ H = upd (upd H1 dx (.own a)) a (.ins (cA K c) dx []) ∧ H1 a = none ∧ H1 dx = none ∧ dx ≠ a ∧ Same F H1 ∧ StOk K F L H1 st ∧
  Post K (fun u od _ H' => E u od H') F L H1 [] (w ds st) (OkE K F L H1 fun v H' => v = .ref a → Q .non H')
section
variable {P : Program} {w : World} {K : PySem.W.Frag} {mg : Str → Option Value} {base : Heap} {x qual : Str} {params : Arguments} {body : List Stmt} {scope : Scope} {dvs : List V} {kws : List (Str × V)} {f : Addr} {fd : FuncData}
theorem fn_ok {N ps : List Str} {k : Nat} {b : SS} (F : FunD K x qual params body scope dvs kws f fd) (S : FnScope N ps scope)
    (hbody : ∀ (cdv : Value) (A : Around) (outer : List Env) (s : Shared) (H : Hp) (E : XK), Room k (A.deeper (envOfC qual scope s.heap.objs.size f cdv)) →
      Takes (cxOf (L2.CX P w) P w K mg base N qual scope f cdv A outer s H E) (fun cls d _ H => E cls d H) →
      PSs (cxOf (L2.CX P w) P w K mg base N qual scope f cdv A outer s H E) body (tS K (fun cls d _ H => E cls d H) b)) : FnOk P w K mg base (L2.CX P w) (k + 1) f fd ps (spD K ps.length (fnS N.length b)) := by
  refine F.ok S (fun vs H Q E h => spD_len h) fun cdv A outer s H vs Q E hr h => ?_
  have tk : Takes (cxOf (L2.CX P w) P w K mg base N qual scope f cdv A outer s H E) (fun cls d _ H => E cls d H) := takes_of rfl rfl rfl rfl
  refine ⟨_, hbody cdv A outer s H E hr tk, ?_⟩
  obtain ⟨ds, st, F1, L1, hl, hd, hs, so, p⟩ := h
  exact ⟨0, F1, L1, H, enS N.length ds, st, F1, L1, start_rel hs so hd, body_of p⟩
theorem init_ok {N ps : List Str} {k : Nat} {b : SS} {c : String} (F : FunD K x qual params body scope dvs kws f fd) (S : FnScope N ps scope) (ci : InsOk K c) (hps : ps ≠ []) (hNe : N ≠ [])
    (hbody : ∀ (cdv : Value) (A : Around) (outer : List Env) (s : Shared) (H : Hp) (E : XK), Room k (A.deeper (envOfC qual scope s.heap.objs.size f cdv)) →
      Takes (cxOf (L2.CX P w) P w K mg base N qual scope f cdv A outer s H E) (fun cls d _ H => E cls d H) →
      PSs (cxOf (L2.CX P w) P w K mg base N qual scope f cdv A outer s H E) body (tS K (fun cls d _ H => E cls d H) b)) : FnOk P w K mg base (L2.CX P w) (k + 1) f fd ps (spI K (ps.length - 1) c (fnI c N.length b)) := by
  have hp : 0 < ps.length := List.length_pos_iff.mpr hps
  refine F.ok S (fun vs H Q E h => ?_) fun cdv A outer s H vs Q E hr h => ?_
  · obtain ⟨a, dx, vs', ds, st, F1, L1, H1, rfl, hl, _⟩ := h
    rw [List.length_cons, hl]; omega
  · have tk : Takes (cxOf (L2.CX P w) P w K mg base N qual scope f cdv A outer s H E) (fun cls d _ H => E cls d H) := takes_of rfl rfl rfl rfl
    refine ⟨_, hbody cdv A outer s H E hr tk, ?_⟩
    obtain ⟨a, dx, vs', ds, st, F1, L1, H1, rfl, hl, hd, rfl, h1, h2, h3, hs, so, p⟩ := h
    exact ⟨a, F1, L1, H1, _, st, F1, L1, made_rel hs so hd h1 h2 h3 ci hNe, body_ofI p⟩
end
end Q

set_option Elab.async false
set_option linter.all false
set_option maxRecDepth 100000
set_option maxHeartbeats 1000000
/-! Q12: calls of all kinds. -/
namespace Q
open PySem PySem.Spec PyProof.Rows L2 RZ RT
/-! ### rules of the layer with wishes at the caller's slots -/
section
variable {X : Cx} {CX : CXT} {k n : Nat} {f C : Addr} {fd : FuncData} {ps ks : List Str} {sp : Sp} {E : L2.St → XK} {x : Str} {p pos : Pos} {e : Expr} {es : List Expr} {kws : List Keyword} {t tk : TA} {g : List Value → List Value → List Value} {gV : List V → List V → List V} {dvs : List V} {ds : List Value}
def tCallNS (n m : Nat) (sp : Sp) (gV : List V → List V → List V) (E : L2.St → XK) (t tk : TA) : TE := fun σ H Q => t σ H fun vs H1 => tk σ H1 fun zs H2 => vs.length = n ∧ zs.length = m ∧ sp (gV vs zs) H2 Q (E σ)
theorem run_fnNS {pins : List (Addr × Obj)} {σ : L2.St} {H : Hp} {s : Shared} {Q : VK} {us ws : List Value} {vs zs : List V} (F : FnOk X.prog X.w X.K X.mg X.base CX k f fd ps sp) (hr : Room k X.A) (hb : KBn X.K fd ps n ks g gV) (hx : PassesAt CX X σ (E σ))
    (I : Inv X pins σ H s) (r : Vals vs us) (rz : Vals zs ws) (l1 : vs.length = n) (l2 : zs.length = ks.length) (h : sp (gV vs zs) H Q (E σ)) : wpAny (model X.prog X.w) X.A (call (.ref f) us (ks.zip ws)) (EP X pins σ Q) X.xe s := by
  have r2 := hb.rel r rz
  refine wpAny_call (codeAny_mono (F.run X.A X.stack s H ⟨us, ks.zip ws⟩ (g us ws) (gV vs zs) Q (E σ) hr I.env0 (hb.to s us ws I.kIn (r.length.symm.trans l1) (rz.length.symm.trans l2)) r2 h) fun r s' hq => ?_)
  cases r with
  | error e => exact hx pins H s e s' I hq
  | ok fl =>
    cases fl with
    | ret u => exact I.after hq
    | next => exact False.elim hq
    | brk => exact False.elim hq
    | cont => exact False.elim hq
theorem pe_callNS (F : FnOk X.prog X.w X.K X.mg X.base CX k f fd ps sp) (hr : Room k X.A) (hg : Gl X x) (hm : X.mg x = some (.ref f)) (hk : PySem.W.keepIn X.K (.ref f) = true) (hb : KBn X.K fd ps n ks g gV) (hx : ∀ σ, PassesAt CX X σ (E σ))
    (ha : PA X (e :: es) t) (hkw : PK X kws tk) (hall : (backToKw pos (keywordEach kws X.env)).all (·.1.isSome) = true := by rfl) (hks : (backToKw pos (keywordEach kws X.env)).filterMap (·.1) = ks := by rfl)
    (hdb : (x == ("__debug__" : Str)) = false := by decide) (he : starEach (e :: es) X.env = (false, eval e X.env) :: starEach es X.env := by rfl)
    (hpl : ((backTo pos (starEach (e :: es) X.env)).any (·.1) || (backToKw pos (keywordEach kws X.env)).any (·.1.isNone)) = false := by rfl) :
    PE X (.Call (.Name x p) (e :: es) kws pos) (tCallNS n ks.length sp gV E t tk) := by
  refine ⟨fun pins s σ H Q I h => ?_⟩
  refine wpAny_Call_Name_kw (ld_glob I hg hm ?_ hdb)
  refine PySem.W.callWith_KW (h₀ := X.base) I.ok.mod.kin hk hall (thn (ha.run pos pins s σ H _ I h) fun us s1 ⟨vs, H1, I1, r, q⟩ => ?_) hpl he
  refine thn (hkw.run pos pins s1 σ H1 _ I1 q) fun ws s2 ⟨zs, H2, I2, rz, l1, l2, q2⟩ => ⟨I2.kIn, ?_⟩
  rw [hks]
  exact run_fnNS F hr hb (hx σ) I2 r rz l1 l2 q2
theorem pe_callNS0 (F : FnOk X.prog X.w X.K X.mg X.base CX k f fd ps sp) (hr : Room k X.A) (hg : Gl X x) (hm : X.mg x = some (.ref f)) (hk : PySem.W.keepIn X.K (.ref f) = true) (hb : KBn X.K fd ps 0 ks g gV) (hx : ∀ σ, PassesAt CX X σ (E σ))
    (hkw : PK X kws tk) (hall : (backToKw pos (keywordEach kws X.env)).all (·.1.isSome) = true := by rfl) (hks : (backToKw pos (keywordEach kws X.env)).filterMap (·.1) = ks := by rfl)
    (hdb : (x == ("__debug__" : Str)) = false := by decide)
    (hpl : ((backTo pos (starEach [] X.env)).any (·.1) || (backToKw pos (keywordEach kws X.env)).any (·.1.isNone)) = false := by rfl) :
    PE X (.Call (.Name x p) [] kws pos) (tCallNS 0 ks.length sp gV E tNil tk) := by
  refine ⟨fun pins s σ H Q I h => ?_⟩
  refine wpAny_Call_Name_kw (ld_glob I hg hm ?_ hdb)
  refine PySem.W.callWith_KW0 (h₀ := X.base) I.ok.mod.kin hk hall ?_ hpl
  refine thn (hkw.run pos pins s σ H _ I h) fun ws s2 ⟨zs, H2, I2, rz, l1, l2, q2⟩ => ⟨I2.kIn, ?_⟩
  rw [hks]
  exact run_fnNS (us := []) (vs := []) F hr hb (hx σ) I2 .nil rz l1 l2 q2
theorem pe_callSD0 (F : FnOk X.prog X.w X.K X.mg X.base CX k f fd ps sp) (hr : Room k X.A) (hg : Gl X x) (hm : X.mg x = some (.ref f)) (hk : PySem.W.keepIn X.K (.ref f) = true) (hb : Binds X.K fd ps ds) (hd : Vals dvs ds) (hx : ∀ σ, PassesAt CX X σ (E σ))
    (hdb : (x == ("__debug__" : Str)) = false := by decide) : PE X (.Call (.Name x p) [] [] pos) (tCallSD sp dvs E tNil) := by
  refine ⟨fun pins s σ H Q I h => ?_⟩
  refine wpAny_Call_Name_kw (ld_glob I hg hm ?_ hdb)
  exact PySem.W.callWith_K0 I.kIn hk (run_fnSD (us := []) F hr hb hd (hx σ) I .nil h)
def tMakeS (C : Addr) (n m : Nat) (sp : Sp) (gV : List V → List V → List V) (E : L2.St → XK) (t tk : TA) : TE := fun σ H Q => t σ H fun vs H1 => tk σ H1 fun zs H2 => vs.length = n ∧ zs.length = m ∧ ∀ x dx, H2 x = none → H2 dx = none → dx ≠ x →
  sp (gV (.ref x :: vs) zs) (upd (upd H2 dx (.own x)) x (.ins C dx [])) (fun v H3 => v = .non ∧ Q (.ref x) H3) (E σ)
theorem run_makeS {pins : List (Addr × Obj)} {σ : L2.St} {H : Hp} {s : Shared} {Q : VK} {us ws : List Value} {vs zs : List V} (M : Mk X.K C f) (F : FnOk X.prog X.w X.K X.mg X.base CX k f fd ps sp) (hr : Room (k + 1) X.A) (hb : KBn X.K fd ps (n + 1) ks g gV) (hx : PassesAt CX X σ (E σ))
    (I : Inv X pins σ H s) (r : Vals vs us) (rz : Vals zs ws) (l1 : vs.length = n) (l2 : zs.length = ks.length)
    (h : ∀ x dx, H x = none → H dx = none → dx ≠ x → sp (gV (.ref x :: vs) zs) (upd (upd H dx (.own x)) x (.ins C dx [])) (fun v H2 => v = .non ∧ Q (.ref x) H2) (E σ)) :
    wpAny (model X.prog X.w) X.A (call (.ref C) us (ks.zip ws)) (EP X pins σ Q) X.xe s := by
  have hq := h (s.heap.objs.size + 1) s.heap.objs.size (I.hok.fresh (Nat.le_succ _)) (I.hok.fresh (Nat.le_refl _)) (Nat.ne_of_lt (Nat.lt_succ_self _))
  have I2 := Inv.made (C := C) I
  have r1 : Vals (V.ref (s.heap.objs.size + 1) :: vs) (Value.ref (s.heap.objs.size + 1) :: us) := .cons rfl r
  have r2 := hb.rel r1 rz
  have n1 : (Value.ref (s.heap.objs.size + 1) :: us).length = n + 1 := by
    rw [List.length_cons, ← r.length, l1]
  refine wpAny_call (make_map (f := f) I.kIn M.makes M.init (beq_iff_eq.mp M.fn) (codeAny_mono (F.run _ X.stack _ _ ⟨Value.ref (s.heap.objs.size + 1) :: us, ks.zip ws⟩ (g (Value.ref (s.heap.objs.size + 1) :: us) ws) _ _ (E σ) (hr.make C us (ks.zip ws))
    (I2.env0.make C us (ks.zip ws)) (hb.to _ (Value.ref (s.heap.objs.size + 1) :: us) ws I2.kIn n1 (rz.length.symm.trans l2)) r2 hq) fun r s' hq' => ?_))
  cases r with
  | error e => exact hx pins _ _ e s' I2 hq'
  | ok fl =>
    cases fl with
    | ret u =>
      obtain ⟨v, H', I3, rv, ev, q3⟩ := I2.after hq'
      subst ev
      exact ⟨rv, ⟨V.ref (s.heap.objs.size + 1), H', I3, rfl, q3⟩⟩
    | next => exact False.elim hq'
    | brk => exact False.elim hq'
    | cont => exact False.elim hq'
theorem pe_makeS0 (M : Mk X.K C f) (F : FnOk X.prog X.w X.K X.mg X.base CX k f fd ps sp) (hr : Room (k + 1) X.A) (hg : Gl X x) (hm : X.mg x = some (.ref C)) (hb : KBn X.K fd ps 1 ks g gV) (hx : ∀ σ, PassesAt CX X σ (E σ)) (hkw : PK X kws tk)
    (hall : (backToKw pos (keywordEach kws X.env)).all (·.1.isSome) = true := by rfl) (hks : (backToKw pos (keywordEach kws X.env)).filterMap (·.1) = ks := by rfl) (hdb : (x == ("__debug__" : Str)) = false := by decide)
    (hpl : ((backTo pos (starEach [] X.env)).any (·.1) || (backToKw pos (keywordEach kws X.env)).any (·.1.isNone)) = false := by rfl) :
    PE X (.Call (.Name x p) [] kws pos) (tMakeS C 0 ks.length sp gV E tNil tk) := by
  refine ⟨fun pins s σ H Q I h => ?_⟩
  refine wpAny_Call_Name_kw (ld_glob I hg hm ?_ hdb)
  refine PySem.W.callWith_KW0 (h₀ := X.base) I.ok.mod.kin M.kp hall ?_ hpl
  refine thn (hkw.run pos pins s σ H _ I h) fun ws s2 ⟨zs, H2, I2, rz, l1, l2, q2⟩ => ⟨I2.kIn, ?_⟩
  rw [hks]
  exact run_makeS (us := []) (vs := []) M F hr hb (hx σ) I2 .nil rz rfl l2 q2
theorem pe_makeS (M : Mk X.K C f) (F : FnOk X.prog X.w X.K X.mg X.base CX k f fd ps sp) (hr : Room (k + 1) X.A) (hg : Gl X x) (hm : X.mg x = some (.ref C)) (hb : KBn X.K fd ps (n + 1) ks g gV) (hx : ∀ σ, PassesAt CX X σ (E σ)) (ha : PA X (e :: es) t) (hkw : PK X kws tk)
    (hall : (backToKw pos (keywordEach kws X.env)).all (·.1.isSome) = true := by rfl) (hks : (backToKw pos (keywordEach kws X.env)).filterMap (·.1) = ks := by rfl) (hdb : (x == ("__debug__" : Str)) = false := by decide)
    (he : starEach (e :: es) X.env = (false, eval e X.env) :: starEach es X.env := by rfl) (hpl : ((backTo pos (starEach (e :: es) X.env)).any (·.1) || (backToKw pos (keywordEach kws X.env)).any (·.1.isNone)) = false := by rfl) :
    PE X (.Call (.Name x p) (e :: es) kws pos) (tMakeS C n ks.length sp gV E t tk) := by
  refine ⟨fun pins s σ H Q I h => ?_⟩
  refine wpAny_Call_Name_kw (ld_glob I hg hm ?_ hdb)
  refine PySem.W.callWith_KW (h₀ := X.base) I.ok.mod.kin M.kp hall (thn (ha.run pos pins s σ H _ I h) fun us s1 ⟨vs, H1, I1, r, q⟩ => ?_) hpl he
  refine thn (hkw.run pos pins s1 σ H1 _ I1 q) fun ws s2 ⟨zs, H2, I2, rz, l1, l2, q2⟩ => ⟨I2.kIn, ?_⟩
  rw [hks]
  exact run_makeS M F hr hb (hx σ) I2 r rz l1 l2 q2
end
/-! ### keywords -/
section
variable {X : Cx} {W : WX} {e : Expr} {f : SE} {fs : SEs} {kws : List Keyword} {kpos : Pos} {nm : Option Str}
theorem _root_.L2.PK.imp {X : Cx} {e : List Keyword} {t t' : TA} (h : PK X e t) (i : ∀ σ H Q, t' σ H Q → t σ H Q) : PK X e t' := ⟨fun p pins s σ H Q I q => h.run p pins s σ H Q I (i σ H Q q)⟩
theorem snd_kNil : PK X [] (tA X.K W eNil) := pk_nil.imp fun σ H Q q => by
  obtain ⟨z, F0, L0, H0, ρ, st, F, L, r, p⟩ := q
  exact p [] F L H r.refl r.sto .nil
theorem snd_kCons (ha : PE X e (tE X.K W f)) (hr : PK X kws (tA X.K W fs)) : PK X (⟨nm, e, kpos⟩ :: kws) (tA X.K W (eCons f fs)) := (pk_cons (pe_fzd ha) hr).imp fun σ H Q q => by
  obtain ⟨z, F0, L0, H0, ρ, st, F, L, r, p⟩ := q
  refine ⟨z, F0, L0, H0, ρ, st, F, L, r, p.bind.mono fun d st1 p1 v F1 L1 H1 e1 s1 d1 => ?_⟩
  refine ⟨z, F0, L0, H0, ρ, st1, F1, L1, r.step e1 s1, (p1.step e1).bind.mono fun ds st2 p2 vs F2 L2 H2 e2 s2 d2 => ?_⟩
  exact p2 _ F2 L2 H2 (e1.trans e2) s2 (.cons (e2.den d1) d2)
end
/-! ### what stands for a def -/
def gP {α : Type} (d : α) (p : List Nat) (us ws : List α) : List α := p.map fun i => (us ++ ws).getD i d
theorem vals_getD {vs : List V} {us : List Value} (h : Vals vs us) (i : Nat) : RelV (vs.getD i .non) (us.getD i .none) := by
  rw [List.getD_eq_getElem?_getD, List.getD_eq_getElem?_getD]
  by_cases hi : i < vs.length
  · have hj : i < us.length := by rw [← h.length]; exact hi
    rw [List.getElem?_eq_getElem hi, List.getElem?_eq_getElem hj]
    obtain ⟨u, e, r⟩ := h.get (List.getElem?_eq_getElem hi)
    rw [List.getElem?_eq_getElem hj] at e
    cases e
    exact r
  · rw [List.getElem?_eq_none (by omega), List.getElem?_eq_none (by rw [← h.length]; omega)]
    rfl
theorem vals_gP (p : List Nat) {vs zs : List V} {us ws : List Value} (h : Vals vs us) (h' : Vals zs ws) : Vals (gP .non p vs zs) (gP .none p us ws) := by
  unfold gP
  induction p with
  | nil => exact .nil
  | cons i p ih => exact .cons (vals_getD (h.append h') i) ih
section
variable {P : Program} {w : World} {K : PySem.W.Frag} {mg : Str → Option Value} {base : Heap} {x qual : Str} {params : Arguments} {body : List Stmt} {scope : Scope} {f : Addr} {fd : FuncData} {ps ks : List Str}
theorem kbn_of (F : FunD K x qual params body scope [] [] f fd) (n : Nat) (p : List Nat)
    (h : ∀ (kV doc pm : Value) (an : Option Addr) (cdv ct : Value) (us ws : List Value), us.length = n → ws.length = ks.length → bindArgs (PySem.W.fnOf x qual params body scope .none kV doc pm an cdv ct) ⟨us, ks.zip ws⟩ = pure (ps.zip (gP .none p us ws))) : KBn K fd ps n ks (gP .none p) (gP .non p) := by
  obtain ⟨oc, od, dV, kV, doc, pm, an, cdv, ct, osl, rfl, lk, hcd, hD, hK⟩ := F.ex
  rcases hD with ⟨_, rfl⟩ | ⟨e, _⟩
  · exact ⟨fun s us ws _ l1 l2 => BindsTo.of_eq (h kV doc pm an cdv ct us ws l1 l2), fun r1 r2 => vals_gP p r1 r2⟩
  · exact absurd rfl e
end
/-- a def at the top: its function, and that it keeps its promise -/
structure Fx (P : Program) (w : World) (K : PySem.W.Frag) (mg : Str → Option Value) (base : Heap) (k : Nat) (x : Str) (st : Stmt) (ps : List Str) (g : SF) : Prop where
  mg_ : mg x = some (.ref (He.ga K x))
  ex : ∃ fd, FunD K x x (defArgs st) (defBody st) (defScope st) [] [] (He.ga K x) fd ∧ FnOk P w K mg base (L2.CX P w) k (He.ga K x) fd ps (spD K ps.length g) ∧ Binds K fd ps []
/-- a class with __init__ -/
structure Ix (P : Program) (w : World) (K : PySem.W.Frag) (mg : Str → Option Value) (base : Heap) (k : Nat) (c : String) (st : Stmt) (ps : List Str) (g : SF) : Prop where
  mg_ : mg (Str.ofString c) = some (.ref (cA K c))
  ok : InsOk K c
  mkr : Mk K (cA K c) (He.ma K (cA K c) "__init__")
  ex : ∃ fd qual, FunD K "__init__" qual (defArgs st) (defBody st) (defScope st) [] [] (He.ma K (cA K c) "__init__") fd ∧ FnOk P w K mg base (L2.CX P w) k (He.ma K (cA K c) "__init__") fd ps (spI K (ps.length - 1) c g)
/-- a property of a class -/
structure Px (P : Program) (w : World) (K : PySem.W.Frag) (mg : Str → Option Value) (base : Heap) (k : Nat) (c y : String) (g : SF) : Prop where
  ok : InsOk K c
  ex : ∃ pA gA fd ps, PropOf K (cA K c) (Str.ofString y) pA gA ∧ FnOk P w K mg base (L2.CX P w) k gA fd ps (spD K 1 g) ∧ Binds K fd ps []
section
variable {X : Cx} {W : WX} {k j : Nat} {x : Str} {ps : List Str} {g : SF} {st : Stmt} {e : Expr} {es : List Expr} {fs gs : SEs} {p pos : Pos} {kws : List Keyword} {f : SE}
/-- f(e, ..) -/
theorem call_f (G : Fx X.prog X.w X.K X.mg X.base k x st ps g) (tk : Takes X W) (hr : Room j X.A) (ha : PA X (e :: es) (tA X.K W fs)) (hn : ∀ ρ st ds st', fs ρ st = .ok ds st' → ds.length = ps.length) (hj : k ≤ j := by decide) (hg : Gl X x := by first | exact Or.inl rfl | exact Or.inr rfl | rfl)
    (hdb : (x == ("__debug__" : Str)) = false := by decide) (he : starEach (e :: es) X.env = (false, eval e X.env) :: starEach es X.env := by rfl) (hpl : (backTo pos (starEach es X.env)).any (·.1) = false := by rfl) :
    PE X (.Call (.Name x p) (e :: es) [] pos) (tE X.K W (eCall g fs)) := by
  obtain ⟨fd, FD, FO, B⟩ := G.ex
  exact snd_call tk FO (hr.mono hj) hg G.mg_ FD.kp B ha hn hdb he hpl
/-- f() -/
theorem call_f0 (G : Fx X.prog X.w X.K X.mg X.base k x st [] g) (tk : Takes X W) (hr : Room j X.A) (hj : k ≤ j := by decide) (hg : Gl X x := by first | exact Or.inl rfl | exact Or.inr rfl | rfl)
    (hdb : (x == ("__debug__" : Str)) = false := by decide) : PE X (.Call (.Name x p) [] [] pos) (tE X.K W (eCall g eNil)) := by
  obtain ⟨fd, FD, FO, B⟩ := G.ex
  refine (pe_callSD0 FO (hr.mono hj) hg G.mg_ FD.kp B .nil (fun σ => passAt tk σ) hdb).imp fun σ H Q q => ?_
  obtain ⟨z, F0, L0, H0, ρ, st, F, L, r, pp⟩ := q
  have pp : Post X.K W F L H σ (g [] st) (OkE X.K F L H Q) := pp
  exact ⟨[], st, F, L, rfl, .nil, r.fh, r.sto, pp.wish fun _ _ _ z => z⟩
theorem perm_gP {K : PySem.W.Frag} {F : Hp} {L : List Addr} {pp : List Nat} {ds es : List D} {vs zs : List V} (h : DenL K F L ds vs) (h' : DenL K F L es zs) : DenL K F L (perm pp (ds ++ es)) (gP .non pp vs zs) := by
  unfold perm gP
  induction pp with
  | nil => exact .nil
  | cons i pp ih =>
    refine .cons ?_ ih
    have hh := h.append h'
    show Den K F L ((ds ++ es).getD i .non) ((vs ++ zs).getD i .non)
    rw [List.getD_eq_getElem?_getD, List.getD_eq_getElem?_getD]
    by_cases hi : i < (ds ++ es).length
    · obtain ⟨v, q1, q2⟩ := hh.get (List.getElem?_eq_getElem hi)
      rw [List.getElem?_eq_getElem hi, q1]
      exact q2
    · rw [List.getElem?_eq_none (by omega), List.getElem?_eq_none (by rw [← hh.length]; omega)]
      show Den K F L .non .non
      unfold Den; rfl
theorem callK_sp {K : PySem.W.Frag} {σ : L2.St} {H : Hp} {Q : VK} {pp : List Nat} {n m : Nat} (hn : ∀ ρ st ds st', fs ρ st = .ok ds st' → ds.length = n) (hm : ∀ ρ st ds st', gs ρ st = .ok ds st' → ds.length = m) (q : tE K W (eCallK g pp fs gs) σ H Q) :
    tCallNS n m (spD K pp.length g) (gP .non pp) (WE W) (tA K W fs) (tA K W gs) σ H Q := by
  obtain ⟨z, F0, L0, H0, ρ, st, F, L, r, p⟩ := q
  refine ⟨z, F0, L0, H0, ρ, st, F, L, r, ?_⟩
  have p := p.bind
  cases h : fs ρ st with
  | no => rw [h] at p; exact p.elim
  | ex c ks ds st' => rw [h] at p; exact p
  | ok ds st1 =>
    rw [h] at p
    intro vs F1 L1 H1 e1 s1 d1
    have p : Post K W F L H σ ((gs ρ st1).bind fun es st2 => g (perm pp (ds ++ es)) st2) (OkE K F L H Q) := p
    have p := (p.step e1).bind
    refine ⟨z, F0, L0, H0, ρ, st1, F1, L1, r.step e1 s1, ?_⟩
    cases h2 : gs ρ st1 with
    | no => rw [h2] at p; exact p.elim
    | ex c ks ds st' => rw [h2] at p; exact p
    | ok es st2 =>
      rw [h2] at p
      intro zs F2 L2 H2 e2 s2 d2
      have p : Post K W F1 L1 H1 σ (g (perm pp (ds ++ es)) st2) (OkE K F L H Q) := p
      refine ⟨by rw [← d1.length]; exact hn _ _ _ _ h, by rw [← d2.length]; exact hm _ _ _ _ h2, perm pp (ds ++ es), st2, F2, L2, ?_, perm_gP (e2.denL d1) d2, e2.fh, s2, ((p.step e2).mono fun _ _ h => OkE.step h (e1.trans e2)).wish fun _ _ _ z => z⟩
      unfold gP; rw [List.length_map]
/-- f(e, .., k = v, ..) -/
theorem call_fk (G : Fx X.prog X.w X.K X.mg X.base k x st ps g) (tk : Takes X W) (hr : Room j X.A) {ks : List Str} (pp : List Nat) {n : Nat} (hb : ∀ (kV doc pm : Value) (an : Option Addr) (cdv ct : Value) (us ws : List Value), us.length = n → ws.length = ks.length → bindArgs (PySem.W.fnOf x x (defArgs st) (defBody st) (defScope st) .none kV doc pm an cdv ct) ⟨us, ks.zip ws⟩ = pure (ps.zip (gP .none pp us ws)))
    (ha : PA X (e :: es) (tA X.K W fs)) (hn : ∀ ρ st ds st', fs ρ st = .ok ds st' → ds.length = n) (hk : PK X kws (tA X.K W gs)) (hm : ∀ ρ st ds st', gs ρ st = .ok ds st' → ds.length = ks.length) (hj : k ≤ j := by decide) (hg : Gl X x := by first | exact Or.inl rfl | exact Or.inr rfl | rfl) (hpp : pp.length = ps.length := by rfl)
    (hall : (backToKw pos (keywordEach kws X.env)).all (·.1.isSome) = true := by rfl) (hks : (backToKw pos (keywordEach kws X.env)).filterMap (·.1) = ks := by rfl)
    (hdb : (x == ("__debug__" : Str)) = false := by decide) (he : starEach (e :: es) X.env = (false, eval e X.env) :: starEach es X.env := by rfl)
    (hpl : ((backTo pos (starEach (e :: es) X.env)).any (·.1) || (backToKw pos (keywordEach kws X.env)).any (·.1.isNone)) = false := by rfl) :
    PE X (.Call (.Name x p) (e :: es) kws pos) (tE X.K W (eCallK g pp fs gs)) := by
  obtain ⟨fd, FD, FO, B⟩ := G.ex
  rw [← hpp] at FO
  exact (pe_callNS FO (hr.mono hj) hg G.mg_ FD.kp (kbn_of FD n pp hb) (fun σ => passAt tk σ) ha hk hall hks hdb he hpl).imp fun σ H Q q => callK_sp hn hm q
/-- f(k = v, ..) -/
theorem call_fk0 (G : Fx X.prog X.w X.K X.mg X.base k x st ps g) (tk : Takes X W) (hr : Room j X.A) {ks : List Str} (pp : List Nat) (hb : ∀ (kV doc pm : Value) (an : Option Addr) (cdv ct : Value) (us ws : List Value), us.length = 0 → ws.length = ks.length → bindArgs (PySem.W.fnOf x x (defArgs st) (defBody st) (defScope st) .none kV doc pm an cdv ct) ⟨us, ks.zip ws⟩ = pure (ps.zip (gP .none pp us ws)))
    (hk : PK X kws (tA X.K W gs)) (hm : ∀ ρ st ds st', gs ρ st = .ok ds st' → ds.length = ks.length) (hj : k ≤ j := by decide) (hg : Gl X x := by first | exact Or.inl rfl | exact Or.inr rfl | rfl) (hpp : pp.length = ps.length := by rfl)
    (hall : (backToKw pos (keywordEach kws X.env)).all (·.1.isSome) = true := by rfl) (hks : (backToKw pos (keywordEach kws X.env)).filterMap (·.1) = ks := by rfl)
    (hdb : (x == ("__debug__" : Str)) = false := by decide)
    (hpl : ((backTo pos (starEach [] X.env)).any (·.1) || (backToKw pos (keywordEach kws X.env)).any (·.1.isNone)) = false := by rfl) :
    PE X (.Call (.Name x p) [] kws pos) (tE X.K W (eCallK g pp eNil gs)) := by
  obtain ⟨fd, FD, FO, B⟩ := G.ex
  rw [← hpp] at FO
  refine (pe_callNS0 FO (hr.mono hj) hg G.mg_ FD.kp (kbn_of FD 0 pp hb) (fun σ => passAt tk σ) hk hall hks hdb hpl).imp fun σ H Q q => ?_
  obtain ⟨z, F0, L0, H0, ρ, st, F, L, r, h⟩ := callK_sp len_nil hm q
  exact h [] F L H r.refl r.sto .nil
/-- C(e, .., k = v, ..) -/
theorem mk_sp {c : String} {σ : L2.St} {H : Hp} {Q : VK} {pp : List Nat} {n m : Nat} (ci : InsOk X.K c) (hn : ∀ ρ st ds st', fs ρ st = .ok ds st' → ds.length = n) (hm : ∀ ρ st ds st', gs ρ st = .ok ds st' → ds.length = m) (q : tE X.K W (eCallK g pp fs gs) σ H Q) :
    tMakeS (cA X.K c) n m (spI X.K pp.length c g) (gP .non (0 :: pp.map (· + 1))) (WE W) (tA X.K W fs) (tA X.K W gs) σ H Q := by
  obtain ⟨z, F0, L0, H0, ρ, st, F, L, r, p⟩ := q
  refine ⟨z, F0, L0, H0, ρ, st, F, L, r, ?_⟩
  have p := p.bind
  cases h : fs ρ st with
  | no => rw [h] at p; exact p.elim
  | ex c ks ds st' => rw [h] at p; exact p
  | ok ds st1 =>
    rw [h] at p
    intro vs F1 L1 H1 e1 s1 d1
    have p : Post X.K W F L H σ ((gs ρ st1).bind fun es st2 => g (perm pp (ds ++ es)) st2) (OkE X.K F L H Q) := p
    have p := (p.step e1).bind
    refine ⟨z, F0, L0, H0, ρ, st1, F1, L1, r.step e1 s1, ?_⟩
    cases h2 : gs ρ st1 with
    | no => rw [h2] at p; exact p.elim
    | ex c ks ds st' => rw [h2] at p; exact p
    | ok es st2 =>
      rw [h2] at p
      intro zs F2 L2 H2 e2 s2 d2
      have p : Post X.K W F1 L1 H1 σ (g (perm pp (ds ++ es)) st2) (OkE X.K F L H Q) := p
      refine ⟨by rw [← d1.length]; exact hn _ _ _ _ h, by rw [← d2.length]; exact hm _ _ _ _ h2, fun a dx q1 q2 q3 => ?_⟩
      have ek := (made_ext e2.fh s2 q1 q2 q3 ci).1
      refine ⟨a, dx, gP .non pp vs zs, perm pp (ds ++ es), st2, F2, L2, H2, ?_, by unfold gP; rw [List.length_map], perm_gP (e2.denL d1) d2, rfl, q1, q2, q3, e2.fh, s2, ((p.step e2).mono fun pr st' hh v F' L' H' x1 x2 x3 x4 ev => ?_).wish fun _ _ _ z => z⟩
      · show V.ref a :: List.map _ (pp.map (· + 1)) = _
        rw [List.map_map]
        rfl
      · refine ⟨rfl, ?_⟩
        rw [← ev]
        exact OkE.step hh (e1.trans e2) v F' L' H' x1 x2 x3 x4
theorem make_fk {c : String} (G : Ix X.prog X.w X.K X.mg X.base k c st ps g) (tk : Takes X W) (hr : Room j X.A) {ks : List Str} (pp : List Nat) {n : Nat} (hb : ∀ (qual : Str) (kV doc pm : Value) (an : Option Addr) (cdv ct : Value) (us ws : List Value), us.length = n + 1 → ws.length = ks.length → bindArgs (PySem.W.fnOf "__init__" qual (defArgs st) (defBody st) (defScope st) .none kV doc pm an cdv ct) ⟨us, ks.zip ws⟩ = pure (ps.zip (gP .none (0 :: pp.map (· + 1)) us ws)))
    (ha : PA X (e :: es) (tA X.K W fs)) (hn : ∀ ρ st ds st', fs ρ st = .ok ds st' → ds.length = n) (hk : PK X kws (tA X.K W gs)) (hm : ∀ ρ st ds st', gs ρ st = .ok ds st' → ds.length = ks.length) (hj : k + 1 ≤ j := by decide) (hg : Gl X (Str.ofString c) := by first | exact Or.inl rfl | exact Or.inr rfl | rfl) (hpp : pp.length = ps.length - 1 := by rfl)
    (hall : (backToKw pos (keywordEach kws X.env)).all (·.1.isSome) = true := by rfl) (hks : (backToKw pos (keywordEach kws X.env)).filterMap (·.1) = ks := by rfl)
    (hdb : (Str.ofString c == ("__debug__" : Str)) = false := by decide) (he : starEach (e :: es) X.env = (false, eval e X.env) :: starEach es X.env := by rfl)
    (hpl : ((backTo pos (starEach (e :: es) X.env)).any (·.1) || (backToKw pos (keywordEach kws X.env)).any (·.1.isNone)) = false := by rfl) :
    PE X (.Call (.Name (Str.ofString c) p) (e :: es) kws pos) (tE X.K W (eCallK g pp fs gs)) := by
  obtain ⟨fd, qual, FD, FO⟩ := G.ex
  rw [← hpp] at FO
  exact (pe_makeS G.mkr FO (hr.mono hj) hg G.mg_ (kbn_of FD (n + 1) _ (hb qual)) (fun σ => passAt tk σ) ha hk hall hks hdb he hpl).imp fun σ H Q q => mk_sp G.ok hn hm q
theorem make_fk0 {c : String} (G : Ix X.prog X.w X.K X.mg X.base k c st ps g) (tk : Takes X W) (hr : Room j X.A) {ks : List Str} (pp : List Nat) (hb : ∀ (qual : Str) (kV doc pm : Value) (an : Option Addr) (cdv ct : Value) (us ws : List Value), us.length = 1 → ws.length = ks.length → bindArgs (PySem.W.fnOf "__init__" qual (defArgs st) (defBody st) (defScope st) .none kV doc pm an cdv ct) ⟨us, ks.zip ws⟩ = pure (ps.zip (gP .none (0 :: pp.map (· + 1)) us ws)))
    (hk : PK X kws (tA X.K W gs)) (hm : ∀ ρ st ds st', gs ρ st = .ok ds st' → ds.length = ks.length) (hj : k + 1 ≤ j := by decide) (hg : Gl X (Str.ofString c) := by first | exact Or.inl rfl | exact Or.inr rfl | rfl) (hpp : pp.length = ps.length - 1 := by rfl)
    (hall : (backToKw pos (keywordEach kws X.env)).all (·.1.isSome) = true := by rfl) (hks : (backToKw pos (keywordEach kws X.env)).filterMap (·.1) = ks := by rfl)
    (hdb : (Str.ofString c == ("__debug__" : Str)) = false := by decide)
    (hpl : ((backTo pos (starEach [] X.env)).any (·.1) || (backToKw pos (keywordEach kws X.env)).any (·.1.isNone)) = false := by rfl) :
    PE X (.Call (.Name (Str.ofString c) p) [] kws pos) (tE X.K W (eCallK g pp eNil gs)) := by
  obtain ⟨fd, qual, FD, FO⟩ := G.ex
  rw [← hpp] at FO
  refine (pe_makeS0 G.mkr FO (hr.mono hj) hg G.mg_ (kbn_of FD 1 _ (hb qual)) (fun σ => passAt tk σ) hk hall hks hdb hpl).imp fun σ H Q q => ?_
  obtain ⟨z, F0, L0, H0, ρ, st, F, L, r, h⟩ := mk_sp G.ok len_nil hm q
  exact h [] F L H r.refl r.sto .nil
/-- o.y, a property -/
theorem prop_f {cc y : String} (G : Px X.prog X.w X.K X.mg X.base k cc y g) (hr : Room j X.A) (ha : PE X e (tE X.K W f)) (hj : k + 1 ≤ j := by decide) (hab : attributeBase e (Str.ofString y) X.env (eval e X.env) = eval e X.env := by rfl) :
    PE X (.Attribute e (Str.ofString y) pos) (tE X.K W (eProp f cc g)) := by
  obtain ⟨pA, gA, fd, ps, hp, FO, B⟩ := G.ex
  exact snd_prop ha G.ok hp FO (hr.mono hj) B hab
end
end Q

set_option Elab.async false
set_option linter.all false
set_option maxRecDepth 100000
set_option maxHeartbeats 1000000
/-! Q13: what the head must tell, and defs from it. -/
namespace Q
open PySem PySem.Spec PyProof.Rows L2 RZ RT
/-! ### facts of classes -/
def eqB {α : Type} [DecidableEq α] (a b : α) : Bool := decide (a = b)
def clsB (K : PySem.W.Frag) (c : String) : Bool := PySem.W.plainGet K (cA K c) Str.empty && (PySem.W.hasDictIn K (cA K c) && (PySem.W.plainOver K (cA K c) && He.eqO (PySem.W.findIn K (.ref (cA K c)) "__setattr__") (some (some (.builtin "object.__setattr__")))))
def insB (K : PySem.W.Frag) (c : String) : Bool := clsB K c && (He.eqO (PySem.W.findIn K (.ref (cA K c)) "__class__") (some (some (.builtin "object.__class__"))) && (He.eqO (PySem.W.specialIn K (.builtin "object.__class__") "__get__") (some (some (.builtin "getset_descriptor.__get__"))) &&
  (eqB (PySem.W.takesIn K (.builtin "object.__class__")) (some true) && (eqB (PySem.W.mroIn K (cA K c) (.type "object")) (some true) && tyN.all fun T => eqB (PySem.W.kitOne K (.ref (cA K c)) (.type T)) (some false)))))
theorem ba {a b : Bool} (h : (a && b) = true) : a = true ∧ b = true := Bool.and_eq_true_iff.mp h
theorem cls_of {K : PySem.W.Frag} {c : String} (h : clsB K c = true) : Cls K (cA K c) := by
  obtain ⟨c1, h⟩ := ba h
  obtain ⟨c2, h⟩ := ba h
  obtain ⟨c3, c4⟩ := ba h
  exact ⟨c1, c2, c3, He.eqO_ok c4⟩
theorem ins_of {K : PySem.W.Frag} {c : String} (h : insB K c = true) : InsOk K c := by
  obtain ⟨c1, h⟩ := ba h
  obtain ⟨c2, h⟩ := ba h
  obtain ⟨c3, h⟩ := ba h
  obtain ⟨c4, h⟩ := ba h
  obtain ⟨c5, c6⟩ := ba h
  exact ⟨cls_of c1, He.eqO_ok c2, He.eqO_ok c3, of_decide_eq_true c4, of_decide_eq_true c5, fun T hT => of_decide_eq_true (List.all_eq_true.mp c6 T hT)⟩
def mkB (K : PySem.W.Frag) (c : String) : Bool := PySem.W.makesIn K (cA K c) && (He.eqO (PySem.W.findIn K (.ref (cA K c)) "__init__") (some (some (.ref (He.ma K (cA K c) "__init__")))) && (PySem.W.isFn K (.ref (He.ma K (cA K c) "__init__")) && PySem.W.keepIn K (.ref (cA K c))))
theorem mk_of {K : PySem.W.Frag} {c : String} (h : mkB K c = true) : Mk K (cA K c) (He.ma K (cA K c) "__init__") := by
  obtain ⟨c1, h⟩ := ba h
  obtain ⟨c2, h⟩ := ba h
  obtain ⟨c3, c4⟩ := ba h
  exact ⟨c1, He.eqO_ok c2, c3, c4⟩
def noB (K : PySem.W.Frag) (c f : String) : Bool := He.eqO (PySem.W.findIn K (.ref (cA K c)) (Str.ofString f)) (some none)
theorem no_of {K : PySem.W.Frag} {c f : String} (h : noB K c f = true) : NoAttr K (cA K c) (Str.ofString f) := He.eqO_ok h
/-- a property's getter -/
def pgA (K : PySem.W.Frag) (c y : String) : Addr := match PySem.W.recIn K (He.ma K (cA K c) (Str.ofString y)) "property" with
  | some (.ref g :: _) => g
  | _ => 0
def propB (K : PySem.W.Frag) (c y : String) : Bool := He.eqO (PySem.W.findIn K (.ref (cA K c)) (Str.ofString y)) (some (some (.ref (He.ma K (cA K c) (Str.ofString y))))) && (He.eqO (PySem.W.specialIn K (.ref (He.ma K (cA K c) (Str.ofString y))) "__get__") (some (some (.builtin "property.__get__"))) &&
  (eqB (PySem.W.takesIn K (.ref (He.ma K (cA K c) (Str.ofString y)))) (some true) && (match PySem.W.recIn K (He.ma K (cA K c) (Str.ofString y)) "property" with
    | some (.ref _ :: _) => true
    | _ => false)))
theorem prop_of {K : PySem.W.Frag} {c y : String} (h : propB K c y = true) : PropOf K (cA K c) (Str.ofString y) (He.ma K (cA K c) (Str.ofString y)) (pgA K c y) := by
  obtain ⟨c1, h⟩ := ba h
  obtain ⟨c2, h⟩ := ba h
  obtain ⟨c3, c4⟩ := ba h
  refine ⟨He.eqO_ok c1, He.eqO_ok c2, of_decide_eq_true c3, ?_⟩
  unfold pgA
  split at c4
  · rename_i g rest e
    rw [e]
    exact ⟨rest, rfl⟩
  · cases c4
/-- an own class's instances among each other, and things of built-in types -/
def kindB (K : PySem.W.Frag) (cs : List String) (c : String) : Bool := (cs.all fun c' => eqB (PySem.W.kitOne K (.ref (cA K c')) (.ref (cA K c))) (some (decide (c' = c)))) && ["NoneType", "bool", "int", "str", "tuple", "list", "dict"].all fun T => eqB (PySem.W.kitOne K (.type T) (.ref (cA K c))) (some false)
theorem kind_of1 {K : PySem.W.Frag} {cs : List String} {c : String} (h : kindB K cs c = true) : ∀ c' ∈ cs, PySem.W.kitOne K (.ref (cA K c')) (.ref (cA K c)) = some (decide (c' = c)) := fun c' hc => of_decide_eq_true (List.all_eq_true.mp (ba h).1 c' hc)
theorem kind_of2 {K : PySem.W.Frag} {cs : List String} {c : String} (h : kindB K cs c = true) : ∀ T ∈ ["NoneType", "bool", "int", "str", "tuple", "list", "dict"], PySem.W.kitOne K (.type T) (.ref (cA K c)) = some false := fun c' hc => of_decide_eq_true (List.all_eq_true.mp (ba h).2 c' hc)
/-! ### the Hook -/
abbrev AlQ : Type := He.AlD × Bool
def obsQ (fa : List He.Fa) (fn : List He5.DefA) (ex : PySem.W.Frag → List Bool) (K : PySem.W.Frag) : AlQ := (He5.obsA fa fn K, (ex K).all id)
def obsQG (n : Nat) (fa : List He.Fa) (fn : List He5.DefA) (ex : PySem.W.Frag → List Bool) (g : Addr → Option Obj) : AlQ := obsQ fa fn ex (He.frG g (He5.asA g n))
def SaysQ (fa : List He.Fa) (fn : List He5.DefA) (ex : PySem.W.Frag → List Bool) (K : PySem.W.Frag) : Prop := obsQ fa fn ex K = (He5.valA fn, true)
def hookQ (n : Nat) (fa : List He.Fa) (fn : List He5.DefA) (ex : PySem.W.Frag → List Bool) : PySem.W.Hook where
  α := AlQ
  obs := fun s => obsQG n fa fn ex s.heap.get?
  val := fun _ => (He5.valA fn, true)
  says := fun _ h => ∃ K : PySem.W.Frag, K.In h ∧ SaysQ fa fn ex K
  of := fun _ _ e => ⟨_, He.frG_in, e⟩
  keeps := fun _ _ _ ⟨K, hK, c⟩ k => ⟨K, PySem.W.Frag.In.keeps hK k, c⟩
theorem obsQG_eq {n : Nat} {fa : List He.Fa} {fn : List He5.DefA} {ex : PySem.W.Frag → List Bool} {g : Addr → Option Obj} {s : Shared} (h : ∀ a, g a = s.heap.get? a) : obsQG n fa fn ex g = (hookQ n fa fn ex).obs s := by
  have e : g = s.heap.get? := funext h
  rw [e] <;> rfl
section
variable {fa : List He.Fa} {fn : List He5.DefA} {ex : PySem.W.Frag → List Bool} {K : PySem.W.Frag}
theorem SaysQ.a (c : SaysQ fa fn ex K) : He5.SaysA fa fn K := congrArg (fun z : AlQ => z.1) c
theorem SaysQ.t (c : SaysQ fa fn ex K) (i : Nat) {b : Bool} (h : (ex K)[i]? = some b := by rfl) : b = true := by
  have e : (ex K).all id = true := congrArg (fun z : AlQ => z.2) c
  exact List.all_eq_true.mp e b (List.mem_of_getElem? h)
end
/-! ### defs -/
section
variable {P : Program} {w : World} {K : PySem.W.Frag} {mg : Str → Option Value} {base : Heap} {x : Str} {st : Stmt} {ps N : List Str} {k n : Nat} {b : SS} {fd : FuncData}
theorem fx_of (F : FunD K x x (defArgs st) (defBody st) (defScope st) [] [] (He.ga K x) fd) (m : mg x = some (.ref (He.ga K x))) (S : FnScope N ps (defScope st)) (B : Binds K fd ps [])
    (hbody : ∀ (cdv : Value) (A : Around) (outer : List Env) (s : Shared) (H : Hp) (E : XK), Room k (A.deeper (envOfC x (defScope st) s.heap.objs.size (He.ga K x) cdv)) →
      Takes (cxOf (L2.CX P w) P w K mg base N x (defScope st) (He.ga K x) cdv A outer s H E) (fun cls d _ H => E cls d H) →
      PSs (cxOf (L2.CX P w) P w K mg base N x (defScope st) (He.ga K x) cdv A outer s H E) (defBody st) (tS K (fun cls d _ H => E cls d H) b)) (hn : N.length = n := by rfl) : Fx P w K mg base (k + 1) x st ps (fnS n b) :=
  ⟨m, fd, F, by rw [← hn]; exact fn_ok F S hbody, B⟩
theorem fx_zero (F : FunD K x x (defArgs st) (defBody st) (defScope st) [] [] (He.ga K x) fd) (m : mg x = some (.ref (He.ga K x))) (B : Binds K fd ps []) : Fx P w K mg base k x st ps fun _ _ => .no :=
  ⟨m, fd, F, ⟨fun _ _ _ _ h => spD_len h, fun _ _ _ _ _ _ _ _ _ _ _ _ _ h => by
    obtain ⟨_, _, _, _, _, _, _, _, p⟩ := h
    exact p.elim⟩, B⟩
theorem ix_of {c : String} {qual : Str} (F : FunD K "__init__" qual (defArgs st) (defBody st) (defScope st) [] [] (He.ma K (cA K c) "__init__") fd) (m : mg (Str.ofString c) = some (.ref (cA K c))) (S : FnScope N ps (defScope st)) (ci : InsOk K c) (mk : Mk K (cA K c) (He.ma K (cA K c) "__init__")) (hps : ps ≠ []) (hNe : N ≠ [])
    (hbody : ∀ (cdv : Value) (A : Around) (outer : List Env) (s : Shared) (H : Hp) (E : XK), Room k (A.deeper (envOfC qual (defScope st) s.heap.objs.size (He.ma K (cA K c) "__init__") cdv)) →
      Takes (cxOf (L2.CX P w) P w K mg base N qual (defScope st) (He.ma K (cA K c) "__init__") cdv A outer s H E) (fun cls d _ H => E cls d H) →
      PSs (cxOf (L2.CX P w) P w K mg base N qual (defScope st) (He.ma K (cA K c) "__init__") cdv A outer s H E) (defBody st) (tS K (fun cls d _ H => E cls d H) b)) (hn : N.length = n := by rfl) : Ix P w K mg base (k + 1) c st ps (fnI c n b) :=
  ⟨m, ci, mk, fd, qual, F, by rw [← hn]; exact init_ok F S ci hps hNe hbody⟩
theorem px_of {c y : String} {z qual : Str} (F : FunD K z qual (defArgs st) (defBody st) (defScope st) [] [] (pgA K c y) fd) (S : FnScope N ps (defScope st)) (ci : InsOk K c) (pr : PropOf K (cA K c) (Str.ofString y) (He.ma K (cA K c) (Str.ofString y)) (pgA K c y)) (B : Binds K fd ps [])
    (hbody : ∀ (cdv : Value) (A : Around) (outer : List Env) (s : Shared) (H : Hp) (E : XK), Room k (A.deeper (envOfC qual (defScope st) s.heap.objs.size (pgA K c y) cdv)) →
      Takes (cxOf (L2.CX P w) P w K mg base N qual (defScope st) (pgA K c y) cdv A outer s H E) (fun cls d _ H => E cls d H) →
      PSs (cxOf (L2.CX P w) P w K mg base N qual (defScope st) (pgA K c y) cdv A outer s H E) (defBody st) (tS K (fun cls d _ H => E cls d H) b)) (hn : N.length = n := by rfl) (hp : ps.length = 1 := by rfl) : Px P w K mg base (k + 1) c y (fnS n b) :=
  ⟨ci, _, _, fd, ps, pr, by
    have q := fn_ok F S hbody
    rw [hn, hp] at q
    exact q, B⟩
end
theorem tb_int : bootBuiltins "int" = some (.type "int") := by decide +kernel
theorem tb_bool : bootBuiltins "bool" = some (.type "bool") := by decide +kernel
theorem tb_str : bootBuiltins "str" = some (.type "str") := by decide +kernel
theorem tb_list : bootBuiltins "list" = some (.type "list") := by decide +kernel
theorem tb_tuple : bootBuiltins "tuple" = some (.type "tuple") := by decide +kernel
theorem tb_dict : bootBuiltins "dict" = some (.type "dict") := by decide +kernel
/-- a class's member -/
def clsMem (st : Stmt) (j : Nat) : Stmt := match st with
  | .ClassDef _ _ _ body _ _ _ _ _ _ _ => body.getD j (.Pass ⟨0, 0, 0, 0⟩)
  | s => s
theorem fz_of {o : SB} (h : IsBB o) : ∀ x y st z st', o x y st = .ok z st' → z.2 = .fz := fun x y st z st' e => by
  obtain ⟨b, rfl⟩ := h x y st z st' e
  rfl
section
variable {X : Cx} {W : WX} {f g k : SE} {pos : Pos}
theorem snd_par3 {i j l : Nat} {x y v : Str} {ea eb ec : Expr} {px py pz pt : Pos} {kt k2 pt2} (hc : X.calm = true) (hN : X.N.Nodup) (ha : PE X ea (tE X.K W f)) (hb : PE X eb (tE X.K W g)) (hk : PE X ec (tE X.K W k)) (hi : X.N[i]? = some x := by rfl) (hj : X.N[j]? = some y := by rfl) (hl : X.N[l]? = some v := by rfl) (hij : i ≠ j := by decide) (hil : i ≠ l := by decide) (hjl : j ≠ l := by decide)
    (hx : X.env.scope.names.lookup x = some .local := by rfl) (hy : X.env.scope.names.lookup y = some .local := by rfl) (hz : X.env.scope.names.lookup v = some .local := by rfl)
    (hw : swappedStores [.Tuple [.Name x px, .Name y py, .Name v pz] kt pt] (.Tuple [ea, eb, ec] k2 pt2) X.env = pure (some [x, y, v]) := by rfl) (hs : swapsWithSole [.Tuple [.Name x px, .Name y py, .Name v pz] kt pt] (.Tuple [ea, eb, ec] k2 pt2) pos.line X.env = pure false := by rfl)
    (hst : starEach [ea, eb, ec] X.env = (false, eval ea X.env) :: starEach [eb, ec] X.env := by rfl) (hst1 : starEach [eb, ec] X.env = (false, eval eb X.env) :: starEach [ec] X.env := by rfl) (hst2 : starEach [ec] X.env = (false, eval ec X.env) :: starEach [] X.env := by rfl) :
    PS X (.Assign [.Tuple [.Name x px, .Name y py, .Name v pz] kt pt] (.Tuple [ea, eb, ec] k2 pt2) pos) (tS X.K W (sPar3 i j l f g k)) :=
  (ps_par3 hc hN hi hj hl hij hil hjl hx hy hz (pa_cons (pe_fzd ha) (pa_cons (pe_fzd hb) (pa_cons (pe_fzd hk) pa_nil hst2) hst1) hst) hw hs).imp fun D σ H q => by
    obtain ⟨z, F0, L0, H0, ρ, st, F, L, r, p⟩ := q
    refine ⟨z, F0, L0, H0, ρ, st, F, L, r, (PostS.of r p).mono fun d st1 p1 v F1 L1 H1 e1 s1 d1 => ?_⟩
    have r1 := r.step e1 s1
    refine ⟨z, F0, L0, H0, ρ, st1, F1, L1, r1, (PostS.of r1 (PostS.step p1 e1.ff e1.pre)).mono fun d' st2 p2 w F2 L2 H2 e2 s2 d2 => ?_⟩
    have r2 := r1.step e2 s2
    refine ⟨z, F0, L0, H0, ρ, st2, F2, L2, r2, (PostS.of r2 (PostS.step p2 e2.ff e2.pre)).mono fun d'' st3 p3 u F3 L3 H3 e3 s3 d3 => ?_⟩
    exact ⟨v, w, u, rfl, p3 _ _ _ _ ((((r2.step e3 s3).setVal ((e2.trans e3).den d1) i).setVal (e3.den d2) j).setVal d3 l) e3.ff e3.pre⟩
end
theorem takes0 {X : Cx} : Takes X W0 := fun _ _ ⟨_, _, _, _, _, _, _, _, _, _, _, _, _, _, _, _, h⟩ => h.elim
end Q

set_option Elab.async false
set_option linter.all false
set_option maxRecDepth 100000
set_option maxHeartbeats 1000000
/-! Q14: the end. -/
namespace Q
open PySem PySem.Spec PyProof.Rows L2 RZ RT
theorem denL_ints {K : PySem.W.Frag} {F : Hp} {L : List Addr} : ∀ ns : List Int, DenL K F L (ns.map D.int) (ns.map V.int)
  | [] => .nil
  | n :: ns => .cons (by unfold Den; rfl) (denL_ints ns)
theorem sp_law {K : PySem.W.Frag} {g : SF} {n : Nat} {H : Hp} {a : Addr} {ns : List Int} (hp : ∃ st, g [.scr (ns.map D.int)] [] = .ok (.bl true, .fz) st) (hS : SqL K H a (ns.map V.int)) : spD K 1 g [.ref a] H (fun v _ => v = .bl true) fun _ _ _ => False := by
  obtain ⟨st, e⟩ := hp
  refine ⟨[.scr (ns.map D.int)], [], H, [], rfl, .cons ?_ .nil, Same.refl H, ⟨rfl, fun i j a h => by simp at h, fun n a d h => by simp at h⟩, ?_⟩
  · unfold Den
    exact ⟨a, _, rfl, hS, denL_ints ns⟩
  · rw [e]
    intro v F' L' H' _ _ d _
    have d : Den K F' L' (.bl true) v := d
    unfold Den at d
    exact d
theorem law_ends {l : PySem.W.OpenLaw} {k : Nat} {q : Program} {loose : List Str} {XP : (Str → Option Value) → Heap → Prop} {d : DefRec} {x : Str} {st : Stmt} {g : SF} {fa : List He.Fa} {fn : List He5.DefA} {ex : PySem.W.Frag → List Bool} {m : Nat}
    (hn : l.most = some 63) (hdf : d.params.defaults = []) (hr : Room k callerA) (hd : d.name = "law")
    (hbind : ∀ (kV doc pm : Value) (an : Option Addr) (cdv ct : Value) (us : List Value), us.length = [x].length → bindArgs (PySem.W.fnOf "law" "law" (defArgs st) (defBody st) (defScope st) .none kV doc pm an cdv ct) ⟨us, []⟩ = pure ([x].zip us))
    (F : ∀ (w : World) (K : PySem.W.Frag) (mg : Str → Option Value) (h base : Heap), K.In h → h.Ns mainGlobals mg → SaysQ fa fn ex K → Fx l.prog w K mg base k "law" st [x] g)
    (DD : ∀ (K : PySem.W.Frag), SaysQ fa fn ex K → ∃ fd, FunD K "law" "law" (defArgs st) (defBody st) (defScope st) [] [] (He.ga K "law") fd)
    (hp : ∀ ns : List Int, ns.length ≤ 63 → (∀ k ∈ ns, Builtin.Int.intBits k ≤ 1048576) → ∃ st, g [.scr (ns.map D.int)] [] = .ok (.bl true, .fz) st) :
    PySem.W.WalkO q loose XP (hookQ m fa fn ex).says l.row.toRowW d [] (fun f vs => PySem.call f vs) := by
  refine Att.attach_callB hn hdf fun w s₀ s₁ mg mb fa' o pm cd doc a vs ns G Y ho hd' hcd hmg hobj hints hlen hbits hg => ?_
  obtain ⟨K, KX, c⟩ := Y
  obtain ⟨fd0, FD0⟩ := DD K c
  have hmg0 : mg "law" = some (.ref (He.ga K "law")) := (F w K mg s₁.heap s₁.heap KX G.T.g c).mg_
  rw [hd] at hmg
  have e : fa' = He.ga K "law" := by
    rw [hmg] at hmg0
    cases hmg0
    rfl
  subst e
  refine law_call (sp := spD K 1 g) (x := x) (fd := fd0) (CX := L2.CX l.prog w) (k := k) KX G.T.g G.T.b G.T.builtins G.T.nolimit hg hobj hints (Nat.le_trans hlen (by rw [sizeLine_eq]; decide)) hr (fun base hK hB => ?_) (fun s u => FunD.bindsA (ps := [x]) FD0 hbind s [u] rfl) (fun H hO hS => sp_law (n := 63) (hp ns hlen hbits) hS) fun H e s' h => ?_
  · obtain ⟨fd, FD, FO, B⟩ := (F w K mg s₁.heap base KX G.T.g c).ex
    have : fd = fd0 := by
      obtain ⟨oc, od, dV, kV, doc, pm, an, cdv, ct, osl, e1, l1, _⟩ := FD.ex
      obtain ⟨oc', od', dV', kV', doc', pm', an', cdv', ct', osl', e2, l2, _⟩ := FD0.ex
      rw [l1] at l2
      cases l2
      rfl
    rw [← this]
    exact FO
  · obtain ⟨_, _, _, _, _, _, _, _, _, _, _, _, q⟩ := h
    exact q
end Q

set_option linter.all false
set_option maxRecDepth 100000
/-! P1: what a run of the combinators gives, as conditions. -/
namespace Q
open PySem
/-- a mark that keeps simp out of what comes later -/
abbrev Dum {β : Sort _} (_ : β) : Type := Unit
/-- P of the value and store behind, X of an exception -/
def R.Wq {α : Type} (r : R α) (P : α → List D → Prop) (X : String → List String → List D → List D → Prop) : Prop := match r with
  | .ok a st => P a st
  | .ex c ks ds st => X c ks ds st
  | .no => False
structure R.Wp {α : Type} (r : R α) (P : α → List D → Prop) (X : String → List String → List D → List D → Prop) (u : Dum P := ()) (v : Dum X := ()) : Prop where
  of :: (out : R.Wq r P X)
theorem wp_q {α : Type} {r : R α} {P : α → List D → Prop} {X : String → List String → List D → List D → Prop} : R.Wp r P X = R.Wq r P X := propext ⟨fun h => h.out, fun h => ⟨h⟩⟩
abbrev XP := String → List String → List D → List D → Prop
abbrev NX : XP := fun _ _ _ _ => False
section
variable {α β : Type} {P : α → List D → Prop} {X : XP} {st : List D} {ρ : En}
theorem wp_ok {a : α} : R.Wp (.ok a st) P X = P a st := wp_q
theorem wp_ex {c ks ds} : R.Wp (.ex c ks ds st) P X = X c ks ds st := wp_q
theorem wp_no : R.Wp (.no : R α) P X = False := wp_q
theorem wp_bind {r : R β} {f : β → List D → R α} : R.Wp (r.bind f) P X = R.Wp r (fun a st => R.Wp (f a st) P X) X := by cases r <;> (first | rfl | exact wp_ok | exact wp_no | (simp only [wp_q] <;> rfl))
theorem wp_bindS {P : Fl → List D → Prop} {r : R β} {f : β → List D → R Fl} : R.Wp (r.bindS ρ f) P X = R.Wp r (fun a st => R.Wp (f a st) P X) (fun c ks ds st => P (.xx c ks ds ρ) st) := by cases r <;> (first | rfl | exact wp_ok | exact wp_no | (simp only [wp_q] <;> rfl))
theorem wp_noX {r : R α} : R.Wp (noX r) P X = R.Wp r P NX := by cases r <;> (first | rfl | exact wp_ok | exact wp_no | (simp only [wp_q] <;> rfl))
theorem wp_ite {c : Prop} [Decidable c] {a b : R α} : R.Wp (if c then a else b) P X = ((c → R.Wp a P X) ∧ (¬ c → R.Wp b P X)) := by
  by_cases h : c
  · rw [if_pos h]; simp [h]
  · rw [if_neg h]; simp [h]
theorem R.Wp.imp {r : R α} {P' : α → List D → Prop} {X' : XP} (h : R.Wp r P X) (i : ∀ a st, P a st → P' a st) (j : ∀ c ks ds st, X c ks ds st → X' c ks ds st := by exact fun _ _ _ _ h => h) : R.Wp r P' X' := by
  obtain ⟨h⟩ := h
  cases r with
  | ok a st => exact ⟨i _ _ h⟩
  | ex c ks ds st => exact ⟨j _ _ _ _ h⟩
  | no => exact ⟨h⟩
theorem R.Wp.imp0 {r : R α} {P' : α → List D → Prop} {X' : XP} (h : R.Wp r P NX) (i : ∀ a st, P a st → P' a st) : R.Wp r P' X' := h.imp i fun _ _ _ _ h => h.elim
theorem R.Wp.eq {r : R α} (h : R.Wp r P NX) : ∃ a st, r = .ok a st ∧ P a st := by
  obtain ⟨h⟩ := h
  cases r with
  | ok a st => exact ⟨a, st, rfl, h⟩
  | ex c ks ds st => exact h.elim
  | no => exact h.elim
end

theorem and_t {c A B : Prop} (h : c) (e : A = B) : A = (c ∧ B) := by rw [e]; exact propext ⟨fun z => ⟨h, z⟩, fun z => z.2⟩
theorem and_f {c A B : Prop} (h : ¬ c) (e : A = False) : A = (c ∧ B) := by rw [e]; exact propext ⟨fun z => z.elim, fun z => h z.1⟩
/-! ### the rest of a run: simp does not look into it -/
def slp (o : Option Sl) (Q : D × Fg → Prop) (uQ : Dum Q := ()) : Prop := match o with
  | some (.val d) => Q (d, .fz)
  | some (.own d) => Q (d, .bw)
  | _ => False
theorem slp_v {d : D} {Q : D × Fg → Prop} : slp (some (.val d)) Q = Q (d, .fz) := rfl
theorem slp_o {d : D} {Q : D × Fg → Prop} : slp (some (.own d)) Q = Q (d, .bw) := rfl
def rtp (o : Option Sl) (Q : D → Fg → Prop) (uQ : Dum Q := ()) : Prop := match o with
  | some (.val d) => Q d .fz
  | some (.own d) => Q d .fr
  | _ => False
theorem rtp_v {d : D} {Q : D → Fg → Prop} : rtp (some (.val d)) Q = Q d .fz := rfl
theorem rtp_o {d : D} {Q : D → Fg → Prop} : rtp (some (.own d)) Q = Q d .fr := rfl
def kdp (p : D × Fg) (Q : Sl → Prop) (uQ : Dum Q := ()) : Prop := match keepD p with
  | some s => Q s
  | none => False
theorem kdp_fz {d : D} {Q : Sl → Prop} : kdp (d, .fz) Q = Q (.val d) := by cases d <;> (first | rfl | exact wp_ok | exact wp_no | (simp only [wp_q] <;> rfl))
theorem kdp_fl {xs : List D} {Q : Sl → Prop} : kdp (.lst xs, .fr) Q = Q (.own (.lst xs)) := rfl
theorem kdp_fi {c ks ds} {Q : Sl → Prop} : kdp (.ins c ks ds, .fr) Q = Q (.val (.ins c ks ds)) := rfl
def intp (d : D) (Q : Int → Prop) (uQ : Dum Q := ()) : Prop := match d with
  | .int i => Q i
  | _ => False
theorem intp_i {i : Int} {Q : Int → Prop} : intp (.int i) Q = Q i := rfl
def blp (d : D) (Q : Bool → Prop) (uQ : Dum Q := ()) : Prop := match d with
  | .bl i => Q i
  | _ => False
theorem blp_b {i : Bool} {Q : Bool → Prop} : blp (.bl i) Q = Q i := rfl
def trp (d : D) (Q : Bool → Prop) (uQ : Dum Q := ()) : Prop := match tru d with
  | some b => Q b
  | none => False
theorem trp_b {i : Bool} {Q : Bool → Prop} : trp (.bl i) Q = Q i := rfl
theorem trp_i {i : Int} {Q : Bool → Prop} : trp (.int i) Q = Q (i != 0) := rfl
theorem trp_l {i : List D} {Q : Bool → Prop} : trp (.lst i) Q = Q (!i.isEmpty) := rfl
theorem trp_t {i : List D} {Q : Bool → Prop} : trp (.tup i) Q = Q (!i.isEmpty) := rfl
theorem trp_n {Q : Bool → Prop} : trp .non Q = Q false := rfl
def optp {α : Type} (o : Option α) (Q : α → Prop) (uQ : Dum Q := ()) : Prop := match o with
  | some d => Q d
  | none => False
theorem optp_s {α : Type} {d : α} {Q : α → Prop} : optp (some d) Q = Q d := rfl
def itp (b : Bool) (A B : Unit → Prop) (uA : Dum A := ()) (uB : Dum B := ()) : Prop := if b = true then A () else B ()
theorem itp_t {A B : Unit → Prop} : itp true A B = A () := rfl
theorem itp_f {A B : Unit → Prop} : itp false A B = B () := rfl
theorem itp_d {c : Prop} [Decidable c] {A B : Unit → Prop} (h : c → A ()) (h' : ¬ c → B ()) : itp (decide c) A B := by
  unfold itp
  by_cases q : c
  · rw [if_pos (decide_eq_true q)]; exact h q
  · rw [if_neg (by simpa using q)]; exact h' q
theorem itp_b {c : Bool} {A B : Unit → Prop} (h : c = true → A ()) (h' : c = false → B ()) : itp c A B := by
  cases c
  · exact h' rfl
  · exact h rfl
theorem itp_nd {c : Prop} [Decidable c] {A B : Unit → Prop} : itp (!decide c) A B = itp (decide c) B A := by
  unfold itp
  by_cases q : c <;> simp [q]
theorem itp_ne {i j : Int} {A B : Unit → Prop} : itp (i != j) A B = itp (decide (i = j)) B A := by
  unfold itp
  by_cases q : i = j <;> simp [q]
def lsp (p : D × Fg) (Q : List D → Prop) (uQ : Dum Q := ()) : Prop := match p with
  | (.lst xs, .fr) => Q xs
  | _ => False
theorem lsp_l {xs : List D} {Q : List D → Prop} : lsp (.lst xs, .fr) Q = Q xs := rfl
def nbp (p : D × Fg) (Q : D → Fg → Prop) (u : Dum Q := ()) : Prop := match p with
  | (_, .bw) => False
  | (d, g) => Q d g
theorem nbp_fz {d : D} {Q : D → Fg → Prop} : nbp (d, .fz) Q = Q d .fz := rfl
theorem nbp_fr {d : D} {Q : D → Fg → Prop} : nbp (d, .fr) Q = Q d .fr := rfl
def typ (d : D) (Q : D → Prop) (uQ : Dum Q := ()) : Prop := match d with
  | .ref _ => False
  | .scr _ => False
  | .ins _ _ _ => False
  | d => Q d
theorem typ_int {i : Int} {Q : D → Prop} : typ (.int i) Q = Q (.int i) := rfl
theorem typ_bl {i : Bool} {Q : D → Prop} : typ (.bl i) Q = Q (.bl i) := rfl
theorem typ_str {i : Str} {Q : D → Prop} : typ (.str i) Q = Q (.str i) := rfl
theorem typ_non {Q : D → Prop} : typ .non Q = Q .non := rfl
theorem typ_lst {i : List D} {Q : D → Prop} : typ (.lst i) Q = Q (.lst i) := rfl
theorem typ_tup {i : List D} {Q : D → Prop} : typ (.tup i) Q = Q (.tup i) := rfl
def icp (cs : List String) (c : String) (d : D) (Q : Bool → Prop) (uQ : Dum Q := ()) : Prop := match d with
  | .ref _ => False
  | .scr _ => False
  | .ins c' _ _ => c' ∈ cs ∧ Q (decide (c' = c))
  | _ => Q false
theorem icp_ins {cs : List String} {c c' : String} {ks ds} {Q : Bool → Prop} : icp cs c (.ins c' ks ds) Q = (c' ∈ cs ∧ Q (decide (c' = c))) := rfl
theorem icp_int {cs : List String} {c : String} {i : Int} {Q : Bool → Prop} : icp cs c (.int i) Q = Q false := rfl
theorem icp_bl {cs : List String} {c : String} {i : Bool} {Q : Bool → Prop} : icp cs c (.bl i) Q = Q false := rfl
theorem icp_str {cs : List String} {c : String} {i : Str} {Q : Bool → Prop} : icp cs c (.str i) Q = Q false := rfl
theorem icp_non {cs : List String} {c : String} {Q : Bool → Prop} : icp cs c .non Q = Q false := rfl
theorem icp_lst {cs : List String} {c : String} {i : List D} {Q : Bool → Prop} : icp cs c (.lst i) Q = Q false := rfl
theorem icp_tup {cs : List String} {c : String} {i : List D} {Q : Bool → Prop} : icp cs c (.tup i) Q = Q false := rfl
def zpp (x y : D) (Q : List D → Prop) (uQ : Dum Q := ()) : Prop := match x, y with
  | .lst xs, .lst ys => Q (pairs xs ys)
  | .tup xs, .tup ys => Q (pairs xs ys)
  | _, _ => False
theorem zpp_l {xs ys : List D} {Q : List D → Prop} : zpp (.lst xs) (.lst ys) Q = Q (pairs xs ys) := rfl
theorem zpp_t {xs ys : List D} {Q : List D → Prop} : zpp (.tup xs) (.tup ys) Q = Q (pairs xs ys) := rfl
def prp (c : String) (d : D) (Q : Prop) (uQ : Dum Q := ()) : Prop := match d with
  | .ins c' _ _ => c' = c ∧ Q
  | _ => False
theorem prp_i {c c' : String} {ks ds} {Q : Prop} : prp c (.ins c' ks ds) Q = (c' = c ∧ Q) := rfl
section
variable {P : D × Fg → List D → Prop} {X : XP} {st : List D} {ρ : En} {f g k : SE} {fs gs : SEs} {t u : ST} {w : SF}
theorem w_var {i : Nat} : R.Wp (eVar i ρ st) P X = slp ρ[i]? (fun p => P p st) := by
  unfold eVar
  cases ρ[i]? with
  | none => (first | rfl | exact wp_ok | exact wp_no | (simp only [wp_q] <;> rfl))
  | some s => cases s <;> (first | rfl | exact wp_ok | exact wp_no | (simp only [wp_q] <;> rfl))
theorem w_cst {d : D} : R.Wp (eCst d ρ st) P X = P (d, .fz) st := by first | rfl | exact wp_ok | exact wp_no | (simp only [wp_q] <;> rfl)
def fzp (p : D × Fg) (Q : D → Prop) (uQ : Dum Q := ()) : Prop := match p.2 with
  | .bw => False
  | _ => Q p.1
theorem fzp_fz {d : D} {Q : D → Prop} : fzp (d, .fz) Q = Q d := rfl
theorem fzp_fr {d : D} {Q : D → Prop} : fzp (d, .fr) Q = Q d := rfl
theorem w_fzd {P : D → List D → Prop} : R.Wp (fzd f ρ st) P X = R.Wp (f ρ st) (fun p st1 => fzp p fun d => P d st1) X := by
  unfold fzd
  rw [wp_bind]
  congr 1
  funext p st1
  obtain ⟨d, g⟩ := p
  cases g <;> (first | rfl | exact wp_ok | exact wp_no | (simp only [wp_q] <;> rfl))
theorem w_nil {P : List D → List D → Prop} : R.Wp (eNil ρ st) P X = P [] st := by first | rfl | exact wp_ok | exact wp_no | (simp only [wp_q] <;> rfl)
theorem w_cons {P : List D → List D → Prop} : R.Wp (eCons f fs ρ st) P X = R.Wp (f ρ st) (fun p st1 => fzp p fun d => R.Wp (fs ρ st1) (fun ds st2 => P (d :: ds) st2) X) X := by
  unfold eCons
  rw [wp_bind, w_fzd]
  congr 1
  funext p st1
  congr 1
  funext d
  rw [wp_bind]
  first | rfl | exact wp_ok | exact wp_no | (simp only [wp_q] <;> rfl)
theorem w_bin {o : SB} : R.Wp (eBin o f g ρ st) P X = R.Wp (f ρ st) (fun x st1 => R.Wp (g ρ st1) (fun y st2 => R.Wp (o (rs st2 x.1) (rs st2 y.1) st2) P X) X) X := by
  unfold eBin; rw [wp_bind]; congr 1; funext x st1; rw [wp_bind]
theorem w_idx : R.Wp (eIdx f g ρ st) P X = R.Wp (f ρ st) (fun x st1 => R.Wp (g ρ st1) (fun y st2 => R.Wp (ixD (rs st2 x.1) (rs st2 y.1) st2) P X) X) X := w_bin
theorem w_neg : R.Wp (eNeg f ρ st) P X = R.Wp (f ρ st) (fun x st1 => intp x.1 fun i => P (.int (-i), .fz) st1) X := by
  unfold eNeg; rw [wp_bind]; congr 1; funext x st1; obtain ⟨d, gg⟩ := x; cases d <;> (first | rfl | exact wp_ok | exact wp_no | (simp only [wp_q] <;> rfl))
/-! operations on numbers -/
variable {i j : Int}
theorem o_add : R.Wp (bAdd (.int i) (.int j) st) P X = P (.int (i + j), .fz) st := by first | rfl | exact wp_ok | exact wp_no | (simp only [wp_q] <;> rfl)
theorem o_sub : R.Wp (bSub (.int i) (.int j) st) P X = P (.int (i - j), .fz) st := by first | rfl | exact wp_ok | exact wp_no | (simp only [wp_q] <;> rfl)
theorem o_mul : R.Wp (bMul (.int i) (.int j) st) P X = (mulOk i j = true ∧ P (.int (i * j), .fz) st) := by
  show R.Wp (if mulOk i j then okI (i * j) st else .no) P X = _
  rw [wp_ite]
  by_cases h : mulOk i j = true
  · simp [h, okI, wp_ok]
  · simp [h, wp_no]
theorem o_fdiv : R.Wp (bFdiv (.int i) (.int j) st) P X = ((0 < j ∧ j < 2 ^ 9000) ∧ P (.int (i / j), .fz) st) := by
  show R.Wp (if 0 < j ∧ j < 2 ^ 9000 then okI (i / j) st else .no) P X = _
  by_cases h : 0 < j ∧ j < 2 ^ 9000
  · rw [if_pos h]; exact and_t h (by first | rfl | exact wp_ok | exact wp_no | (simp only [wp_q] <;> rfl))
  · rw [if_neg h]; exact and_f h (by first | rfl | exact wp_ok | exact wp_no | (simp only [wp_q] <;> rfl))
theorem o_mod : R.Wp (bMod (.int i) (.int j) st) P X = (0 < j ∧ P (.int (i % j), .fz) st) := by
  show R.Wp (if 0 < j then okI (i % j) st else .no) P X = _
  by_cases h : 0 < j
  · rw [if_pos h]; exact and_t h (by first | rfl | exact wp_ok | exact wp_no | (simp only [wp_q] <;> rfl))
  · rw [if_neg h]; exact and_f h (by first | rfl | exact wp_ok | exact wp_no | (simp only [wp_q] <;> rfl))
theorem o_pow : R.Wp (bPow (.int i) (.int j) st) P X = ((0 ≤ j ∧ j ≤ 1000000 ∧ i.natAbs < 2 ^ 64) ∧ P (.int (i ^ j.toNat), .fz) st) := by
  show R.Wp (if 0 ≤ j ∧ j ≤ 1000000 ∧ i.natAbs < 2 ^ 64 then okI (i ^ j.toNat) st else .no) P X = _
  by_cases h : 0 ≤ j ∧ j ≤ 1000000 ∧ i.natAbs < 2 ^ 64
  · rw [if_pos h]; exact and_t h (by first | rfl | exact wp_ok | exact wp_no | (simp only [wp_q] <;> rfl))
  · rw [if_neg h]; exact and_f h (by first | rfl | exact wp_ok | exact wp_no | (simp only [wp_q] <;> rfl))
theorem o_shl : R.Wp (bShl (.int i) (.int j) st) P X = ((0 ≤ j ∧ (Builtin.Int.intBits i : Int) + j ≤ 2 ^ 27) ∧ P (.int (i * 2 ^ j.toNat), .fz) st) := by
  show R.Wp (if 0 ≤ j ∧ (Builtin.Int.intBits i : Int) + j ≤ 2 ^ 27 then okI (i * 2 ^ j.toNat) st else .no) P X = _
  by_cases h : 0 ≤ j ∧ (Builtin.Int.intBits i : Int) + j ≤ 2 ^ 27
  · rw [if_pos h]; exact and_t h (by first | rfl | exact wp_ok | exact wp_no | (simp only [wp_q] <;> rfl))
  · rw [if_neg h]; exact and_f h (by first | rfl | exact wp_ok | exact wp_no | (simp only [wp_q] <;> rfl))
theorem o_shr : R.Wp (bShr (.int i) (.int j) st) P X = (0 ≤ j ∧ P (.int (i / 2 ^ j.toNat), .fz) st) := by
  show R.Wp (if 0 ≤ j then okI (i / 2 ^ j.toNat) st else .no) P X = _
  by_cases h : 0 ≤ j
  · rw [if_pos h]; exact and_t h (by first | rfl | exact wp_ok | exact wp_no | (simp only [wp_q] <;> rfl))
  · rw [if_neg h]; exact and_f h (by first | rfl | exact wp_ok | exact wp_no | (simp only [wp_q] <;> rfl))
theorem o_and : R.Wp (bAnd (.int i) (.int j) st) P X = P (.int (Builtin.bitAnd i j), .fz) st := by first | rfl | exact wp_ok | exact wp_no | (simp only [wp_q] <;> rfl)
theorem o_or : R.Wp (bOr (.int i) (.int j) st) P X = P (.int (Builtin.bitOr i j), .fz) st := by first | rfl | exact wp_ok | exact wp_no | (simp only [wp_q] <;> rfl)
theorem o_xor : R.Wp (bXor (.int i) (.int j) st) P X = P (.int (Builtin.bitXor i j), .fz) st := by first | rfl | exact wp_ok | exact wp_no | (simp only [wp_q] <;> rfl)
theorem o_eq : R.Wp (cEq (.int i) (.int j) st) P X = P (.bl (decide (i = j)), .fz) st := by first | rfl | exact wp_ok | exact wp_no | (simp only [wp_q] <;> rfl)
theorem o_ne : R.Wp (cNe (.int i) (.int j) st) P X = P (.bl (!decide (i = j)), .fz) st := by first | rfl | exact wp_ok | exact wp_no | (simp only [wp_q] <;> rfl)
theorem o_neB {a b : Bool} : R.Wp (cNe (.bl a) (.bl b) st) P X = P (.bl (!decide (a = b)), .fz) st := by first | rfl | exact wp_ok | exact wp_no | (simp only [wp_q] <;> rfl)
theorem o_lt : R.Wp (cLt (.int i) (.int j) st) P X = P (.bl (decide (i < j)), .fz) st := by first | rfl | exact wp_ok | exact wp_no | (simp only [wp_q] <;> rfl)
theorem o_le : R.Wp (cLe (.int i) (.int j) st) P X = P (.bl (decide (i ≤ j)), .fz) st := by first | rfl | exact wp_ok | exact wp_no | (simp only [wp_q] <;> rfl)
theorem o_gt : R.Wp (cGt (.int i) (.int j) st) P X = P (.bl (decide (j < i)), .fz) st := by first | rfl | exact wp_ok | exact wp_no | (simp only [wp_q] <;> rfl)
theorem o_ge : R.Wp (cGe (.int i) (.int j) st) P X = P (.bl (decide (j ≤ i)), .fz) st := by first | rfl | exact wp_ok | exact wp_no | (simp only [wp_q] <;> rfl)
/-! lists -/
theorem o_ixl {xs : List D} : R.Wp (ixD (.lst xs) (.int i) st) P X = optp (atI xs i) (fun d => P (d, .fz) st) := by
  show R.Wp (ofD (atI xs i) st) P X = _
  cases h : atI xs i <;> (first | rfl | exact wp_ok | exact wp_no | (simp only [wp_q] <;> rfl))
theorem o_ixt {xs : List D} : R.Wp (ixD (.tup xs) (.int i) st) P X = optp (atI xs i) (fun d => P (d, .fz) st) := o_ixl (xs := xs)
theorem o_addl {xs ys : List D} : R.Wp (bAdd (.lst xs) (.lst ys) st) P X = (xs.length + ys.length ≤ maxLen ∧ P (.lst (xs ++ ys), .fr) st) := by
  show R.Wp (if xs.length + ys.length ≤ maxLen then .ok (.lst (xs ++ ys), .fr) st else .no) P X = _
  by_cases h : xs.length + ys.length ≤ maxLen
  · rw [if_pos h]; exact and_t h (by first | rfl | exact wp_ok | exact wp_no | (simp only [wp_q] <;> rfl))
  · rw [if_neg h]; exact and_f h (by first | rfl | exact wp_ok | exact wp_no | (simp only [wp_q] <;> rfl))
theorem w_tup : R.Wp (eTup fs ρ st) P X = R.Wp (fs ρ st) (fun ds st1 => ds.length ≤ maxLen ∧ P (.tup ds, .fz) st1) X := by
  unfold eTup; rw [wp_bind]; congr 1; funext ds st1
  by_cases h : ds.length ≤ maxLen
  · rw [if_pos h]; exact and_t h (by first | rfl | exact wp_ok | exact wp_no | (simp only [wp_q] <;> rfl))
  · rw [if_neg h]; exact and_f h (by first | rfl | exact wp_ok | exact wp_no | (simp only [wp_q] <;> rfl))
theorem w_lst : R.Wp (eLst fs ρ st) P X = R.Wp (fs ρ st) (fun ds st1 => ds.length ≤ maxLen ∧ P (.lst ds, .fr) st1) X := by
  unfold eLst; rw [wp_bind]; congr 1; funext ds st1
  by_cases h : ds.length ≤ maxLen
  · rw [if_pos h]; exact and_t h (by first | rfl | exact wp_ok | exact wp_no | (simp only [wp_q] <;> rfl))
  · rw [if_neg h]; exact and_f h (by first | rfl | exact wp_ok | exact wp_no | (simp only [wp_q] <;> rfl))
theorem w_sl {l h : En → List D → R (Option Int)} : R.Wp (eSl f l h ρ st) P X = R.Wp (f ρ st) (fun x st1 => R.Wp (l ρ st1) (fun lo st2 => R.Wp (h ρ st2) (fun hi st3 => R.Wp (slD (rs st3 x.1) lo hi st3) P X) X) X) X := by
  unfold eSl; rw [wp_bind]; congr 1; funext x st1; rw [wp_bind]; congr 1; funext x st1; rw [wp_bind]
theorem w_eno {P : Option Int → List D → Prop} : R.Wp (eNo ρ st) P X = P none st := by first | rfl | exact wp_ok | exact wp_no | (simp only [wp_q] <;> rfl)
theorem w_part {P : Option Int → List D → Prop} : R.Wp (ePart f ρ st) P X = R.Wp (f ρ st) (fun x st1 => intp x.1 fun i => P (some i) st1) X := by
  unfold ePart; rw [wp_bind]; congr 1; funext x st1; obtain ⟨d, gg⟩ := x; cases d <;> (first | rfl | exact wp_ok | exact wp_no | (simp only [wp_q] <;> rfl))
theorem o_sll {xs : List D} {lo hi : Option Int} : R.Wp (slD (.lst xs) lo hi st) P X = P (.lst (cut xs lo hi), .fr) st := by first | rfl | exact wp_ok | exact wp_no | (simp only [wp_q] <;> rfl)
theorem o_sls {xs : List D} {lo hi : Option Int} : R.Wp (slD (.scr xs) lo hi st) P X = P (.lst (cut xs lo hi), .fr) st := by first | rfl | exact wp_ok | exact wp_no | (simp only [wp_q] <;> rfl)
theorem w_fld {n : String} : R.Wp (eFld f n ρ st) P X = R.Wp (f ρ st) (fun x st1 => R.Wp (atD n (rs st1 x.1) st1) P X) X := by
  unfold eFld; rw [wp_bind]
theorem o_fld {c n : String} {ks : List String} {ds : List D} : R.Wp (atD n (.ins c ks ds) st) P X = optp (lkp ks ds n) (fun d => P (d, .fz) st) := by
  show R.Wp (ofD (lkp ks ds n) st) P X = _
  cases h : lkp ks ds n <;> (first | rfl | exact wp_ok | exact wp_no | (simp only [wp_q] <;> rfl))
theorem w_prop {c : String} : R.Wp (eProp f c w ρ st) P X = R.Wp (f ρ st) (fun p st1 => fzp p fun x => prp c (rs st1 x) (R.Wp (w [x] st1) P NX)) X := by
  unfold eProp; rw [wp_bind, w_fzd]; congr 1; funext p st1; congr 1; funext x
  cases rs st1 x with
  | ins c' ks ds =>
    show R.Wp (if c' = c then noX (w [x] st1) else .no) P X = _
    by_cases h : c' = c
    · rw [if_pos h, wp_noX]; exact and_t h (by first | rfl | exact wp_ok | exact wp_no | (simp only [wp_q] <;> rfl))
    · rw [if_neg h]; exact and_f h (by first | rfl | exact wp_ok | exact wp_no | (simp only [wp_q] <;> rfl))
  | _ => (first | rfl | exact wp_ok | exact wp_no | (simp only [wp_q] <;> rfl))
theorem w_call : R.Wp (eCall w fs ρ st) P X = R.Wp (fs ρ st) (fun ds st1 => R.Wp (w ds st1) P X) X := by
  unfold eCall; rw [wp_bind]
theorem w_callK {p : List Nat} : R.Wp (eCallK w p fs gs ρ st) P X = R.Wp (fs ρ st) (fun ds st1 => R.Wp (gs ρ st1) (fun es st2 => R.Wp (w (perm p (ds ++ es)) st2) P X) X) X := by
  unfold eCallK; rw [wp_bind]; congr 1; funext x st1; rw [wp_bind]
theorem w_fun1 {h : D → List D → R (D × Fg)} : R.Wp (eFun1 h f ρ st) P X = R.Wp (f ρ st) (fun x st1 => R.Wp (h (rs st1 x.1) st1) P X) X := by
  unfold eFun1; rw [wp_bind]
theorem o_lenl {xs : List D} : R.Wp (fLen (.lst xs) st) P X = P (.int xs.length, .fz) st := by first | rfl | exact wp_ok | exact wp_no | (simp only [wp_q] <;> rfl)
theorem o_lent {xs : List D} : R.Wp (fLen (.tup xs) st) P X = P (.int xs.length, .fz) st := by first | rfl | exact wp_ok | exact wp_no | (simp only [wp_q] <;> rfl)
theorem o_listl {xs : List D} : R.Wp (fList (.lst xs) st) P X = P (.lst xs, .fr) st := by first | rfl | exact wp_ok | exact wp_no | (simp only [wp_q] <;> rfl)
theorem o_listt {xs : List D} : R.Wp (fList (.tup xs) st) P X = P (.lst xs, .fr) st := by first | rfl | exact wp_ok | exact wp_no | (simp only [wp_q] <;> rfl)
theorem o_tuplel {xs : List D} : R.Wp (fTuple (.lst xs) st) P X = P (.tup xs, .fz) st := by first | rfl | exact wp_ok | exact wp_no | (simp only [wp_q] <;> rfl)
theorem o_tuplet {xs : List D} : R.Wp (fTuple (.tup xs) st) P X = P (.tup xs, .fz) st := by first | rfl | exact wp_ok | exact wp_no | (simp only [wp_q] <;> rfl)
theorem o_int : R.Wp (fInt (.int i) st) P X = P (.int i, .fz) st := by first | rfl | exact wp_ok | exact wp_no | (simp only [wp_q] <;> rfl)
theorem o_intb {b : Bool} : R.Wp (fInt (.bl b) st) P X = P (.int (if b then 1 else 0), .fz) st := by first | rfl | exact wp_ok | exact wp_no | (simp only [wp_q] <;> rfl)
theorem o_abs : R.Wp (fAbs (.int i) st) P X = P (.int (if i < 0 then -i else i), .fz) st := by first | rfl | exact wp_ok | exact wp_no | (simp only [wp_q] <;> rfl)
theorem boolsOf_map : ∀ bs : List Bool, boolsOf (bs.map D.bl) = some bs
  | [] => rfl
  | b :: bs => by show (boolsOf (bs.map D.bl)).map (b :: ·) = _; rw [boolsOf_map bs]; (first | rfl | exact wp_ok | exact wp_no | (simp only [wp_q] <;> rfl))
theorem intsOf_map : ∀ bs : List Int, intsOf (bs.map D.int) = some bs
  | [] => rfl
  | b :: bs => by show (intsOf (bs.map D.int)).map (b :: ·) = _; rw [intsOf_map bs]; (first | rfl | exact wp_ok | exact wp_no | (simp only [wp_q] <;> rfl))
theorem o_all {bs : List Bool} : R.Wp (fAll (.lst (bs.map D.bl)) st) P X = P (.bl (bs.all id), .fz) st := by
  show R.Wp (match boolsOf (bs.map D.bl) with | some bs => okB (bs.all id) st | none => .no) P X = _
  rw [boolsOf_map]; (first | rfl | exact wp_ok | exact wp_no | (simp only [wp_q] <;> rfl))
theorem o_any {bs : List Bool} : R.Wp (fAny (.lst (bs.map D.bl)) st) P X = P (.bl (bs.any id), .fz) st := by
  show R.Wp (match boolsOf (bs.map D.bl) with | some bs => okB (bs.any id) st | none => .no) P X = _
  rw [boolsOf_map]; (first | rfl | exact wp_ok | exact wp_no | (simp only [wp_q] <;> rfl))
theorem o_sum {bs : List Int} : R.Wp (fSum (.lst (bs.map D.int)) st) P X = P (.int bs.sum, .fz) st := by
  show R.Wp (match intsOf (bs.map D.int) with | some bs => okI bs.sum st | none => .no) P X = _
  rw [intsOf_map]; (first | rfl | exact wp_ok | exact wp_no | (simp only [wp_q] <;> rfl))
theorem w_is {t : List Ty} : R.Wp (eIs f t ρ st) P X = R.Wp (f ρ st) (fun x st1 => typ (rs st1 x.1) fun d => P (.bl (t.any (isTy d)), .fz) st1) X := by
  unfold eIs; rw [wp_bind]; congr 1; funext x st1; cases rs st1 x.1 <;> (first | rfl | exact wp_ok | exact wp_no | (simp only [wp_q] <;> rfl))
theorem w_isC {cs : List String} {c : String} : R.Wp (eIsC cs f c ρ st) P X = R.Wp (f ρ st) (fun x st1 => icp cs c (rs st1 x.1) fun b => P (.bl b, .fz) st1) X := by
  unfold eIsC; rw [wp_bind]; congr 1; funext x st1; cases rs st1 x.1 <;> try (first | rfl | exact wp_ok | exact wp_no | (simp only [wp_q] <;> rfl))
  rename_i c' ks ds
  show R.Wp (if c' ∈ cs then okB (decide (c' = c)) st1 else .no) P X = _
  by_cases h : c' ∈ cs
  · rw [if_pos h]; exact and_t h (by first | rfl | exact wp_ok | exact wp_no | (simp only [wp_q] <;> rfl))
  · rw [if_neg h]; exact and_f h (by first | rfl | exact wp_ok | exact wp_no | (simp only [wp_q] <;> rfl))
theorem w_isN : R.Wp (eIsN f ρ st) P X = R.Wp (f ρ st) (fun x st1 => P (.bl x.1.isNon, .fz) st1) X := by
  unfold eIsN; rw [wp_bind]; (first | rfl | exact wp_ok | exact wp_no | (simp only [wp_q] <;> rfl))
theorem w_notN : R.Wp (eNotN f ρ st) P X = R.Wp (f ρ st) (fun x st1 => P (.bl (!x.1.isNon), .fz) st1) X := by
  unfold eNotN; rw [wp_bind]; (first | rfl | exact wp_ok | exact wp_no | (simp only [wp_q] <;> rfl))
theorem w_chain {o o' : SB} : R.Wp (eChain o o' f g k ρ st) P X = R.Wp (f ρ st) (fun x st1 => R.Wp (g ρ st1) (fun y st2 => R.Wp (o (rs st2 x.1) (rs st2 y.1) st2) (fun r st3 => blp r.1 fun b => itp b (fun _ => R.Wp (k ρ st3) (fun z st4 => R.Wp (o' (rs st4 y.1) (rs st4 z.1) st4) P X) X) (fun _ => P (.bl false, .fz) st3)) X) X) X := by
  unfold eChain; rw [wp_bind]; congr 1; funext x st1; rw [wp_bind]; congr 1; funext y st2; rw [wp_bind]; congr 1; funext r st3
  obtain ⟨d, gg⟩ := r
  cases d <;> try (first | rfl | exact wp_ok | exact wp_no | (simp only [wp_q] <;> rfl))
  rename_i b
  cases b
  · first | rfl | exact wp_ok | exact wp_no | (simp only [wp_q] <;> rfl)
  · show R.Wp ((k ρ st3).bind _) P X = _
    rw [wp_bind]; (first | rfl | exact wp_ok | exact wp_no | (simp only [wp_q] <;> rfl))
/-! truth -/
variable {B : Bool → List D → Prop}
theorem w_tval : R.Wp (tVal f ρ st) B X = R.Wp (f ρ st) (fun x st1 => trp (rs st1 x.1) fun b => B b st1) X := by
  unfold tVal; rw [wp_bind]; congr 1; funext x st1; unfold trp; cases tru (rs st1 x.1) <;> (first | rfl | exact wp_ok | exact wp_no | (simp only [wp_q] <;> rfl))
theorem w_tand : R.Wp (tAnd t u ρ st) B X = R.Wp (t ρ st) (fun x st1 => itp x (fun _ => R.Wp (u ρ st1) B X) (fun _ => B false st1)) X := by
  unfold tAnd; rw [wp_bind]; congr 1; funext x st1; cases x <;> (first | rfl | exact wp_ok | exact wp_no | (simp only [wp_q] <;> rfl))
theorem w_tor : R.Wp (tOr t u ρ st) B X = R.Wp (t ρ st) (fun x st1 => itp x (fun _ => B true st1) (fun _ => R.Wp (u ρ st1) B X)) X := by
  unfold tOr; rw [wp_bind]; congr 1; funext x st1; cases x <;> (first | rfl | exact wp_ok | exact wp_no | (simp only [wp_q] <;> rfl))
theorem w_tnot : R.Wp (tNot t ρ st) B X = R.Wp (t ρ st) (fun x st1 => B (!x) st1) X := by
  unfold tNot; rw [wp_bind]; (first | rfl | exact wp_ok | exact wp_no | (simp only [wp_q] <;> rfl))
theorem w_yes : R.Wp (tYes ρ st) B X = B true st := by first | rfl | exact wp_ok | exact wp_no | (simp only [wp_q] <;> rfl)
theorem w_eand : R.Wp (eAnd f g ρ st) P X = R.Wp (f ρ st) (fun x st1 => blp x.1 fun b => itp b (fun _ => R.Wp (g ρ st1) P X) (fun _ => P (.bl false, .fz) st1)) X := by
  unfold eAnd; rw [wp_bind]; congr 1; funext x st1; obtain ⟨d, gg⟩ := x; cases d <;> try (first | rfl | exact wp_ok | exact wp_no | (simp only [wp_q] <;> rfl))
  rename_i b; cases b <;> (first | rfl | exact wp_ok | exact wp_no | (simp only [wp_q] <;> rfl))
theorem w_eor : R.Wp (eOr f g ρ st) P X = R.Wp (f ρ st) (fun x st1 => blp x.1 fun b => itp b (fun _ => P (.bl true, .fz) st1) (fun _ => R.Wp (g ρ st1) P X)) X := by
  unfold eOr; rw [wp_bind]; congr 1; funext x st1; obtain ⟨d, gg⟩ := x; cases d <;> try (first | rfl | exact wp_ok | exact wp_no | (simp only [wp_q] <;> rfl))
  rename_i b; cases b <;> (first | rfl | exact wp_ok | exact wp_no | (simp only [wp_q] <;> rfl))
theorem w_enot : R.Wp (eNot f ρ st) P X = R.Wp (f ρ st) (fun x st1 => blp x.1 fun b => P (.bl (!b), .fz) st1) X := by
  unfold eNot; rw [wp_bind]; congr 1; funext x st1; obtain ⟨d, gg⟩ := x; cases d <;> (first | rfl | exact wp_ok | exact wp_no | (simp only [wp_q] <;> rfl))
theorem w_eif : R.Wp (eIf t f g ρ st) P X = R.Wp (t ρ st) (fun b st1 => itp b (fun _ => R.Wp (f ρ st1) P X) (fun _ => R.Wp (g ρ st1) P X)) X := by
  unfold eIf; rw [wp_bind]; congr 1; funext b st1; cases b <;> (first | rfl | exact wp_ok | exact wp_no | (simp only [wp_q] <;> rfl))
/-! walks -/
variable {I : List D × Gd → List D → Prop}
def wkp (o : Option (List D × Gd)) (Q : List D → Gd → Prop) (u : Dum Q := ()) : Prop := match o with
  | some (xs, gs) => Q xs gs
  | none => False
theorem wkp_s {xs : List D} {gs : Gd} {Q : List D → Gd → Prop} : wkp (some (xs, gs)) Q = Q xs gs := rfl
def refW (m : Nat) (o : Option D) : Option (List D × Gd) := match o with
  | some (.lst xs) => some (xs, [(m, xs)])
  | _ => none
theorem wk_l {xs : List D} : walkOf (.lst xs) st = some (xs, []) := rfl
theorem wk_t {xs : List D} : walkOf (.tup xs) st = some (xs, []) := rfl
theorem wk_r {m : Nat} : walkOf (.ref m) st = refW m st[m]? := rfl
theorem wk_rl {m : Nat} {xs : List D} : refW m (some (.lst xs)) = some (xs, [(m, xs)]) := rfl
theorem w_ilist : R.Wp (iList f ρ st) I X = R.Wp (f ρ st) (fun p st1 => fzp p fun d => wkp (walkOf d st1) fun xs gs => I (xs, gs) st1) X := by
  unfold iList; rw [wp_bind, w_fzd]; congr 1; funext p st1; congr 1; funext d; cases walkOf d st1 <;> (first | rfl | exact wp_ok | exact wp_no | (simp only [wp_q] <;> rfl))
theorem w_irev : R.Wp (iRev f ρ st) I X = R.Wp (f ρ st) (fun p st1 => fzp p fun d => wkp (walkOf d st1) fun xs gs => I (xs.reverse, gs) st1) X := by
  unfold iRev; rw [wp_bind, w_fzd]; congr 1; funext p st1; congr 1; funext d; cases walkOf d st1 <;> (first | rfl | exact wp_ok | exact wp_no | (simp only [wp_q] <;> rfl))
theorem w_ienum : R.Wp (iEnum f ρ st) I X = R.Wp (f ρ st) (fun p st1 => fzp p fun d => lsp (d, .fr) fun xs => I (enumL 0 xs, []) st1) X := by
  unfold iEnum; rw [wp_bind, w_fzd]; congr 1; funext p st1; congr 1; funext d; cases d <;> (first | rfl | exact wp_ok | exact wp_no | (simp only [wp_q] <;> rfl))
theorem w_range1 : R.Wp (iRange1 f ρ st) I X = R.Wp (f ρ st) (fun x st1 => intp x.1 fun j => smallI j = true ∧ I (rangeL 0 j, []) st1) X := by
  unfold iRange1; rw [wp_bind]; congr 1; funext x st1; obtain ⟨d, gg⟩ := x; cases d <;> try (first | rfl | exact wp_ok | exact wp_no | (simp only [wp_q] <;> rfl))
  rename_i j
  show R.Wp (if smallI j then .ok (rangeL 0 j, []) st1 else .no) I X = _
  by_cases h : smallI j = true
  · rw [if_pos h]; exact and_t h (by first | rfl | exact wp_ok | exact wp_no | (simp only [wp_q] <;> rfl))
  · rw [if_neg h]; exact and_f h (by first | rfl | exact wp_ok | exact wp_no | (simp only [wp_q] <;> rfl))
theorem w_range2 : R.Wp (iRange2 f g ρ st) I X = R.Wp (f ρ st) (fun x st1 => R.Wp (g ρ st1) (fun y st2 => intp x.1 fun i => intp y.1 fun j => (smallI i && smallI j) = true ∧ I (rangeL i j, []) st2) X) X := by
  unfold iRange2; rw [wp_bind]; congr 1; funext x st1; rw [wp_bind]; congr 1; funext y st2; obtain ⟨d, gg⟩ := x; obtain ⟨e, hh⟩ := y; cases d <;> cases e <;> try (first | rfl | exact wp_ok | exact wp_no | (simp only [wp_q] <;> rfl))
  rename_i i j
  show R.Wp (if smallI i && smallI j then .ok (rangeL i j, []) st2 else .no) I X = _
  by_cases h : (smallI i && smallI j) = true
  · rw [if_pos h]; exact and_t h (by first | rfl | exact wp_ok | exact wp_no | (simp only [wp_q] <;> rfl))
  · rw [if_neg h]; exact and_f h (by first | rfl | exact wp_ok | exact wp_no | (simp only [wp_q] <;> rfl))
theorem w_zip : R.Wp (iZip f g ρ st) I X = R.Wp (f ρ st) (fun p st1 => fzp p fun x => R.Wp (g ρ st1) (fun q st2 => fzp q fun y => zpp x y fun xs => I (xs, []) st2) X) X := by
  unfold iZip; rw [wp_bind, w_fzd]; congr 1; funext p st1; congr 1; funext x; rw [wp_bind, w_fzd]; congr 1; funext p st1; congr 1; funext y; cases x <;> cases y <;> (first | rfl | exact wp_ok | exact wp_no | (simp only [wp_q] <;> rfl))
/-- a comprehension by an invariant -/
theorem compL_ok {gs : Gd} {gt : SG} {tt : ST} {e : SE} {ρ0 : En} : ∀ (ds : List D) (J : Nat → List D → List D → Prop) (acc st : List D), (∀ m acc st, J m acc st → gdOk gs st = true) → J 0 acc st →
    (∀ m d acc st, ds[m]? = some d → J m acc st → ∃ ρ1, gt d ρ0 = some ρ1 ∧ R.Wp (tt ρ1 st) (fun b st1 => if b = true then R.Wp (e ρ1 st1) (fun p st2 => fzp p fun x => acc.length < maxLen ∧ J (m + 1) (acc ++ [x]) st2) NX else J (m + 1) acc st1) NX) →
    ∃ xs st', compL gs gt tt e ρ0 ds acc st = some (xs, st') ∧ J ds.length xs st'
  | [], J, acc, st, hg, h0, hs => ⟨acc, st, by unfold compL; rw [if_pos (hg _ _ _ h0)], h0⟩
  | d :: ds, J, acc, st, hgd, h0, hs => by
    obtain ⟨ρ1, hg, hw⟩ := hs 0 d acc st rfl h0
    obtain ⟨b, st1, ht, hb⟩ := hw.eq
    unfold compL
    rw [if_pos (hgd _ _ _ h0), hg]
    show ∃ xs st', (match tt ρ1 st with
      | .ok true st1 => (match fzd e ρ1 st1 with
        | .ok x st2 => if acc.length < maxLen then compL gs gt tt e ρ0 ds (acc ++ [x]) st2 else none
        | _ => none)
      | .ok false st1 => compL gs gt tt e ρ0 ds acc st1
      | _ => none) = some (xs, st') ∧ _
    rw [ht]
    have rest : ∀ acc' st', J 1 acc' st' → ∃ xs st'', compL gs gt tt e ρ0 ds acc' st' = some (xs, st'') ∧ J (d :: ds).length xs st'' := fun acc' st' hj => compL_ok ds (fun m => J (m + 1)) acc' st' (fun m => hgd (m + 1)) hj fun m d' a s hd hj' => hs (m + 1) d' a s (by simpa using hd) hj'
    cases b with
    | false =>
      rw [if_neg Bool.false_ne_true] at hb
      exact rest acc st1 hb
    | true =>
      rw [if_pos rfl] at hb
      have hb2 : R.Wp (fzd e ρ1 st1) (fun x st2 => acc.length < maxLen ∧ J 1 (acc ++ [x]) st2) NX := by rw [w_fzd]; exact hb
      obtain ⟨x, st2, he, hl, hj⟩ := hb2.eq
      show ∃ xs st', (match fzd e ρ1 st1 with
        | .ok x st2 => if acc.length < maxLen then compL gs gt tt e ρ0 ds (acc ++ [x]) st2 else none
        | _ => none) = some (xs, st') ∧ _
      rw [he]
      show ∃ xs st', (if acc.length < maxLen then compL gs gt tt e ρ0 ds (acc ++ [x]) st2 else none) = some (xs, st') ∧ _
      rw [if_pos hl]
      exact rest _ _ hj
def compP (gs : Gd) (gt : SG) (tt : ST) (e : SE) (ρ0 : En) (ds st : List D) (Q : List D → List D → Prop) (u : Dum Q := ()) : Prop := ∃ xs st', compL gs gt tt e ρ0 ds [] st = some (xs, st') ∧ Q xs st'
theorem w_comp {it : SI} {gt : SG} {tt : ST} {e : SE} {vs : List Nat} : R.Wp (eComp it gt tt e vs ρ st) P X = R.Wp (it ρ st) (fun ds st1 => compP ds.2 gt tt e (wipeE ρ vs) ds.1 st1 fun xs st2 => P (.lst xs, .fr) st2) X := by
  unfold eComp; rw [wp_bind]; congr 1; funext ds st1
  obtain ⟨ds, gs⟩ := ds
  unfold compP
  dsimp only
  cases compL gs gt tt e (wipeE ρ vs) ds [] st1 with
  | none => exact (wp_no (α := D × Fg)).trans (propext ⟨fun z => z.elim, fun ⟨_, _, z, _⟩ => by cases z⟩)
  | some p => exact (wp_ok (α := D × Fg)).trans (propext ⟨fun z => ⟨p.1, p.2, rfl, z⟩, fun ⟨xs, st', z, q⟩ => by cases z; exact q⟩)
theorem comp_okg {gs : Gd} {gt : SG} {tt : ST} {e : SE} {ρ0 : En} {ds : List D} {Q : List D → List D → Prop} (J : Nat → List D → List D → Prop) (h0 : J 0 [] st)
    (hs : ∀ m d acc st, ds[m]? = some d → J m acc st → ∃ ρ1, gt d ρ0 = some ρ1 ∧ R.Wp (tt ρ1 st) (fun b st1 => if b = true then R.Wp (e ρ1 st1) (fun p st2 => fzp p fun x => acc.length < maxLen ∧ J (m + 1) (acc ++ [x]) st2) NX else J (m + 1) acc st1) NX)
    (hq : ∀ xs st', J ds.length xs st' → Q xs st') (hgd : ∀ m acc st, J m acc st → gdOk gs st = true) : compP gs gt tt e ρ0 ds st Q := by
  obtain ⟨xs, st', h, hj⟩ := compL_ok ds J [] st hgd h0 hs
  exact ⟨xs, st', h, hq _ _ hj⟩
/-- a comprehension without tests whose element is a function of the item and changes no store -/
theorem comp_mapg {gs : Gd} {gt : SG} {e : SE} {ρ0 : En} {ds : List D} {Q : List D → List D → Prop} (h : D → D) (hl : ds.length ≤ maxLen)
    (hs : ∀ d ∈ ds, ∃ ρ1, gt d ρ0 = some ρ1 ∧ R.Wp (e ρ1 st) (fun p st2 => fzp p fun x => x = h d ∧ st2 = st) NX) (hq : Q (ds.map h) st) (hgd : gdOk gs st = true) : compP gs gt tYes e ρ0 ds st Q := by
  refine comp_okg (fun m acc st' => acc = (ds.take m).map h ∧ st' = st) ⟨rfl, rfl⟩ (fun m d acc st' hd hj => ?_) (fun xs st' hj => ?_) fun m acc st' hj => by rw [hj.2]; exact hgd
  · obtain ⟨rfl, rfl⟩ := hj
    obtain ⟨ρ1, h1, h2⟩ := hs d (List.mem_of_getElem? hd)
    refine ⟨ρ1, h1, ?_⟩
    rw [w_yes, if_pos rfl]
    refine h2.imp fun p st2 q => ?_
    have hm := (List.getElem?_eq_some_iff.mp hd).1
    have key : ∀ x, x = h d → ((ds.take m).map h).length < maxLen ∧ ((ds.take m).map h ++ [x] = (ds.take (m + 1)).map h ∧ st' = st') := fun x hx => by
      refine ⟨by rw [List.length_map, List.length_take]; omega, ?_, rfl⟩
      rw [List.take_add_one, hd, List.map_append, hx]
      first | rfl | exact wp_ok | exact wp_no | (simp only [wp_q] <;> rfl)
    obtain ⟨d', g⟩ := p
    cases g with
    | bw => exact q.elim
    | fz => obtain ⟨q1, rfl⟩ := (q : d' = h d ∧ st2 = _); exact key _ q1
    | fr => obtain ⟨q1, rfl⟩ := (q : d' = h d ∧ st2 = _); exact key _ q1
  · obtain ⟨rfl, rfl⟩ := hj
    rw [List.take_length]
    exact hq
theorem comp_ok {gt : SG} {tt : ST} {e : SE} {ρ0 : En} {ds : List D} {Q' : List D → List D → Prop} (J : Nat → List D → List D → Prop) (h0 : J 0 [] st)
    (hs : ∀ m d acc st, ds[m]? = some d → J m acc st → ∃ ρ1, gt d ρ0 = some ρ1 ∧ R.Wp (tt ρ1 st) (fun b st1 => if b = true then R.Wp (e ρ1 st1) (fun p st2 => fzp p fun x => acc.length < maxLen ∧ J (m + 1) (acc ++ [x]) st2) NX else J (m + 1) acc st1) NX)
    (hq : ∀ xs st', J ds.length xs st' → Q' xs st') : compP [] gt tt e ρ0 ds st Q' := comp_okg J h0 hs hq fun _ _ _ _ => rfl
theorem comp_map {gt : SG} {e : SE} {ρ0 : En} {ds : List D} {Q' : List D → List D → Prop} (h : D → D) (hl : ds.length ≤ maxLen)
    (hs : ∀ d ∈ ds, ∃ ρ1, gt d ρ0 = some ρ1 ∧ R.Wp (e ρ1 st) (fun p st2 => fzp p fun x => x = h d ∧ st2 = st) NX) (hq : Q' (ds.map h) st) : compP [] gt tYes e ρ0 ds st Q' := comp_mapg h hl hs hq rfl
end
/-! ### statements -/
section
variable {Q : Fl → List D → Prop} {X : XP} {st : List D} {ρ : En} {a b : SS} {f g k : SE} {t : ST}
theorem s_next : R.Wp (sNext ρ st) Q X = Q (.nx ρ) st := by first | rfl | exact wp_ok | exact wp_no | (simp only [wp_q] <;> rfl)
def flp (f : Fl) (A : En → Prop) (B : Fl → Prop) (uA : Dum A := ()) (uB : Dum B := ()) : Prop := match f with
  | .nx ρ => A ρ
  | f => B f
theorem flp_nx {ρ : En} {A : En → Prop} {B : Fl → Prop} : flp (.nx ρ) A B = A ρ := rfl
theorem flp_bk {ρ : En} {A : En → Prop} {B : Fl → Prop} : flp (.bk ρ) A B = B (.bk ρ) := rfl
theorem flp_ct {ρ : En} {A : En → Prop} {B : Fl → Prop} : flp (.ct ρ) A B = B (.ct ρ) := rfl
theorem flp_rt {d g} {A : En → Prop} {B : Fl → Prop} : flp (.rt d g) A B = B (.rt d g) := rfl
theorem flp_xx {c ks ds} {ρ : En} {A : En → Prop} {B : Fl → Prop} : flp (.xx c ks ds ρ) A B = B (.xx c ks ds ρ) := rfl
theorem s_seq : R.Wp (sSeq a b ρ st) Q X = R.Wp (a ρ st) (fun f st1 => flp f (fun ρ1 => R.Wp (b ρ1 st1) Q X) (fun f => Q f st1)) X := by
  unfold sSeq; rw [wp_bind]; congr 1; funext f st1; cases f <;> (first | rfl | exact wp_ok | exact wp_no | (simp only [wp_q] <;> rfl))
theorem s_fz {is : List Nat} : R.Wp (sFz is a ρ st) Q X = R.Wp (a (frees is ρ) st) Q X := by first | rfl | exact wp_ok | exact wp_no | (simp only [wp_q] <;> rfl)
def frW (ρ : En) (i : Nat) (o : Option Sl) : En := match o with
  | some (.own d) => ρ.set i (.val d)
  | _ => ρ
theorem fr_nil : frees [] ρ = ρ := rfl
theorem fr_cons {i : Nat} {is : List Nat} : frees (i :: is) ρ = frees is (free1 ρ i) := rfl
theorem fr_1 {i : Nat} : free1 ρ i = frW ρ i ρ[i]? := by
  unfold free1 frW
  cases ρ[i]? with
  | none => (first | rfl | exact wp_ok | exact wp_no | (simp only [wp_q] <;> rfl))
  | some s => cases s <;> (first | rfl | exact wp_ok | exact wp_no | (simp only [wp_q] <;> rfl))
theorem fr_o {i : Nat} {d : D} : frW ρ i (some (.own d)) = ρ.set i (.val d) := rfl
theorem fr_v {i : Nat} {d : D} : frW ρ i (some (.val d)) = ρ := rfl
theorem fr_u {i : Nat} : frW ρ i (some .un) = ρ := rfl
theorem s_set {i : Nat} : R.Wp (sSet i f ρ st) Q X = R.Wp (f ρ st) (fun p st1 => kdp p fun s => Q (.nx (ρ.set i s)) st1) (fun c ks ds st => Q (.xx c ks ds ρ) st) := by
  unfold sSet; rw [wp_bindS]; congr 1; funext p st1; unfold kdp; cases keepD p <;> (first | rfl | exact wp_ok | exact wp_no | (simp only [wp_q] <;> rfl))
theorem kd_fz {d : D} : keepD (d, .fz) = some (.val d) := by cases d <;> (first | rfl | exact wp_ok | exact wp_no | (simp only [wp_q] <;> rfl))
theorem kd_fl {xs : List D} : keepD (.lst xs, .fr) = some (.own (.lst xs)) := rfl
theorem kd_fi {c ks ds} : keepD (.ins c ks ds, .fr) = some (.val (.ins c ks ds)) := rfl
theorem s_ref {i : Nat} : R.Wp (sRef i f ρ st) Q X = R.Wp (f ρ st) (fun p st1 => lsp p fun xs => Q (.nx (ρ.set i (.val (.ref st1.length)))) (st1 ++ [.lst xs])) (fun c ks ds st => Q (.xx c ks ds ρ) st) := by
  unfold sRef; rw [wp_bindS]; congr 1; funext p st1; obtain ⟨d, g⟩ := p; cases d <;> cases g <;> (first | rfl | exact wp_ok | exact wp_no | (simp only [wp_q] <;> rfl))
theorem s_asgG {gt : SG} : R.Wp (sAsgG gt f ρ st) Q X = R.Wp (f ρ st) (fun p st1 => fzp p fun d => optp (gt d ρ) fun ρ1 => Q (.nx ρ1) st1) (fun c ks ds st => Q (.xx c ks ds ρ) st) := by
  unfold sAsgG; rw [wp_bindS, w_fzd]; congr 1; funext p st1; congr 1; funext d; cases gt d ρ <;> (first | rfl | exact wp_ok | exact wp_no | (simp only [wp_q] <;> rfl))
theorem s_par {i j : Nat} : R.Wp (sPar i j f g ρ st) Q X = R.Wp (f ρ st) (fun p st1 => fzp p fun x => R.Wp (g ρ st1) (fun q st2 => fzp q fun y => Q (.nx ((ρ.set i (.val x)).set j (.val y))) st2) (fun c ks ds st => Q (.xx c ks ds ρ) st)) (fun c ks ds st => Q (.xx c ks ds ρ) st) := by
  unfold sPar; rw [wp_bindS, w_fzd]; congr 1; funext p st1; congr 1; funext d; rw [wp_bindS, w_fzd]; congr 1; funext p st1; congr 1; funext d; exact wp_ok
theorem s_par3 {i j l : Nat} : R.Wp (sPar3 i j l f g k ρ st) Q X = R.Wp (f ρ st) (fun p st1 => fzp p fun x => R.Wp (g ρ st1) (fun q st2 => fzp q fun y => R.Wp (k ρ st2) (fun r st3 => fzp r fun w => Q (.nx (((ρ.set i (.val x)).set j (.val y)).set l (.val w))) st3) (fun c ks ds st => Q (.xx c ks ds ρ) st)) (fun c ks ds st => Q (.xx c ks ds ρ) st)) (fun c ks ds st => Q (.xx c ks ds ρ) st) := by
  unfold sPar3; rw [wp_bindS, w_fzd]; congr 1; funext p st1; congr 1; funext d; rw [wp_bindS, w_fzd]; congr 1; funext p st1; congr 1; funext d; rw [wp_bindS, w_fzd]; congr 1; funext p st1; congr 1; funext d; exact wp_ok
theorem s_ret : R.Wp (sRet f ρ st) Q X = R.Wp (f ρ st) (fun p st1 => nbp p fun d g => Q (.rt d g) st1) (fun c ks ds st => Q (.xx c ks ds ρ) st) := by
  unfold sRet; rw [wp_bindS]; congr 1; funext p st1; obtain ⟨d, g⟩ := p
  cases g <;> (first | rfl | exact wp_ok | exact wp_no | (simp only [wp_q] <;> rfl))
theorem s_retV {i : Nat} : R.Wp (sRetV i ρ st) Q X = rtp ρ[i]? (fun d g => Q (.rt d g) st) := by
  unfold sRetV
  cases ρ[i]? with
  | none => (first | rfl | exact wp_ok | exact wp_no | (simp only [wp_q] <;> rfl))
  | some s => cases s <;> (first | rfl | exact wp_ok | exact wp_no | (simp only [wp_q] <;> rfl))
theorem s_retN : R.Wp (sRetN ρ st) Q X = Q (.rt .non .fz) st := by first | rfl | exact wp_ok | exact wp_no | (simp only [wp_q] <;> rfl)
theorem s_drop : R.Wp (sDrop f ρ st) Q X = R.Wp (f ρ st) (fun _ st1 => Q (.nx ρ) st1) (fun c ks ds st => Q (.xx c ks ds ρ) st) := by
  unfold sDrop; rw [wp_bindS]; (first | rfl | exact wp_ok | exact wp_no | (simp only [wp_q] <;> rfl))
theorem s_if : R.Wp (sIf t a b ρ st) Q X = R.Wp (t ρ st) (fun x st1 => itp x (fun _ => R.Wp (a ρ st1) Q X) (fun _ => R.Wp (b ρ st1) Q X)) (fun c ks ds st => Q (.xx c ks ds ρ) st) := by
  unfold sIf; rw [wp_bindS]; congr 1; funext x st1; cases x <;> (first | rfl | exact wp_ok | exact wp_no | (simp only [wp_q] <;> rfl))
theorem s_no : R.Wp (sNo ρ st) Q X = False := by first | rfl | exact wp_ok | exact wp_no | (simp only [wp_q] <;> rfl)
theorem s_bk : R.Wp (sBk ρ st) Q X = Q (.bk ρ) st := by first | rfl | exact wp_ok | exact wp_no | (simp only [wp_q] <;> rfl)
theorem s_ct : R.Wp (sCt ρ st) Q X = Q (.ct ρ) st := by first | rfl | exact wp_ok | exact wp_no | (simp only [wp_q] <;> rfl)
theorem s_for {it : SI} {gt : SG} : R.Wp (sFor it gt b ρ st) Q X = R.Wp (it ρ st) (fun ds st1 => R.Wp (forL ds.2 gt b ds.1 ρ st1) Q X) (fun c ks ds st => Q (.xx c ks ds ρ) st) := by
  unfold sFor; rw [wp_bindS]
theorem for_okg {gs : Gd} {gt : SG} : ∀ {ds : List D} (J : Nat → En → List D → Prop) {ρ : En} {st : List D}, (∀ m ρ st, J m ρ st → gdOk gs st = true) → J 0 ρ st →
    (∀ m d ρ st, ds[m]? = some d → J m ρ st → ∃ ρ1, gt d ρ = some ρ1 ∧ R.Wp (b ρ1 st) (fun f st' => match f with
      | .nx ρ2 => J (m + 1) ρ2 st'
      | .ct ρ2 => J (m + 1) ρ2 st'
      | .bk ρ2 => Q (.nx ρ2) st'
      | f => Q f st') X) →
    (∀ ρ st, J ds.length ρ st → Q (.nx ρ) st) → R.Wp (forL gs gt b ds ρ st) Q X
  | [], J, ρ, st, hgd, h0, hs, he => by
    unfold forL
    rw [if_pos (hgd _ _ _ h0)]
    exact ⟨he ρ st h0⟩
  | d :: ds, J, ρ, st, hgd, h0, hs, he => by
    obtain ⟨ρ1, hg, hw⟩ := hs 0 d ρ st rfl h0
    unfold forL
    rw [if_pos (hgd _ _ _ h0), hg]
    show R.Wp ((b ρ1 st).bind _) Q X
    rw [wp_bind]
    refine hw.imp fun f st' hf => ?_
    have rest : ∀ ρ2, J 1 ρ2 st' → R.Wp (forL gs gt b ds ρ2 st') Q X := fun ρ2 hj => for_okg (fun m => J (m + 1)) (fun m => hgd (m + 1)) hj (fun m d' ρ s hd hj' => hs (m + 1) d' ρ s (by simpa using hd) hj') he
    cases f with
    | nx ρ2 => exact rest ρ2 hf
    | ct ρ2 => exact rest ρ2 hf
    | bk ρ2 => exact ⟨hf⟩
    | rt d g => exact ⟨hf⟩
    | xx c ks ds ρ' => exact ⟨hf⟩
theorem for_ok {gt : SG} {ds : List D} (J : Nat → En → List D → Prop) {ρ : En} {st : List D} (h0 : J 0 ρ st)
    (hs : ∀ m d ρ st, ds[m]? = some d → J m ρ st → ∃ ρ1, gt d ρ = some ρ1 ∧ R.Wp (b ρ1 st) (fun f st' => match f with
      | .nx ρ2 => J (m + 1) ρ2 st'
      | .ct ρ2 => J (m + 1) ρ2 st'
      | .bk ρ2 => Q (.nx ρ2) st'
      | f => Q f st') X)
    (he : ∀ ρ st, J ds.length ρ st → Q (.nx ρ) st) : R.Wp (forL [] gt b ds ρ st) Q X := for_okg J (fun _ _ _ _ => rfl) h0 hs he
def plp (o : Option Sl) (A : D → Prop) (B : Nat → Prop) (uA : Dum A := ()) (uB : Dum B := ()) : Prop := match o with
  | some (.own d) => A d
  | some (.val (.ref n)) => B n
  | _ => False
theorem plp_o {d : D} {A : D → Prop} {B : Nat → Prop} : plp (some (.own d)) A B = A d := rfl
theorem plp_r {n : Nat} {A : D → Prop} {B : Nat → Prop} : plp (some (.val (.ref n))) A B = B n := rfl
def llp (o : Option D) (A : List D → Prop) (uA : Dum A := ()) : Prop := match o with
  | some (.lst xs) => A xs
  | _ => False
theorem llp_l {xs : List D} {A : List D → Prop} : llp (some (.lst xs)) A = A xs := rfl
def ilp (c : String) (o : Option D) (A : List String → List D → Prop) (uA : Dum A := ()) : Prop := match o with
  | some (.ins c' ks ds) => (c' = c ∧ ks.length < 1000) ∧ A ks ds
  | _ => False
theorem ilp_i {c c' : String} {ks ds} {A : List String → List D → Prop} : ilp c (some (.ins c' ks ds)) A = ((c' = c ∧ ks.length < 1000) ∧ A ks ds) := rfl
def putP (ρ : En) (st : List D) (i : Nat) (h : List D → Option (List D)) (Q : Fl → List D → Prop) (u : Dum Q := ()) : Prop :=
  plp ρ[i]? (fun d => llp (some d) fun xs => optp (h xs) fun ys => Q (.nx (ρ.set i (.own (.lst ys)))) st) fun n => llp st[n]? fun xs => optp (h xs) fun ys => Q (.nx ρ) (st.set n (.lst ys))
theorem opt_ex {α : Type} {o : Option α} {F : α → Prop} : (match o with | some y => F y | none => False) = ∃ y, o = some y ∧ F y := by
  cases o with
  | none => exact propext ⟨fun z => z.elim, fun ⟨_, z, _⟩ => by cases z⟩
  | some y => exact propext ⟨fun z => ⟨y, rfl, z⟩, fun ⟨_, z, q⟩ => by cases z; exact q⟩
theorem p_put {i : Nat} {h : List D → Option (List D)} : R.Wp (putL ρ st i h) Q X = putP ρ st i h Q := by
  unfold putL putP
  cases ρ[i]? with
  | none => (first | rfl | exact wp_ok | exact wp_no | (simp only [wp_q] <;> rfl))
  | some s =>
    cases s with
    | un => (first | rfl | exact wp_ok | exact wp_no | (simp only [wp_q] <;> rfl))
    | own d =>
      cases d with
      | lst xs =>
        show R.Wp (match h xs with | some ys => .ok (.nx (ρ.set i (.own (.lst ys)))) st | none => .no) Q X = optp (h xs) fun ys => Q (.nx (ρ.set i (.own (.lst ys)))) st
        cases h xs <;> (first | rfl | exact wp_ok | exact wp_no | (simp only [wp_q] <;> rfl))
      | _ => (first | rfl | exact wp_ok | exact wp_no | (simp only [wp_q] <;> rfl))
    | val d =>
      cases d with
      | ref n =>
        show R.Wp (match st[n]? with | some (.lst xs) => (match h xs with | some ys => .ok (.nx ρ) (st.set n (.lst ys)) | none => .no) | _ => .no) Q X = llp st[n]? fun xs => optp (h xs) fun ys => Q (.nx ρ) (st.set n (.lst ys))
        cases st[n]? with
        | none => (first | rfl | exact wp_ok | exact wp_no | (simp only [wp_q] <;> rfl))
        | some d =>
          cases d with
          | lst xs =>
            show R.Wp (match h xs with | some ys => .ok (.nx ρ) (st.set n (.lst ys)) | none => .no) Q X = optp (h xs) fun ys => Q (.nx ρ) (st.set n (.lst ys))
            cases h xs <;> (first | rfl | exact wp_ok | exact wp_no | (simp only [wp_q] <;> rfl))
          | _ => (first | rfl | exact wp_ok | exact wp_no | (simp only [wp_q] <;> rfl))
      | _ => (first | rfl | exact wp_ok | exact wp_no | (simp only [wp_q] <;> rfl))
theorem p_putu {i : Nat} {h : List D → Option (List D)} : putP ρ st i h Q = plp ρ[i]? (fun d => llp (some d) fun xs => optp (h xs) fun ys => Q (.nx (ρ.set i (.own (.lst ys)))) st) (fun n => llp st[n]? fun xs => optp (h xs) fun ys => Q (.nx ρ) (st.set n (.lst ys))) := rfl
theorem s_app {i : Nat} : R.Wp (sApp i f ρ st) Q X = (isL ρ st i = true ∧ R.Wp (f ρ st) (fun p st1 => fzp p fun d => putP ρ st1 i (fun xs => if xs.length < maxLen then some (xs ++ [d]) else none) Q) (fun c ks ds st => Q (.xx c ks ds ρ) st)) := by
  unfold sApp
  by_cases h : isL ρ st i = true
  · rw [if_pos h, wp_bindS, w_fzd]
    refine propext ⟨fun z => ⟨h, z.imp fun p st1 q => ?_⟩, fun z => z.2.imp fun p st1 q => ?_⟩
    · refine cast ?_ q
      congr 1; funext d; exact p_put
    · refine cast ?_ q
      congr 1; funext d; exact p_put.symm
  · rw [if_neg h]; exact and_f h (by first | rfl | exact wp_ok | exact wp_no | (simp only [wp_q] <;> rfl))
theorem s_put {i : Nat} : R.Wp (sPut i k f ρ st) Q X = (isL ρ st i = true ∧ R.Wp (f ρ st) (fun p st1 => fzp p fun d => R.Wp (k ρ st1) (fun y st2 => intp y.1 fun j => putP ρ st2 i (fun xs => (ixN xs.length j).map fun n => xs.set n d) Q) (fun c ks ds st => Q (.xx c ks ds ρ) st)) (fun c ks ds st => Q (.xx c ks ds ρ) st)) := by
  unfold sPut
  by_cases h : isL ρ st i = true
  · rw [if_pos h, wp_bindS, w_fzd]
    refine propext ⟨fun z => ⟨h, ?_⟩, fun z => ?_⟩
    · refine z.imp fun p st1 q => ?_
      refine cast ?_ q
      congr 1; funext d; rw [wp_bindS]; congr 1; funext y st2; obtain ⟨y, gg⟩ := y; cases y <;> first | exact p_put | (first | rfl | exact wp_ok | exact wp_no | (simp only [wp_q] <;> rfl))
    · refine z.2.imp fun p st1 q => ?_
      refine cast ?_ q
      congr 1; funext d; rw [wp_bindS]; congr 1; funext y st2; obtain ⟨y, gg⟩ := y; cases y <;> first | exact p_put.symm | (first | rfl | exact wp_ok | exact wp_no | (simp only [wp_q] <;> rfl))
  · rw [if_neg h]; exact and_f h (by first | rfl | exact wp_ok | exact wp_no | (simp only [wp_q] <;> rfl))
def putIp (ρ : En) (st : List D) (i : Nat) (c f : String) (d : D) (Q : Fl → List D → Prop) (u : Dum Q := ()) : Prop :=
  plp ρ[i]? (fun d0 => ilp c (some d0) fun ks ds => Q (.nx (ρ.set i (.own (.ins c (atKs ks f) (atVs ks ds f d))))) st) fun n => ilp c st[n]? fun ks ds => Q (.nx ρ) (st.set n (.ins c (atKs ks f) (atVs ks ds f d)))
theorem ite_and {c : Prop} [Decidable c] {α : Type} {r : R α} {P : α → List D → Prop} : R.Wp (if c then r else .no) P X = (c ∧ R.Wp r P X) := by
  by_cases h : c
  · rw [if_pos h]; exact and_t h (by first | rfl | exact wp_ok | exact wp_no | (simp only [wp_q] <;> rfl))
  · rw [if_neg h]; exact and_f h (by first | rfl | exact wp_ok | exact wp_no | (simp only [wp_q] <;> rfl))
theorem p_putI {i : Nat} {c n : String} {d : D} : R.Wp (putI ρ st i c n d) Q X = putIp ρ st i c n d Q := by
  unfold putI putIp
  cases ρ[i]? with
  | none => (first | rfl | exact wp_ok | exact wp_no | (simp only [wp_q] <;> rfl))
  | some s =>
    cases s with
    | un => (first | rfl | exact wp_ok | exact wp_no | (simp only [wp_q] <;> rfl))
    | own d0 =>
      cases d0 with
      | ins c' ks ds => exact ite_and.trans (congrArg _ wp_ok)
      | _ => (first | rfl | exact wp_ok | exact wp_no | (simp only [wp_q] <;> rfl))
    | val d0 =>
      cases d0 with
      | ref m =>
        show R.Wp (match st[m]? with | some (.ins c' ks ds) => (if c' = c ∧ ks.length < 1000 then .ok (.nx ρ) (st.set m (.ins c (atKs ks n) (atVs ks ds n d))) else .no) | _ => .no) Q X = ilp c st[m]? fun ks ds => Q (.nx ρ) (st.set m (.ins c (atKs ks n) (atVs ks ds n d)))
        cases st[m]? with
        | none => (first | rfl | exact wp_ok | exact wp_no | (simp only [wp_q] <;> rfl))
        | some d0 =>
          cases d0 with
          | ins c' ks ds => exact ite_and.trans (congrArg _ wp_ok)
          | _ => (first | rfl | exact wp_ok | exact wp_no | (simp only [wp_q] <;> rfl))
      | _ => (first | rfl | exact wp_ok | exact wp_no | (simp only [wp_q] <;> rfl))
theorem p_putIu {i : Nat} {c n : String} {d : D} : putIp ρ st i c n d Q = plp ρ[i]? (fun d0 => ilp c (some d0) fun ks ds => Q (.nx (ρ.set i (.own (.ins c (atKs ks n) (atVs ks ds n d))))) st) (fun m => ilp c st[m]? fun ks ds => Q (.nx ρ) (st.set m (.ins c (atKs ks n) (atVs ks ds n d)))) := rfl
theorem s_attr {i : Nat} {c n : String} : R.Wp (sAttr i c n f ρ st) Q X = R.Wp (f ρ st) (fun p st1 => fzp p fun d => putIp ρ st1 i c n d Q) (fun c ks ds st => Q (.xx c ks ds ρ) st) := by
  unfold sAttr; rw [wp_bindS, w_fzd]; congr 1; funext p st1; congr 1; funext d; exact p_putI
/-! defs -/
variable {P : D × Fg → List D → Prop}
def endP (P : D × Fg → List D → Prop) (X : XP) (f : Fl) (st : List D) : Prop := match f with
  | .nx _ => P (.non, .fz) st
  | .rt d g => P (d, g) st
  | .xx c ks ds _ => X c ks ds st
  | _ => False
theorem endP_nx {ρ : En} : endP P X (.nx ρ) st = P (.non, .fz) st := rfl
theorem endP_rt {d g} : endP P X (.rt d g) st = P (d, g) st := rfl
theorem endP_xx {c ks ds} {ρ : En} : endP P X (.xx c ks ds ρ) st = X c ks ds st := rfl
theorem endP_bk {ρ : En} : endP P X (.bk ρ) st = False := rfl
theorem endP_ct {ρ : En} : endP P X (.ct ρ) st = False := rfl
theorem f_fn {n : Nat} {ds : List D} : R.Wp (fnS n b ds st) P X = R.Wp (b (enS n ds) st) (endP P X) NX := by
  unfold fnS
  cases b (enS n ds) st with
  | no => (first | rfl | exact wp_ok | exact wp_no | (simp only [wp_q] <;> rfl))
  | ex c ks ds st' => (first | rfl | exact wp_ok | exact wp_no | (simp only [wp_q] <;> rfl))
  | ok f st' => cases f <;> (first | rfl | exact wp_ok | exact wp_no | (simp only [wp_q] <;> rfl))
def endPI (c : String) (P : D × Fg → List D → Prop) (X : XP) (f : Fl) (st : List D) : Prop := match f with
  | .nx ρ => match (ρ[0]? : Option Sl) with
    | some (.own (.ins c' ks ds)) => c' = c ∧ P (.ins c ks ds, .fr) st
    | _ => False
  | .xx c ks ds _ => X c ks ds st
  | _ => False
theorem f_init {c : String} {n : Nat} {ds : List D} : R.Wp (fnI c n b ds st) P X = R.Wp (b (.own (.ins c [] []) :: enS (n - 1) ds) st) (endPI c P X) NX := by
  unfold fnI
  cases b (.own (.ins c [] []) :: enS (n - 1) ds) st with
  | no => (first | rfl | exact wp_ok | exact wp_no | (simp only [wp_q] <;> rfl))
  | ex c ks ds st' => (first | rfl | exact wp_ok | exact wp_no | (simp only [wp_q] <;> rfl))
  | ok f st' =>
    cases f <;> try (first | rfl | exact wp_ok | exact wp_no | (simp only [wp_q] <;> rfl))
    rename_i ρ'
    refine Eq.trans ?_ wp_ok.symm
    show R.Wp (match (ρ'[0]? : Option Sl) with
      | some (.own (.ins c' ks ds)) => if c' = c then .ok (.ins c ks ds, .fr) st' else .no
      | _ => .no) P X = (match (ρ'[0]? : Option Sl) with
    | some (.own (.ins c' ks ds)) => c' = c ∧ P (.ins c ks ds, .fr) st'
    | _ => False)
    cases ρ'[0]? with
    | none => (first | rfl | exact wp_ok | exact wp_no | (simp only [wp_q] <;> rfl))
    | some s =>
      cases s with
      | own d =>
        cases d with
        | ins c' ks ds => exact ite_and.trans (congrArg _ wp_ok)
        | _ => (first | rfl | exact wp_ok | exact wp_no | (simp only [wp_q] <;> rfl))
      | _ => (first | rfl | exact wp_ok | exact wp_no | (simp only [wp_q] <;> rfl))
end
/-! places -/
theorem ixN_of {n m : Nat} (h : n < m) : ixN m (n : Int) = some n := by
  unfold ixN
  rw [if_pos (by omega), if_pos (by omega)]
  first | rfl | exact wp_ok | exact wp_no | (simp only [wp_q] <;> rfl)
theorem atI_of {α : Type} (xs : List α) (n : Nat) : atI xs (n : Int) = xs[n]? := by
  unfold atI
  by_cases h : n < xs.length
  · rw [ixN_of h]; (first | rfl | exact wp_ok | exact wp_no | (simp only [wp_q] <;> rfl))
  · unfold ixN
    rw [if_pos (by omega), if_neg (by omega), List.getElem?_eq_none (by omega)]; (first | rfl | exact wp_ok | exact wp_no | (simp only [wp_q] <;> rfl))
theorem at_0 {α : Type} {xs : List α} : atI xs 0 = xs[0]? := atI_of xs 0
theorem ix_0 {m : Nat} (h : 0 < m) : ixN m 0 = some 0 := ixN_of h
theorem at_1 {α : Type} {xs : List α} : atI xs 1 = xs[1]? := atI_of xs 1
theorem ix_1 {m : Nat} (h : 1 < m) : ixN m 1 = some 1 := ixN_of h
theorem at_2 {α : Type} {xs : List α} : atI xs 2 = xs[2]? := atI_of xs 2
theorem ix_2 {m : Nat} (h : 2 < m) : ixN m 2 = some 2 := ixN_of h
theorem at_3 {α : Type} {xs : List α} : atI xs 3 = xs[3]? := atI_of xs 3
theorem ix_3 {m : Nat} (h : 3 < m) : ixN m 3 = some 3 := ixN_of h
theorem at_4 {α : Type} {xs : List α} : atI xs 4 = xs[4]? := atI_of xs 4
theorem ix_4 {m : Nat} (h : 4 < m) : ixN m 4 = some 4 := ixN_of h
theorem at_5 {α : Type} {xs : List α} : atI xs 5 = xs[5]? := atI_of xs 5
theorem ix_5 {m : Nat} (h : 5 < m) : ixN m 5 = some 5 := ixN_of h
theorem at_6 {α : Type} {xs : List α} : atI xs 6 = xs[6]? := atI_of xs 6
theorem ix_6 {m : Nat} (h : 6 < m) : ixN m 6 = some 6 := ixN_of h
theorem at_7 {α : Type} {xs : List α} : atI xs 7 = xs[7]? := atI_of xs 7
theorem ix_7 {m : Nat} (h : 7 < m) : ixN m 7 = some 7 := ixN_of h
theorem at_8 {α : Type} {xs : List α} : atI xs 8 = xs[8]? := atI_of xs 8
theorem ix_8 {m : Nat} (h : 8 < m) : ixN m 8 = some 8 := ixN_of h
theorem at_9 {α : Type} {xs : List α} : atI xs 9 = xs[9]? := atI_of xs 9
theorem ix_9 {m : Nat} (h : 9 < m) : ixN m 9 = some 9 := ixN_of h
theorem at_10 {α : Type} {xs : List α} : atI xs 10 = xs[10]? := atI_of xs 10
theorem ix_10 {m : Nat} (h : 10 < m) : ixN m 10 = some 10 := ixN_of h
theorem at_11 {α : Type} {xs : List α} : atI xs 11 = xs[11]? := atI_of xs 11
theorem ix_11 {m : Nat} (h : 11 < m) : ixN m 11 = some 11 := ixN_of h
end Q

set_option linter.all false
namespace Q
namespace C
open PySem
/-- _law_bag(_law_script:0, _law_mix:1, _law_item:2) -/
def b__law_bag : SS := sSeq (sSet 1 (eCst (.int 13967))) (sSeq (sFor (iList (eSl (eVar 0) (eNo) (ePart (eCst (.int 63))))) (gName 2) (sSet 1 (eBin bMod (eFun1 fInt (eBin bAdd (eBin bAdd (eBin bMul (eVar 1) (eCst (.int 48271))) (eBin bMod (eFun1 fInt (eVar 2)) (eCst (.int 2147483587)))) (eCst (.int 311)))) (eCst (.int 2147483629))))) (sRet (eLst (eCons (eFun1 fList (eSl (eVar 0) (eNo) (ePart (eCst (.int 63))))) (eCons (eCst (.int 0)) (eCons (eCst (.int 0)) (eCons (eVar 1) (eCons (eCst (.int 0)) (eNil)))))))))
def w__law_bag : SF := fnS 3 b__law_bag
/-- _law_draw(_law_bag_here:0, _law_size:1, _law_item:2, _law_digit:3) -/
def b__law_draw : SS := sSeq (sPut 0 (eCst (.int 4)) (eBin bAdd (eIdx (eVar 0) (eCst (.int 4))) (eCst (.int 1)))) (sSeq (sIf (tAnd (tVal (eBin cEq (eIdx (eVar 0) (eCst (.int 2))) (eCst (.int 0)))) (tVal (eBin cLt (eIdx (eVar 0) (eCst (.int 1))) (eFun1 fLen (eIdx (eVar 0) (eCst (.int 0))))))) (sSeq (sSet 2 (eIdx (eIdx (eVar 0) (eCst (.int 0))) (eIdx (eVar 0) (eCst (.int 1))))) (sSeq (sPut 0 (eCst (.int 1)) (eBin bAdd (eIdx (eVar 0) (eCst (.int 1))) (eCst (.int 1)))) (sIf (tVal (eBin cGe (eVar 2) (eBin bPow (eCst (.int 10)) (eCst (.int 18))))) (sFz [2] (sPut 0 (eCst (.int 2)) (eVar 2))) (sPut 0 (eCst (.int 3)) (eBin bMod (eFun1 fInt (eBin bAdd (eBin bAdd (eBin bMul (eIdx (eVar 0) (eCst (.int 3))) (eCst (.int 69621))) (eBin bMul (eBin bMod (eFun1 fInt (eVar 2)) (eCst (.int 2147483549))) (eCst (.int 30103)))) (eCst (.int 89)))) (eCst (.int 2147483629))))))) (sNext)) (sSeq (sIf (tVal (eBin cGt (eIdx (eVar 0) (eCst (.int 2))) (eCst (.int 0)))) (sSeq (sSet 3 (eBin bMod (eFun1 fInt (eIdx (eVar 0) (eCst (.int 2)))) (eVar 1))) (sSeq (sPut 0 (eCst (.int 2)) (eBin bFdiv (eIdx (eVar 0) (eCst (.int 2))) (eVar 1))) (sRetV 3))) (sNext)) (sSeq (sPut 0 (eCst (.int 3)) (eBin bMod (eFun1 fInt (eBin bAdd (eBin bAdd (eBin bPow (eIdx (eVar 0) (eCst (.int 3))) (eCst (.int 3))) (eBin bMul (eIdx (eVar 0) (eCst (.int 4))) (eCst (.int 1299709)))) (eCst (.int 60013)))) (eCst (.int 2147483629)))) (sRet (eBin bMod (eFun1 fInt (eBin bAdd (eBin bFdiv (eIdx (eVar 0) (eCst (.int 3))) (eCst (.int 97))) (eBin bMul (eBin bMod (eFun1 fInt (eIdx (eVar 0) (eCst (.int 3)))) (eCst (.int 7901))) (eCst (.int 67))))) (eVar 1))))))
def w__law_draw : SF := fnS 4 b__law_draw
/-- _law_of(_law_bag_here:0, _law_things:1) -/
def b__law_of : SS := sRet (eIdx (eVar 1) (eCall w__law_draw (eCons (eVar 0) (eCons (eFun1 fLen (eVar 1)) (eNil)))))
def w__law_of : SF := fnS 2 b__law_of
/-- _law_five(_law_bag_here:0, _law_side:1, _law_power:2, _law_spots:3, _law_wide:4) -/
def b__law_five : SS := sSeq (sPar3 1 2 3 (eBin bAdd (eCst (.int 2)) (eCall w__law_of (eCons (eVar 0) (eCons (eLst (eCons (eCst (.int 1)) (eCons (eCst (.int 0)) (eCons (eCst (.int 1)) (eCons (eCst (.int 2)) (eCons (eCst (.int 3)) (eNil))))))) (eNil))))) (eBin bAdd (eCst (.int 2)) (eCall w__law_draw (eCons (eVar 0) (eCons (eCst (.int 15)) (eNil))))) (eBin bAdd (eCst (.int 1)) (eCall w__law_of (eCons (eVar 0) (eCons (eLst (eCons (eCst (.int 1)) (eCons (eCst (.int 0)) (eCons (eCst (.int 1)) (eCons (eCst (.int 2)) (eCons (eCst (.int 3)) (eCons (eCall w__law_draw (eCons (eVar 0) (eCons (eCst (.int 8)) (eNil)))) (eNil)))))))) (eNil)))))) (sSeq (sIf (tVal (eBin cLt (eBin bMul (eVar 2) (eVar 3)) (eBin bAdd (eCst (.int 4)) (eVar 1)))) (sSet 3 (eBin bFdiv (eBin bAdd (eBin bAdd (eCst (.int 3)) (eVar 1)) (eVar 2)) (eVar 2))) (sNext)) (sSeq (sSet 4 (eCall w__law_of (eCons (eVar 0) (eCons (eLst (eCons (eCst (.int 0)) (eCons (eCst (.int 1)) (eCons (eCst (.int 2)) (eCons (eCst (.int 25)) (eCons (eCst (.int 1000)) (eCons (eCall w__law_draw (eCons (eVar 0) (eCons (eCst (.int 1001)) (eNil)))) (eNil)))))))) (eNil))))) (sFz [4] (sRet (eTup (eCons (eBin bAdd (eCst (.int 1)) (eCall w__law_draw (eCons (eVar 0) (eCons (eCst (.int 8)) (eNil))))) (eCons (eBin bShl (eCst (.int 1)) (eVar 1)) (eCons (eBin bShl (eCst (.int 1)) (eVar 2)) (eCons (eVar 3) (eCons (eVar 4) (eNil)))))))))))
def w__law_five : SF := fnS 5 b__law_five
/-- _law_modulus(_law_five_here:0, _law_q:1, _law_k:2) -/
def b__law_modulus : SS := sSeq (sSet 1 (eCst (.int 1))) (sSeq (sFor (iRange1 (eIdx (eVar 0) (eCst (.int 3)))) (gName 2) (sSet 1 (eBin bMul (eVar 1) (eIdx (eVar 0) (eCst (.int 2)))))) (sRetV 1))
def w__law_modulus : SF := fnS 3 b__law_modulus
/-- any_number(value:0) -/
def b_any_number : SS := sRet (eAnd (eIs (eVar 0) [.int]) (eNot (eIs (eVar 0) [.bool])))
def w_any_number : SF := fnS 1 b_any_number
/-- is_number(value:0, least:1, most:2) -/
def b_is_number : SS := sRet (eAnd (eCall w_any_number (eCons (eVar 0) (eNil))) (eChain cLe cLe (eVar 1) (eVar 0) (eVar 2)))
def w_is_number : SF := fnS 3 b_is_number
/-- Sizes___init__(self:0, length:1, ring:2, base:3, places:4, spread:5, modulus:6, _:7) -/
def b_Sizes___init__ : SS := sSeq (sIf (tNot (tVal (eCall w_is_number (eCons (eVar 1) (eCons (eCst (.int 1)) (eCons (eCst (.int 8)) (eNil))))))) (sNo) (sNext)) (sSeq (sIf (tOr (tNot (tVal (eCall w_is_number (eCons (eVar 2) (eCons (eCst (.int 4)) (eCons (eCst (.int 32)) (eNil))))))) (tVal (eBin cNe (eBin bAnd (eVar 2) (eBin bSub (eVar 2) (eCst (.int 1)))) (eCst (.int 0))))) (sNo) (sNext)) (sSeq (sIf (tOr (tNot (tVal (eCall w_is_number (eCons (eVar 3) (eCons (eCst (.int 4)) (eCons (eCst (.int 65536)) (eNil))))))) (tVal (eBin cNe (eBin bAnd (eVar 3) (eBin bSub (eVar 3) (eCst (.int 1)))) (eCst (.int 0))))) (sNo) (sNext)) (sSeq (sIf (tNot (tVal (eCall w_is_number (eCons (eVar 4) (eCons (eCst (.int 1)) (eCons (eCst (.int 8)) (eNil))))))) (sNo) (sNext)) (sSeq (sIf (tNot (tVal (eCall w_is_number (eCons (eVar 5) (eCons (eCst (.int 0)) (eCons (eCst (.int 1000)) (eNil))))))) (sNo) (sNext)) (sSeq (sSet 6 (eCst (.int 1))) (sSeq (sFor (iRange1 (eVar 4)) (gName 7) (sSet 6 (eBin bMul (eVar 6) (eVar 3)))) (sSeq (sIf (tVal (eBin cLt (eVar 6) (eBin bMul (eCst (.int 16)) (eVar 2)))) (sNo) (sNext)) (sSeq (sAttr 0 "Sizes" "length" (eVar 1)) (sSeq (sAttr 0 "Sizes" "ring" (eVar 2)) (sSeq (sAttr 0 "Sizes" "base" (eVar 3)) (sSeq (sAttr 0 "Sizes" "places" (eVar 4)) (sSeq (sAttr 0 "Sizes" "spread" (eVar 5)) (sAttr 0 "Sizes" "_modulus" (eVar 6))))))))))))))
def w_Sizes___init__ : SF := fnI "Sizes" 8 b_Sizes___init__
/-- _law_frame(_law_five_here:0) -/
def b__law_frame : SS := sRet (eCallK w_Sizes___init__ [0, 1, 2, 3, 4] (eCons (eIdx (eVar 0) (eCst (.int 0))) (eCons (eIdx (eVar 0) (eCst (.int 1))) (eCons (eIdx (eVar 0) (eCst (.int 2))) (eCons (eIdx (eVar 0) (eCst (.int 3))) (eCons (eIdx (eVar 0) (eCst (.int 4))) (eNil)))))) (eNil))
def w__law_frame : SF := fnS 1 b__law_frame
/-- Sizes_modulus(self:0) -/
def b_Sizes_modulus : SS := sRet (eFld (eVar 0) "_modulus")
def w_Sizes_modulus : SF := fnS 1 b_Sizes_modulus
/-- rounded(value:0, sizes:1, modulus:2, around:3) -/
def b_rounded : SS := sSeq (sSet 2 (eProp (eVar 1) "Sizes" w_Sizes_modulus)) (sSeq (sSet 3 (eBin bMul (eCst (.int 2)) (eFld (eVar 1) "ring"))) (sRet (eBin bMod (eBin bFdiv (eBin bAdd (eBin bMul (eVar 3) (eBin bMod (eVar 0) (eVar 2))) (eBin bFdiv (eVar 2) (eCst (.int 2)))) (eVar 2)) (eVar 3))))
def w_rounded : SF := fnS 4 b_rounded
/-- _law_is_number(_law_thing:0, _law_low:1, _law_top:2) -/
def b__law_is_number : SS := sRet (eAnd (eIs (eVar 0) [.int]) (eAnd (eNot (eIs (eVar 0) [.bool])) (eChain cLe cLe (eVar 1) (eVar 0) (eVar 2))))
def w__law_is_number : SF := fnS 3 b__law_is_number
/-- _law_like(_law_told:0, _law_due:1, _law_a:2, _law_b:3) -/
def b__law_like (w_self : SF) : SS := sSeq (sIf (tOr (tVal (eIs (eVar 1) [.dict])) (tVal (eIs (eVar 0) [.dict]))) (sRet (eAnd (eIs (eVar 1) [.dict]) (eAnd (eIs (eVar 0) [.dict]) (eBin cEq (eVar 0) (eVar 1))))) (sNext)) (sSeq (sIf (tVal (eIs (eVar 1) [.list, .tuple])) (sSeq (sIf (tOr (tVal (eBin cNe (eIs (eVar 0) [.list]) (eIs (eVar 1) [.list]))) (tVal (eBin cNe (eIs (eVar 0) [.tuple]) (eIs (eVar 1) [.tuple])))) (sRet (eCst (.bl false))) (sNext)) (sRet (eAnd (eBin cEq (eFun1 fLen (eVar 0)) (eFun1 fLen (eVar 1))) (eFun1 fAll (eComp (iZip (eVar 0) (eVar 1)) (gTup [gName 2, gName 3]) (tYes) (eCall w_self (eCons (eVar 2) (eCons (eVar 3) (eNil)))) [2, 3]))))) (sNext)) (sSeq (sIf (tOr (tVal (eIsN (eVar 1))) (tVal (eIsN (eVar 0)))) (sRet (eAnd (eIsN (eVar 1)) (eIsN (eVar 0)))) (sNext)) (sSeq (sIf (tOr (tVal (eIs (eVar 0) [.list, .tuple])) (tVal (eBin cNe (eIs (eVar 0) [.bool]) (eIs (eVar 1) [.bool])))) (sRet (eCst (.bl false))) (sNext)) (sSeq (sIf (tOr (tVal (eBin cNe (eIs (eVar 0) [.str]) (eIs (eVar 1) [.str]))) (tVal (eBin cNe (eIs (eVar 0) [.int]) (eIs (eVar 1) [.int])))) (sRet (eCst (.bl false))) (sNext)) (sRet (eBin cEq (eVar 0) (eVar 1)))))))
def w__law_like : Nat → SF
  | 0 => fun _ _ => .no
  | n + 1 => fnS 4 (b__law_like (w__law_like n))
/-- centered(value:0, sizes:1, residue:2) -/
def b_centered : SS := sSeq (sSet 2 (eBin bMod (eVar 0) (eProp (eVar 1) "Sizes" w_Sizes_modulus))) (sSeq (sIf (tVal (eBin cGe (eVar 2) (eBin bFdiv (eProp (eVar 1) "Sizes" w_Sizes_modulus) (eCst (.int 2))))) (sRet (eBin bSub (eVar 2) (eProp (eVar 1) "Sizes" w_Sizes_modulus))) (sNext)) (sRetV 2))
def w_centered : SF := fnS 3 b_centered
/-- whole(row:0, sizes:1, total:2, digit:3) -/
def b_whole : SS := sSeq (sSet 2 (eCst (.int 0))) (sSeq (sFor (iRev (eVar 0)) (gName 3) (sSet 2 (eBin bMod (eBin bAdd (eBin bMul (eVar 2) (eFld (eVar 1) "base")) (eVar 3)) (eProp (eVar 1) "Sizes" w_Sizes_modulus)))) (sRetV 2))
def w_whole : SF := fnS 4 b_whole
/-- digits(value:0, sizes:1, base:2, left:3, found:4, _:5, digit:6) -/
def b_digits : SS := sSeq (sSet 2 (eFld (eVar 1) "base")) (sSeq (sSet 3 (eBin bMod (eVar 0) (eProp (eVar 1) "Sizes" w_Sizes_modulus))) (sSeq (sSet 4 (eLst (eNil))) (sSeq (sFor (iRange1 (eFld (eVar 1) "places")) (gName 5) (sSeq (sSet 6 (eBin bMod (eVar 3) (eVar 2))) (sSeq (sIf (tVal (eBin cGe (eVar 6) (eBin bFdiv (eVar 2) (eCst (.int 2))))) (sSet 6 (eBin bSub (eVar 6) (eVar 2))) (sNext)) (sSeq (sApp 4 (eVar 6)) (sSet 3 (eBin bFdiv (eBin bSub (eVar 3) (eVar 6)) (eVar 2))))))) (sRetV 4))))
def w_digits : SF := fnS 7 b_digits
/-- _law_great(_law_bag_here:0, _law_n:1, _law_k:2) -/
def b__law_great : SS := sSeq (sSet 1 (eCst (.int 0))) (sSeq (sFor (iRange1 (eCall w__law_of (eCons (eVar 0) (eCons (eLst (eCons (eCst (.int 1)) (eCons (eCst (.int 2)) (eCons (eCst (.int 7)) (eNil))))) (eNil))))) (gName 2) (sSet 1 (eBin bAdd (eBin bMul (eVar 1) (eBin bPow (eCst (.int 10)) (eCst (.int 8)))) (eCall w__law_draw (eCons (eVar 0) (eCons (eBin bPow (eCst (.int 10)) (eCst (.int 8))) (eNil))))))) (sRet (eIf (tVal (eBin cEq (eCall w__law_draw (eCons (eVar 0) (eCons (eCst (.int 2)) (eNil)))) (eCst (.int 1)))) (eBin bSub (eCst (.int 0)) (eVar 1)) (eVar 1))))
def w__law_great : SF := fnS 3 b__law_great
/-- _law_residue(_law_bag_here:0, _law_q:1, _law_pick:2, _law_n:3, _law_reach:4, _law_k:5) -/
def b__law_residue : SS := sSeq (sSet 2 (eCall w__law_draw (eCons (eVar 0) (eCons (eCst (.int 9)) (eNil))))) (sSeq (sIf (tVal (eBin cLt (eVar 2) (eCst (.int 5)))) (sRet (eIdx (eTup (eCons (eCst (.int 0)) (eCons (eBin bSub (eVar 1) (eCst (.int 1))) (eCons (eBin bFdiv (eVar 1) (eCst (.int 2))) (eCons (eBin bSub (eBin bFdiv (eVar 1) (eCst (.int 2))) (eCst (.int 1))) (eCons (eCst (.int 1)) (eNil))))))) (eVar 2))) (sNext)) (sSeq (sIf (tVal (eBin cEq (eVar 2) (eCst (.int 5)))) (sRet (eCall w__law_draw (eCons (eVar 0) (eCons (eCst (.int 9)) (eNil))))) (sNext)) (sSeq (sAsgG (gTup [gName 3, gName 4]) (eTup (eCons (eCst (.int 0)) (eCons (eCst (.int 1)) (eNil))))) (sSeq (sFor (iRange1 (eCst (.int 8))) (gName 5) (sSeq (sIf (tVal (eBin cGe (eVar 4) (eVar 1))) (sBk) (sNext)) (sPar 3 4 (eBin bAdd (eBin bMul (eVar 3) (eCst (.int 1048576))) (eCall w__law_draw (eCons (eVar 0) (eCons (eCst (.int 1048576)) (eNil))))) (eBin bMul (eVar 4) (eCst (.int 1048576)))))) (sRet (eBin bMod (eFun1 fInt (eVar 3)) (eVar 1)))))))
def w__law_residue : SF := fnS 6 b__law_residue
/-- _law_loose(_law_bag_here:0, _law_q:1, _law_pick:2) -/
def b__law_loose : SS := sSeq (sSet 2 (eCall w__law_draw (eCons (eVar 0) (eCons (eCst (.int 6)) (eNil))))) (sSeq (sIf (tVal (eBin cEq (eVar 2) (eCst (.int 5)))) (sRet (eCall w__law_great (eCons (eVar 0) (eNil)))) (sNext)) (sRet (eBin bAdd (eCall w__law_residue (eCons (eVar 0) (eCons (eVar 1) (eNil)))) (eBin bMul (eVar 1) (eIdx (eTup (eCons (eCst (.int 0)) (eCons (eCst (.int 0)) (eCons (eCst (.int 1)) (eCons (eBin bSub (eCst (.int 0)) (eCst (.int 1))) (eCons (eBin bSub (eCst (.int 0)) (eCst (.int 7))) (eNil))))))) (eVar 2))))))
def w__law_loose : SF := fnS 3 b__law_loose
end C
end Q

set_option linter.all false
namespace Q
namespace C
/-- the rounded value -/
def rnd (N q n : Int) : Int := (2 * N * (n % q) + q / 2) / q % (2 * N)
section
variable {N q g : Int}
theorem emod_sub_mul' (x F k : Int) : (x - F * k) % F = x % F := by
  rw [Int.sub_emod, Int.mul_emod_right, Int.sub_zero, Int.emod_emod_of_dvd _ (Int.dvd_refl _)]
theorem half_q (e : q = 2 * N * g) : q / 2 = N * g := by
  rw [e, Int.mul_assoc, Int.mul_ediv_cancel_left _ (by decide)]
theorem rnd_eq (hq : 0 < q) (e : q = 2 * N * g) (n : Int) : rnd N q n = (2 * N * n + N * g) / q % (2 * N) := by
  unfold rnd
  rw [half_q e]
  have h1 : 2 * N * (n % q) + N * g = (2 * N * n + N * g) + -(2 * N * (n / q)) * q := by
    have : n % q = n - q * (n / q) := by have := Int.mul_ediv_add_emod n q; omega
    rw [this, Int.mul_sub]
    have : -(2 * N * (n / q)) * q = - (2 * N * (q * (n / q))) := by
      rw [Int.neg_mul, Int.mul_assoc (2 * N), Int.mul_comm (n / q) q]
    rw [this]; omega
  rw [h1, Int.add_mul_ediv_right _ _ (by omega)]
  have : (2 * N * n + N * g) / q + -(2 * N * (n / q)) = (2 * N * n + N * g) / q - 2 * N * (n / q) := by omega
  rw [this, emod_sub_mul']
theorem rnd_moved (n k : Int) : rnd N q (n + q * k) = rnd N q n := by
  unfold rnd
  rw [Int.add_mul_emod_self_left]
theorem rnd_mod (n m : Int) (h : n % q = m % q) : rnd N q n = rnd N q m := by
  unfold rnd
  rw [h]
theorem rnd_turned (hq : 0 < q) (e : q = 2 * N * g) (n m : Int) : rnd N q (n + m * g) = (rnd N q n + m) % (2 * N) := by
  rw [rnd_eq hq e, rnd_eq hq e, Int.emod_add_emod]
  have : 2 * N * (n + m * g) + N * g = (2 * N * n + N * g) + m * q := by
    rw [Int.mul_add, e]
    have : 2 * N * (m * g) = m * (2 * N * g) := by
      rw [← Int.mul_assoc, Int.mul_comm (2 * N) m, Int.mul_assoc]
    omega
  rw [this, Int.add_mul_ediv_right _ _ (by omega)]
theorem rnd_lo (hN : 0 < N) (n : Int) : 0 ≤ rnd N q n := Int.emod_nonneg _ (by omega)
theorem rnd_hi (hN : 0 < N) (n : Int) : rnd N q n < 2 * N := Int.emod_lt_of_pos _ (by omega)
theorem rnd_at (hN : 0 < N) (hg : 0 < g) (e : q = 2 * N * g) (t : Int) (h0 : 0 ≤ t) (h1 : t < 2 * N) : rnd N q (t * g) = t := by
  have hNg : 0 < N * g := Int.mul_pos hN hg
  have hq : 0 < q := by rw [e, Int.mul_assoc]; omega
  rw [rnd_eq hq e]
  have : 2 * N * (t * g) + N * g = N * g + t * q := by
    rw [e]
    have : 2 * N * (t * g) = t * (2 * N * g) := by rw [← Int.mul_assoc, Int.mul_comm (2 * N) t, Int.mul_assoc]
    omega
  rw [this, Int.add_mul_ediv_right _ _ (by omega), Int.ediv_eq_zero_of_lt (by omega) (by rw [e, Int.mul_assoc]; omega), Int.zero_add, Int.emod_eq_of_lt h0 h1]
theorem rnd_back (hN : 0 < N) (hg : 0 < g) (e : q = 2 * N * g) (n : Int) : rnd N q (0 - n) = ((if decide (4 * N * n % (2 * q) = q) then (1 : Int) else 0) - rnd N q n) % (2 * N) := by
  have hNg : 0 < N * g := Int.mul_pos hN hg
  have e2 : q = 2 * (N * g) := by rw [e, Int.mul_assoc]
  have hq : 0 < q := by omega
  rw [rnd_eq hq e, rnd_eq hq e, Int.sub_emod_emod]
  have h1 := Int.mul_ediv_add_emod (2 * N * n + N * g) q
  have h2 := Int.emod_nonneg (2 * N * n + N * g) (show q ≠ 0 by omega)
  have h3 := Int.emod_lt_of_pos (2 * N * n + N * g) hq
  generalize (2 * N * n + N * g) / q = T at h1 ⊢
  generalize (2 * N * n + N * g) % q = R at h1 h2 h3 ⊢
  have h4 : 2 * N * (0 - n) = - (2 * N * n) := by rw [Int.zero_sub, Int.mul_neg]
  have h5 : 4 * N * n = 2 * (2 * N * n) := by rw [← Int.mul_assoc, ← Int.mul_assoc]; rfl
  have h6 : 4 * N * n % (2 * q) = (2 * R - q) % (2 * q) := by
    have : 4 * N * n = (2 * R - q) + (2 * q) * T := by rw [h5, Int.mul_assoc 2 q T]; omega
    rw [this, Int.add_mul_emod_self_left]
  rw [h6, h4]
  by_cases hR : R = 0
  · subst hR
    have : (2 * 0 - q) % (2 * q) = q := by
      have : (2 * 0 - q) = q + (2 * q) * (-1) := by omega
      rw [this, Int.add_mul_emod_self_left, Int.emod_eq_of_lt (by omega) (by omega)]
    rw [this, decide_eq_true rfl, if_pos rfl]
    have : -(2 * N * n) + N * g = 0 + (1 - T) * q := by
      have : (1 - T) * q = q - q * T := by rw [Int.sub_mul, Int.one_mul, Int.mul_comm]
      omega
    rw [this, Int.add_mul_ediv_right _ _ (by omega), Int.zero_ediv, Int.zero_add]
  · have : (2 * R - q) % (2 * q) ≠ q := by
      by_cases h : 0 ≤ 2 * R - q
      · rw [Int.emod_eq_of_lt h (by omega)]; omega
      · have h7 : (2 * R - q) % (2 * q) = (2 * R + q) % (2 * q) := by
          have : 2 * R + q = (2 * R - q) + (2 * q) * 1 := by omega
          rw [this, Int.add_mul_emod_self_left]
        rw [h7, Int.emod_eq_of_lt (by omega) (by omega)]; omega
    rw [decide_eq_false this, if_neg (by decide)]
    have : -(2 * N * n) + N * g = (q - R) + (-T) * q := by
      have : (-T) * q = - (q * T) := by rw [Int.neg_mul, Int.mul_comm]
      omega
    rw [this, Int.add_mul_ediv_right _ _ (by omega), Int.ediv_eq_zero_of_lt (by omega) (by omega), Int.zero_add, Int.zero_sub]
/-- nearest -/
theorem rnd_near (hN : 0 < N) (hg : 0 < g) (e : q = 2 * N * g) (n : Int) : (0 - q ≤ 2 * (2 * N * (n % q) - rnd N q n * q) ∧ 2 * (2 * N * (n % q) - rnd N q n * q) < q) ∨ (0 - q ≤ 2 * (2 * N * (n % q) - (rnd N q n + 2 * N) * q) ∧ 2 * (2 * N * (n % q) - (rnd N q n + 2 * N) * q) < q) := by
  have hNg : 0 < N * g := Int.mul_pos hN hg
  have e2 : q = 2 * (N * g) := by rw [e, Int.mul_assoc]
  have hq : 0 < q := by omega
  unfold rnd
  rw [half_q e]
  have h0 := Int.emod_nonneg n (show q ≠ 0 by omega)
  have h0' := Int.emod_lt_of_pos n hq
  generalize n % q = m at h0 h0' ⊢
  have h1 := Int.mul_ediv_add_emod (2 * N * m + N * g) q
  have h2 := Int.emod_nonneg (2 * N * m + N * g) (show q ≠ 0 by omega)
  have h3 := Int.emod_lt_of_pos (2 * N * m + N * g) hq
  have h4 : 0 ≤ 2 * N * m := Int.mul_nonneg (by omega) h0
  have h5 : 0 ≤ (2 * N * m + N * g) / q := Int.ediv_nonneg (by omega) (by omega)
  have h6 : 2 * N * m ≤ 2 * N * (q - 1) := Int.mul_le_mul_of_nonneg_left (by omega) (by omega)
  have h7 : (2 * N * m + N * g) / q ≤ 2 * N := by
    refine Int.le_of_lt_add_one (Int.ediv_lt_of_lt_mul hq ?_)
    have : (2 * N + 1) * q = 2 * N * q + q := by rw [Int.add_mul, Int.one_mul]
    rw [this]
    have : 2 * N * (q - 1) = 2 * N * q - 2 * N := by rw [Int.mul_sub, Int.mul_one]
    omega
  generalize (2 * N * m + N * g) / q = T at h1 h5 h7 ⊢
  generalize (2 * N * m + N * g) % q = R at h1 h2 h3 ⊢
  by_cases hT : T < 2 * N
  · left
    rw [Int.emod_eq_of_lt h5 hT, Int.mul_comm T q]
    omega
  · right
    have : T = 2 * N := by omega
    subst this
    rw [Int.emod_self, Int.zero_add, Int.mul_comm (2 * N) q]
    omega
end
/-- digits -/
def dig (B v : Int) : Int := if B / 2 ≤ v % B then v % B - B else v % B
def digs (B : Int) : Nat → Int → List Int
  | 0, _ => []
  | n + 1, v => dig B v :: digs B n ((v - dig B v) / B)
def val (B : Int) : List Int → Int
  | [] => 0
  | d :: ds => d + B * val B ds
theorem dig_step (B v : Int) (hB : 0 < B) : v = dig B v + B * ((v - dig B v) / B) := by
  have h1 := Int.mul_ediv_add_emod v B
  unfold dig
  by_cases h : B / 2 ≤ v % B
  · rw [if_pos h]
    have : v - (v % B - B) = B * (v / B + 1) := by rw [Int.mul_add]; omega
    rw [this, Int.mul_ediv_cancel_left _ (by omega), Int.mul_add]; omega
  · rw [if_neg h]
    have : v - v % B = B * (v / B) := by omega
    rw [this, Int.mul_ediv_cancel_left _ (by omega)]; omega
theorem val_digs (B : Int) (hB : 0 < B) : ∀ (n : Nat) (v : Int), ∃ r, v = val B (digs B n v) + B ^ n * r
  | 0, v => ⟨v, by simp [digs, val]⟩
  | n + 1, v => by
    obtain ⟨r, h⟩ := val_digs B hB n ((v - dig B v) / B)
    refine ⟨r, ?_⟩
    have h1 := dig_step B v hB
    show v = dig B v + B * val B (digs B n ((v - dig B v) / B)) + B ^ (n + 1) * r
    have h2 : B * ((v - dig B v) / B) = B * val B (digs B n ((v - dig B v) / B)) + B ^ (n + 1) * r := by
      have e : B * ((v - dig B v) / B) = B * (val B (digs B n ((v - dig B v) / B)) + B ^ n * r) := congrArg (B * ·) h
      rw [e, Int.mul_add, Int.pow_succ, Int.mul_comm (B ^ n) B, Int.mul_assoc]
    omega
theorem whole_val (B q : Int) : ∀ ds : List Int, (ds.foldr (fun d t => (t * B + d) % q) 0) % q = val B ds % q
  | [] => rfl
  | d :: ds => by
    show ((ds.foldr (fun d t => (t * B + d) % q) 0) * B + d) % q % q = (d + B * val B ds) % q
    rw [Int.emod_emod_of_dvd _ (Int.dvd_refl _), Int.add_emod, Int.mul_emod, whole_val B q ds, ← Int.mul_emod, ← Int.add_emod, Int.mul_comm, Int.add_comm]
theorem whole_mod (B q : Int) (hB : 0 < B) (n : Nat) (e : q = B ^ n) (v : Int) : ((digs B n (v % q)).foldr (fun d t => (t * B + d) % q) 0) % q = v % q := by
  obtain ⟨r, h⟩ := val_digs B hB n (v % q)
  rw [whole_val]
  have : val B (digs B n (v % q)) = v % q + q * (-r) := by rw [e] at h ⊢; rw [Int.mul_neg]; omega
  rw [this, Int.add_mul_emod_self_left, Int.emod_emod_of_dvd _ (Int.dvd_refl _)]
theorem digs_len (B : Int) : ∀ (n : Nat) (v : Int), (digs B n v).length = n
  | 0, _ => rfl
  | n + 1, v => by show (digs B n _).length + 1 = n + 1; rw [digs_len B n]
end C
theorem rangeL_get {j : Int} {m : Nat} {d : D} (h : (rangeL 0 j)[m]? = some d) : d = .int m ∧ (m : Int) < j := by
  unfold rangeL at h
  rw [List.getElem?_map] at h
  by_cases hm : m < (List.range (j - 0).toNat).length
  · rw [List.getElem?_eq_getElem hm, List.getElem_range] at h
    rw [List.length_range] at hm
    simp only [Option.map_some, Option.some.injEq] at h
    exact ⟨by rw [← h, Int.zero_add], by omega⟩
  · rw [List.getElem?_eq_none (by omega)] at h
    cases h
theorem rangeL_len {j : Int} : (rangeL 0 j).length = j.toNat := by
  unfold rangeL
  rw [List.length_map, List.length_range, Int.sub_zero]
end Q

set_option linter.all false
set_option maxRecDepth 100000
set_option maxHeartbeats 1000000
set_option exponentiation.threshold 20000
namespace Q
open PySem
/-- the law's bag at the store's first place -/
def Bag (rest st : List D) : Prop := ∃ (xs : List Int) (a c m n : Int), st = .lst [.lst (xs.map .int), .int a, .int c, .int m, .int n] :: rest ∧ 0 ≤ a ∧ 0 ≤ c ∧ 0 ≤ m ∧ m < 2147483629 ∧ 0 ≤ n
theorem bag_of {rest : List D} (xs : List Int) {a c m n : Int} (h1 : 0 ≤ a) (h2 : 0 ≤ c) (h3 : 0 ≤ m) (h4 : m < 2147483629) (h5 : 0 ≤ n) : Bag rest (.lst [.lst (xs.map .int), .int a, .int c, .int m, .int n] :: rest) := ⟨xs, a, c, m, n, rfl, h1, h2, h3, h4, h5⟩
theorem mulOk_r {i j : Int} (h : -(2 ^ 64) < j) (h' : j < 2 ^ 64) : mulOk i j = true := by
  unfold mulOk
  exact decide_eq_true (.inr (.inl ⟨h, h'⟩))
theorem mulOk_l {i j : Int} (h : -(2 ^ 64) < i) (h' : i < 2 ^ 64) : mulOk i j = true := by
  unfold mulOk
  exact decide_eq_true (.inl ⟨h, h'⟩)
theorem big_of {k : Int} (h : k < 2 ^ 255) : k < 2 ^ 9000 := by
  have : (2 : Int) ^ 255 ≤ 2 ^ 9000 := by
    have := Nat.pow_le_pow_right (n := 2) (by decide) (show 255 ≤ 9000 by decide)
    exact_mod_cast this
  omega
theorem atI_map {xs : List Int} {a : Int} (h : 0 ≤ a) (h' : a < xs.length) : ∃ x, atI (xs.map D.int) a = some (.int x) := by
  obtain ⟨n, rfl⟩ := Int.eq_ofNat_of_zero_le h
  have hn : n < xs.length := by exact_mod_cast h'
  refine ⟨xs[n], ?_⟩
  show atI (xs.map D.int) ((n : Nat) : Int) = _
  rw [atI_of, List.getElem?_map, List.getElem?_eq_getElem hn]
  rfl
namespace C
theorem draw_ok {rest st : List D} {k : Int} (hb : Bag rest st) (h0 : 0 < k) (h1 : k < 2 ^ 9000) : (w__law_draw [.ref 0, .int k] st).Wp (fun p st' => ∃ r : Int, p = (.int r, .fz) ∧ 0 ≤ r ∧ r < k ∧ Bag rest st') NX := by
  obtain ⟨xs, a, c, m, n, rfl, ha, hc, hm, hm2, hn⟩ := hb
  unfold w__law_draw
  rw [f_fn]
  unfold b__law_draw
  rw [s_seq]
  simp only [wp_ok, wp_ex, wp_no, wp_bind, wp_bindS, wp_noX, slp_v, slp_o, rtp_v, rtp_o, kdp_fz, kdp_fl, kdp_fi, intp_i, blp_b, trp_b, trp_i, trp_l, trp_t, trp_n, optp_s, itp_t, itp_f, itp_nd, itp_ne, lsp_l, nbp_fz, nbp_fr, typ_int, typ_bl, typ_str, typ_non, typ_lst, typ_tup, icp_ins, icp_int, icp_bl, icp_str, icp_non, icp_lst, icp_tup, zpp_l, zpp_t, prp_i, w_var, w_cst, fzp_fz, fzp_fr, w_fzd, w_nil, w_cons, w_bin, w_idx, w_neg, o_add, o_sub, o_mul, o_fdiv, o_mod, o_pow, o_shl, o_shr, o_and, o_or, o_xor, o_eq, o_ne, o_neB, o_lt, o_le, o_gt, o_ge, o_ixl, o_ixt, o_addl, w_tup, w_lst, w_sl, w_eno, w_part, o_sll, o_sls, w_fld, o_fld, w_prop, w_call, w_callK, w_fun1, o_lenl, o_lent, o_listl, o_listt, o_tuplel, o_tuplet, o_int, o_intb, o_abs, o_all, o_any, o_sum, w_is, w_isC, w_isN, w_notN, w_chain, w_tval, w_tand, w_tor, w_tnot, w_yes, w_eand, w_eor, w_enot, w_eif, wkp_s, wk_l, wk_t, wk_r, wk_rl, w_ilist, w_irev, w_ienum, w_range1, w_range2, w_zip, w_comp, s_next, flp_nx, flp_bk, flp_ct, flp_rt, flp_xx, s_fz, fr_nil, fr_cons, fr_1, fr_o, fr_v, fr_u, s_set, kd_fz, kd_fl, kd_fi, s_ref, s_asgG, s_par, s_par3, s_ret, s_retV, s_retN, s_drop, s_no, s_bk, s_ct, plp_o, plp_r, llp_l, ilp_i, p_putu, s_app, s_put, p_putIu, s_attr, endP_nx, endP_rt, endP_xx, endP_bk, endP_ct, f_fn, f_init, at_0, ix_0, at_1, ix_1, at_2, ix_2, at_3, ix_3, at_4, ix_4, at_5, ix_5, at_6, ix_6, at_7, ix_7, at_8, ix_8, at_9, ix_9, at_10, ix_10, at_11, ix_11, rs_ref, rs_non, rs_bl, rs_int, rs_str, rs_tup, rs_scr, rs_lst, rs_dct, rs_ins, isL, atKs, atVs, gName, enS, List.map_cons, List.map_nil, List.length_cons, List.length_nil, List.cons_append, List.nil_append, List.getElem?_cons_succ, List.getElem?_cons_zero, List.set_cons_succ, List.set_cons_zero, List.replicate, Nat.reduceSub, Nat.reduceAdd, List.getD_cons_zero, List.getD_cons_succ, gTup, gAll, Option.bind_some, isTy, List.any_cons, List.any_nil, Bool.or_false, Bool.false_or, Bool.true_or, Bool.or_true, D.isNon, true_and, Bool.not_true, Bool.not_false, perm, Int.reduceToNat, Nat.reduceLT, Option.map_some, Nat.zero_lt_succ, decide_true, decide_false, Nat.lt_add_left_iff_pos, Nat.lt_add_one]
  rw [s_seq]
  refine R.Wp.imp (P := fun (f : Fl) st1 => ∃ s2, f = .nx [.val (.ref 0), .val (.int k), s2, .un] ∧ Bag rest st1) ?_ ?_
  · simp only [wp_ok, wp_ex, wp_no, wp_bind, wp_bindS, wp_noX, slp_v, slp_o, rtp_v, rtp_o, kdp_fz, kdp_fl, kdp_fi, intp_i, blp_b, trp_b, trp_i, trp_l, trp_t, trp_n, optp_s, itp_t, itp_f, itp_nd, itp_ne, lsp_l, nbp_fz, nbp_fr, typ_int, typ_bl, typ_str, typ_non, typ_lst, typ_tup, icp_ins, icp_int, icp_bl, icp_str, icp_non, icp_lst, icp_tup, zpp_l, zpp_t, prp_i, w_var, w_cst, fzp_fz, fzp_fr, w_fzd, w_nil, w_cons, w_bin, w_idx, w_neg, o_add, o_sub, o_mul, o_fdiv, o_mod, o_pow, o_shl, o_shr, o_and, o_or, o_xor, o_eq, o_ne, o_neB, o_lt, o_le, o_gt, o_ge, o_ixl, o_ixt, o_addl, w_tup, w_lst, w_sl, w_eno, w_part, o_sll, o_sls, w_fld, o_fld, w_prop, w_call, w_callK, w_fun1, o_lenl, o_lent, o_listl, o_listt, o_tuplel, o_tuplet, o_int, o_intb, o_abs, o_all, o_any, o_sum, w_is, w_isC, w_isN, w_notN, w_chain, w_tval, w_tand, w_tor, w_tnot, w_yes, w_eand, w_eor, w_enot, w_eif, wkp_s, wk_l, wk_t, wk_r, wk_rl, w_ilist, w_irev, w_ienum, w_range1, w_range2, w_zip, w_comp, s_next, flp_nx, flp_bk, flp_ct, flp_rt, flp_xx, s_seq, s_fz, fr_nil, fr_cons, fr_1, fr_o, fr_v, fr_u, s_set, kd_fz, kd_fl, kd_fi, s_ref, s_asgG, s_par, s_par3, s_ret, s_retV, s_retN, s_drop, s_if, s_no, s_bk, s_ct, s_for, plp_o, plp_r, llp_l, ilp_i, p_putu, s_app, s_put, p_putIu, s_attr, endP_nx, endP_rt, endP_xx, endP_bk, endP_ct, f_fn, f_init, at_0, ix_0, at_1, ix_1, at_2, ix_2, at_3, ix_3, at_4, ix_4, at_5, ix_5, at_6, ix_6, at_7, ix_7, at_8, ix_8, at_9, ix_9, at_10, ix_10, at_11, ix_11, rs_ref, rs_non, rs_bl, rs_int, rs_str, rs_tup, rs_scr, rs_lst, rs_dct, rs_ins, isL, atKs, atVs, gName, enS, List.map_cons, List.map_nil, List.length_cons, List.length_nil, List.cons_append, List.nil_append, List.getElem?_cons_succ, List.getElem?_cons_zero, List.set_cons_succ, List.set_cons_zero, List.replicate, Nat.reduceSub, Nat.reduceAdd, List.getD_cons_zero, List.getD_cons_succ, gTup, gAll, Option.bind_some, isTy, List.any_cons, List.any_nil, Bool.or_false, Bool.false_or, Bool.true_or, Bool.or_true, D.isNon, true_and, Bool.not_true, Bool.not_false, perm, Int.reduceToNat, Nat.reduceLT, Option.map_some, Nat.zero_lt_succ, decide_true, decide_false, Nat.lt_add_left_iff_pos, Nat.lt_add_one]
    refine itp_d (fun hc0 => ?_) (fun hc0 => ?_)
    · simp only [wp_ok, wp_ex, wp_no, wp_bind, wp_bindS, wp_noX, slp_v, slp_o, rtp_v, rtp_o, kdp_fz, kdp_fl, kdp_fi, intp_i, blp_b, trp_b, trp_i, trp_l, trp_t, trp_n, optp_s, itp_t, itp_f, itp_nd, itp_ne, lsp_l, nbp_fz, nbp_fr, typ_int, typ_bl, typ_str, typ_non, typ_lst, typ_tup, icp_ins, icp_int, icp_bl, icp_str, icp_non, icp_lst, icp_tup, zpp_l, zpp_t, prp_i, w_var, w_cst, fzp_fz, fzp_fr, w_fzd, w_nil, w_cons, w_bin, w_idx, w_neg, o_add, o_sub, o_mul, o_fdiv, o_mod, o_pow, o_shl, o_shr, o_and, o_or, o_xor, o_eq, o_ne, o_neB, o_lt, o_le, o_gt, o_ge, o_ixl, o_ixt, o_addl, w_tup, w_lst, w_sl, w_eno, w_part, o_sll, o_sls, w_fld, o_fld, w_prop, w_call, w_callK, w_fun1, o_lenl, o_lent, o_listl, o_listt, o_tuplel, o_tuplet, o_int, o_intb, o_abs, o_all, o_any, o_sum, w_is, w_isC, w_isN, w_notN, w_chain, w_tval, w_tand, w_tor, w_tnot, w_yes, w_eand, w_eor, w_enot, w_eif, wkp_s, wk_l, wk_t, wk_r, wk_rl, w_ilist, w_irev, w_ienum, w_range1, w_range2, w_zip, w_comp, s_next, flp_nx, flp_bk, flp_ct, flp_rt, flp_xx, s_seq, s_fz, fr_nil, fr_cons, fr_1, fr_o, fr_v, fr_u, s_set, kd_fz, kd_fl, kd_fi, s_ref, s_asgG, s_par, s_par3, s_ret, s_retV, s_retN, s_drop, s_if, s_no, s_bk, s_ct, s_for, plp_o, plp_r, llp_l, ilp_i, p_putu, s_app, s_put, p_putIu, s_attr, endP_nx, endP_rt, endP_xx, endP_bk, endP_ct, f_fn, f_init, at_0, ix_0, at_1, ix_1, at_2, ix_2, at_3, ix_3, at_4, ix_4, at_5, ix_5, at_6, ix_6, at_7, ix_7, at_8, ix_8, at_9, ix_9, at_10, ix_10, at_11, ix_11, rs_ref, rs_non, rs_bl, rs_int, rs_str, rs_tup, rs_scr, rs_lst, rs_dct, rs_ins, isL, atKs, atVs, gName, enS, List.map_cons, List.map_nil, List.length_cons, List.length_nil, List.cons_append, List.nil_append, List.getElem?_cons_succ, List.getElem?_cons_zero, List.set_cons_succ, List.set_cons_zero, List.replicate, Nat.reduceSub, Nat.reduceAdd, List.getD_cons_zero, List.getD_cons_succ, gTup, gAll, Option.bind_some, isTy, List.any_cons, List.any_nil, Bool.or_false, Bool.false_or, Bool.true_or, Bool.or_true, D.isNon, true_and, Bool.not_true, Bool.not_false, perm, Int.reduceToNat, Nat.reduceLT, Option.map_some, Nat.zero_lt_succ, decide_true, decide_false, Nat.lt_add_left_iff_pos, Nat.lt_add_one, List.length_map]
      refine itp_d (fun ha0 => ?_) (fun ha0 => ?_)
      · obtain ⟨x, hx⟩ := atI_map ha ha0
        simp only [wp_ok, wp_ex, wp_no, wp_bind, wp_bindS, wp_noX, slp_v, slp_o, rtp_v, rtp_o, kdp_fz, kdp_fl, kdp_fi, intp_i, blp_b, trp_b, trp_i, trp_l, trp_t, trp_n, optp_s, itp_t, itp_f, itp_nd, itp_ne, lsp_l, nbp_fz, nbp_fr, typ_int, typ_bl, typ_str, typ_non, typ_lst, typ_tup, icp_ins, icp_int, icp_bl, icp_str, icp_non, icp_lst, icp_tup, zpp_l, zpp_t, prp_i, w_var, w_cst, fzp_fz, fzp_fr, w_fzd, w_nil, w_cons, w_bin, w_idx, w_neg, o_add, o_sub, o_mul, o_fdiv, o_mod, o_pow, o_shl, o_shr, o_and, o_or, o_xor, o_eq, o_ne, o_neB, o_lt, o_le, o_gt, o_ge, o_ixl, o_ixt, o_addl, w_tup, w_lst, w_sl, w_eno, w_part, o_sll, o_sls, w_fld, o_fld, w_prop, w_call, w_callK, w_fun1, o_lenl, o_lent, o_listl, o_listt, o_tuplel, o_tuplet, o_int, o_intb, o_abs, o_all, o_any, o_sum, w_is, w_isC, w_isN, w_notN, w_chain, w_tval, w_tand, w_tor, w_tnot, w_yes, w_eand, w_eor, w_enot, w_eif, wkp_s, wk_l, wk_t, wk_r, wk_rl, w_ilist, w_irev, w_ienum, w_range1, w_range2, w_zip, w_comp, s_next, flp_nx, flp_bk, flp_ct, flp_rt, flp_xx, s_seq, s_fz, fr_nil, fr_cons, fr_1, fr_o, fr_v, fr_u, s_set, kd_fz, kd_fl, kd_fi, s_ref, s_asgG, s_par, s_par3, s_ret, s_retV, s_retN, s_drop, s_if, s_no, s_bk, s_ct, s_for, plp_o, plp_r, llp_l, ilp_i, p_putu, s_app, s_put, p_putIu, s_attr, endP_nx, endP_rt, endP_xx, endP_bk, endP_ct, f_fn, f_init, at_0, ix_0, at_1, ix_1, at_2, ix_2, at_3, ix_3, at_4, ix_4, at_5, ix_5, at_6, ix_6, at_7, ix_7, at_8, ix_8, at_9, ix_9, at_10, ix_10, at_11, ix_11, rs_ref, rs_non, rs_bl, rs_int, rs_str, rs_tup, rs_scr, rs_lst, rs_dct, rs_ins, isL, atKs, atVs, gName, enS, List.map_cons, List.map_nil, List.length_cons, List.length_nil, List.cons_append, List.nil_append, List.getElem?_cons_succ, List.getElem?_cons_zero, List.set_cons_succ, List.set_cons_zero, List.replicate, Nat.reduceSub, Nat.reduceAdd, List.getD_cons_zero, List.getD_cons_succ, gTup, gAll, Option.bind_some, isTy, List.any_cons, List.any_nil, Bool.or_false, Bool.false_or, Bool.true_or, Bool.or_true, D.isNon, true_and, Bool.not_true, Bool.not_false, perm, Int.reduceToNat, Nat.reduceLT, Option.map_some, Nat.zero_lt_succ, decide_true, decide_false, Nat.lt_add_left_iff_pos, Nat.lt_add_one, hx]
        refine ⟨⟨by decide, by decide, by decide⟩, itp_d (fun hx0 => ?_) (fun hx0 => ?_)⟩
        · simp only [wp_ok, wp_ex, wp_no, wp_bind, wp_bindS, wp_noX, slp_v, slp_o, rtp_v, rtp_o, kdp_fz, kdp_fl, kdp_fi, intp_i, blp_b, trp_b, trp_i, trp_l, trp_t, trp_n, optp_s, itp_t, itp_f, itp_nd, itp_ne, lsp_l, nbp_fz, nbp_fr, typ_int, typ_bl, typ_str, typ_non, typ_lst, typ_tup, icp_ins, icp_int, icp_bl, icp_str, icp_non, icp_lst, icp_tup, zpp_l, zpp_t, prp_i, w_var, w_cst, fzp_fz, fzp_fr, w_fzd, w_nil, w_cons, w_bin, w_idx, w_neg, o_add, o_sub, o_mul, o_fdiv, o_mod, o_pow, o_shl, o_shr, o_and, o_or, o_xor, o_eq, o_ne, o_neB, o_lt, o_le, o_gt, o_ge, o_ixl, o_ixt, o_addl, w_tup, w_lst, w_sl, w_eno, w_part, o_sll, o_sls, w_fld, o_fld, w_prop, w_call, w_callK, w_fun1, o_lenl, o_lent, o_listl, o_listt, o_tuplel, o_tuplet, o_int, o_intb, o_abs, o_all, o_any, o_sum, w_is, w_isC, w_isN, w_notN, w_chain, w_tval, w_tand, w_tor, w_tnot, w_yes, w_eand, w_eor, w_enot, w_eif, wkp_s, wk_l, wk_t, wk_r, wk_rl, w_ilist, w_irev, w_ienum, w_range1, w_range2, w_zip, w_comp, s_next, flp_nx, flp_bk, flp_ct, flp_rt, flp_xx, s_seq, s_fz, fr_nil, fr_cons, fr_1, fr_o, fr_v, fr_u, s_set, kd_fz, kd_fl, kd_fi, s_ref, s_asgG, s_par, s_par3, s_ret, s_retV, s_retN, s_drop, s_if, s_no, s_bk, s_ct, s_for, plp_o, plp_r, llp_l, ilp_i, p_putu, s_app, s_put, p_putIu, s_attr, endP_nx, endP_rt, endP_xx, endP_bk, endP_ct, f_fn, f_init, at_0, ix_0, at_1, ix_1, at_2, ix_2, at_3, ix_3, at_4, ix_4, at_5, ix_5, at_6, ix_6, at_7, ix_7, at_8, ix_8, at_9, ix_9, at_10, ix_10, at_11, ix_11, rs_ref, rs_non, rs_bl, rs_int, rs_str, rs_tup, rs_scr, rs_lst, rs_dct, rs_ins, isL, atKs, atVs, gName, enS, List.map_cons, List.map_nil, List.length_cons, List.length_nil, List.cons_append, List.nil_append, List.getElem?_cons_succ, List.getElem?_cons_zero, List.set_cons_succ, List.set_cons_zero, List.replicate, Nat.reduceSub, Nat.reduceAdd, List.getD_cons_zero, List.getD_cons_succ, gTup, gAll, Option.bind_some, isTy, List.any_cons, List.any_nil, Bool.or_false, Bool.false_or, Bool.true_or, Bool.or_true, D.isNon, true_and, Bool.not_true, Bool.not_false, perm, Int.reduceToNat, Nat.reduceLT, Option.map_some, Nat.zero_lt_succ, decide_true, decide_false, Nat.lt_add_left_iff_pos, Nat.lt_add_one]
          have : (10 : Int) ^ 18 ≤ x := hx0
          have h10 : (0:Int) ≤ 10 ^ 18 := by decide
          exact ⟨_, (by trivial), bag_of xs (by omega) (by omega) hm hm2 (by omega)⟩
        · simp only [wp_ok, wp_ex, wp_no, wp_bind, wp_bindS, wp_noX, slp_v, slp_o, rtp_v, rtp_o, kdp_fz, kdp_fl, kdp_fi, intp_i, blp_b, trp_b, trp_i, trp_l, trp_t, trp_n, optp_s, itp_t, itp_f, itp_nd, itp_ne, lsp_l, nbp_fz, nbp_fr, typ_int, typ_bl, typ_str, typ_non, typ_lst, typ_tup, icp_ins, icp_int, icp_bl, icp_str, icp_non, icp_lst, icp_tup, zpp_l, zpp_t, prp_i, w_var, w_cst, fzp_fz, fzp_fr, w_fzd, w_nil, w_cons, w_bin, w_idx, w_neg, o_add, o_sub, o_mul, o_fdiv, o_mod, o_pow, o_shl, o_shr, o_and, o_or, o_xor, o_eq, o_ne, o_neB, o_lt, o_le, o_gt, o_ge, o_ixl, o_ixt, o_addl, w_tup, w_lst, w_sl, w_eno, w_part, o_sll, o_sls, w_fld, o_fld, w_prop, w_call, w_callK, w_fun1, o_lenl, o_lent, o_listl, o_listt, o_tuplel, o_tuplet, o_int, o_intb, o_abs, o_all, o_any, o_sum, w_is, w_isC, w_isN, w_notN, w_chain, w_tval, w_tand, w_tor, w_tnot, w_yes, w_eand, w_eor, w_enot, w_eif, wkp_s, wk_l, wk_t, wk_r, wk_rl, w_ilist, w_irev, w_ienum, w_range1, w_range2, w_zip, w_comp, s_next, flp_nx, flp_bk, flp_ct, flp_rt, flp_xx, s_seq, s_fz, fr_nil, fr_cons, fr_1, fr_o, fr_v, fr_u, s_set, kd_fz, kd_fl, kd_fi, s_ref, s_asgG, s_par, s_par3, s_ret, s_retV, s_retN, s_drop, s_if, s_no, s_bk, s_ct, s_for, plp_o, plp_r, llp_l, ilp_i, p_putu, s_app, s_put, p_putIu, s_attr, endP_nx, endP_rt, endP_xx, endP_bk, endP_ct, f_fn, f_init, at_0, ix_0, at_1, ix_1, at_2, ix_2, at_3, ix_3, at_4, ix_4, at_5, ix_5, at_6, ix_6, at_7, ix_7, at_8, ix_8, at_9, ix_9, at_10, ix_10, at_11, ix_11, rs_ref, rs_non, rs_bl, rs_int, rs_str, rs_tup, rs_scr, rs_lst, rs_dct, rs_ins, isL, atKs, atVs, gName, enS, List.map_cons, List.map_nil, List.length_cons, List.length_nil, List.cons_append, List.nil_append, List.getElem?_cons_succ, List.getElem?_cons_zero, List.set_cons_succ, List.set_cons_zero, List.replicate, Nat.reduceSub, Nat.reduceAdd, List.getD_cons_zero, List.getD_cons_succ, gTup, gAll, Option.bind_some, isTy, List.any_cons, List.any_nil, Bool.or_false, Bool.false_or, Bool.true_or, Bool.or_true, D.isNon, true_and, Bool.not_true, Bool.not_false, perm, Int.reduceToNat, Nat.reduceLT, Option.map_some, Nat.zero_lt_succ, decide_true, decide_false, Nat.lt_add_left_iff_pos, Nat.lt_add_one]
          refine ⟨mulOk_r (by decide) (by decide), by decide, mulOk_r (by decide) (by decide), by decide, _, (by trivial), bag_of xs (by omega) hc (Int.emod_nonneg _ (by decide)) (Int.emod_lt_of_pos _ (by decide)) (by omega)⟩
      · exact ⟨_, (by trivial), bag_of xs ha hc hm hm2 (by omega)⟩
    · exact ⟨_, (by trivial), bag_of xs ha hc hm hm2 (by omega)⟩
  · rintro _ _ ⟨s2, rfl, xs, a, c, m, n, rfl, ha, hc, hm, hm2, hn⟩
    simp only [wp_ok, wp_ex, wp_no, wp_bind, wp_bindS, wp_noX, slp_v, slp_o, rtp_v, rtp_o, kdp_fz, kdp_fl, kdp_fi, intp_i, blp_b, trp_b, trp_i, trp_l, trp_t, trp_n, optp_s, itp_t, itp_f, itp_nd, itp_ne, lsp_l, nbp_fz, nbp_fr, typ_int, typ_bl, typ_str, typ_non, typ_lst, typ_tup, icp_ins, icp_int, icp_bl, icp_str, icp_non, icp_lst, icp_tup, zpp_l, zpp_t, prp_i, w_var, w_cst, fzp_fz, fzp_fr, w_fzd, w_nil, w_cons, w_bin, w_idx, w_neg, o_add, o_sub, o_mul, o_fdiv, o_mod, o_pow, o_shl, o_shr, o_and, o_or, o_xor, o_eq, o_ne, o_neB, o_lt, o_le, o_gt, o_ge, o_ixl, o_ixt, o_addl, w_tup, w_lst, w_sl, w_eno, w_part, o_sll, o_sls, w_fld, o_fld, w_prop, w_call, w_callK, w_fun1, o_lenl, o_lent, o_listl, o_listt, o_tuplel, o_tuplet, o_int, o_intb, o_abs, o_all, o_any, o_sum, w_is, w_isC, w_isN, w_notN, w_chain, w_tval, w_tand, w_tor, w_tnot, w_yes, w_eand, w_eor, w_enot, w_eif, wkp_s, wk_l, wk_t, wk_r, wk_rl, w_ilist, w_irev, w_ienum, w_range1, w_range2, w_zip, w_comp, s_next, flp_nx, flp_bk, flp_ct, flp_rt, flp_xx, s_seq, s_fz, fr_nil, fr_cons, fr_1, fr_o, fr_v, fr_u, s_set, kd_fz, kd_fl, kd_fi, s_ref, s_asgG, s_par, s_par3, s_ret, s_retV, s_retN, s_drop, s_if, s_no, s_bk, s_ct, s_for, plp_o, plp_r, llp_l, ilp_i, p_putu, s_app, s_put, p_putIu, s_attr, endP_nx, endP_rt, endP_xx, endP_bk, endP_ct, f_fn, f_init, at_0, ix_0, at_1, ix_1, at_2, ix_2, at_3, ix_3, at_4, ix_4, at_5, ix_5, at_6, ix_6, at_7, ix_7, at_8, ix_8, at_9, ix_9, at_10, ix_10, at_11, ix_11, rs_ref, rs_non, rs_bl, rs_int, rs_str, rs_tup, rs_scr, rs_lst, rs_dct, rs_ins, isL, atKs, atVs, gName, enS, List.map_cons, List.map_nil, List.length_cons, List.length_nil, List.cons_append, List.nil_append, List.getElem?_cons_succ, List.getElem?_cons_zero, List.set_cons_succ, List.set_cons_zero, List.replicate, Nat.reduceSub, Nat.reduceAdd, List.getD_cons_zero, List.getD_cons_succ, gTup, gAll, Option.bind_some, isTy, List.any_cons, List.any_nil, Bool.or_false, Bool.false_or, Bool.true_or, Bool.or_true, D.isNon, true_and, Bool.not_true, Bool.not_false, perm, Int.reduceToNat, Nat.reduceLT, Option.map_some, Nat.zero_lt_succ, decide_true, decide_false, Nat.lt_add_left_iff_pos, Nat.lt_add_one]
    refine itp_d (fun hc0 => ?_) (fun hc0 => ?_)
    · simp only [wp_ok, wp_ex, wp_no, wp_bind, wp_bindS, wp_noX, slp_v, slp_o, rtp_v, rtp_o, kdp_fz, kdp_fl, kdp_fi, intp_i, blp_b, trp_b, trp_i, trp_l, trp_t, trp_n, optp_s, itp_t, itp_f, itp_nd, itp_ne, lsp_l, nbp_fz, nbp_fr, typ_int, typ_bl, typ_str, typ_non, typ_lst, typ_tup, icp_ins, icp_int, icp_bl, icp_str, icp_non, icp_lst, icp_tup, zpp_l, zpp_t, prp_i, w_var, w_cst, fzp_fz, fzp_fr, w_fzd, w_nil, w_cons, w_bin, w_idx, w_neg, o_add, o_sub, o_mul, o_fdiv, o_mod, o_pow, o_shl, o_shr, o_and, o_or, o_xor, o_eq, o_ne, o_neB, o_lt, o_le, o_gt, o_ge, o_ixl, o_ixt, o_addl, w_tup, w_lst, w_sl, w_eno, w_part, o_sll, o_sls, w_fld, o_fld, w_prop, w_call, w_callK, w_fun1, o_lenl, o_lent, o_listl, o_listt, o_tuplel, o_tuplet, o_int, o_intb, o_abs, o_all, o_any, o_sum, w_is, w_isC, w_isN, w_notN, w_chain, w_tval, w_tand, w_tor, w_tnot, w_yes, w_eand, w_eor, w_enot, w_eif, wkp_s, wk_l, wk_t, wk_r, wk_rl, w_ilist, w_irev, w_ienum, w_range1, w_range2, w_zip, w_comp, s_next, flp_nx, flp_bk, flp_ct, flp_rt, flp_xx, s_seq, s_fz, fr_nil, fr_cons, fr_1, fr_o, fr_v, fr_u, s_set, kd_fz, kd_fl, kd_fi, s_ref, s_asgG, s_par, s_par3, s_ret, s_retV, s_retN, s_drop, s_if, s_no, s_bk, s_ct, s_for, plp_o, plp_r, llp_l, ilp_i, p_putu, s_app, s_put, p_putIu, s_attr, endP_nx, endP_rt, endP_xx, endP_bk, endP_ct, f_fn, f_init, at_0, ix_0, at_1, ix_1, at_2, ix_2, at_3, ix_3, at_4, ix_4, at_5, ix_5, at_6, ix_6, at_7, ix_7, at_8, ix_8, at_9, ix_9, at_10, ix_10, at_11, ix_11, rs_ref, rs_non, rs_bl, rs_int, rs_str, rs_tup, rs_scr, rs_lst, rs_dct, rs_ins, isL, atKs, atVs, gName, enS, List.map_cons, List.map_nil, List.length_cons, List.length_nil, List.cons_append, List.nil_append, List.getElem?_cons_succ, List.getElem?_cons_zero, List.set_cons_succ, List.set_cons_zero, List.replicate, Nat.reduceSub, Nat.reduceAdd, List.getD_cons_zero, List.getD_cons_succ, gTup, gAll, Option.bind_some, isTy, List.any_cons, List.any_nil, Bool.or_false, Bool.false_or, Bool.true_or, Bool.or_true, D.isNon, true_and, Bool.not_true, Bool.not_false, perm, Int.reduceToNat, Nat.reduceLT, Option.map_some, Nat.zero_lt_succ, decide_true, decide_false, Nat.lt_add_left_iff_pos, Nat.lt_add_one]
      refine ⟨h0, ⟨h0, h1⟩, _, (by trivial), Int.emod_nonneg _ (by omega), Int.emod_lt_of_pos _ h0, bag_of xs ha (Int.ediv_nonneg hc (by omega)) hm hm2 hn⟩
    · simp only [wp_ok, wp_ex, wp_no, wp_bind, wp_bindS, wp_noX, slp_v, slp_o, rtp_v, rtp_o, kdp_fz, kdp_fl, kdp_fi, intp_i, blp_b, trp_b, trp_i, trp_l, trp_t, trp_n, optp_s, itp_t, itp_f, itp_nd, itp_ne, lsp_l, nbp_fz, nbp_fr, typ_int, typ_bl, typ_str, typ_non, typ_lst, typ_tup, icp_ins, icp_int, icp_bl, icp_str, icp_non, icp_lst, icp_tup, zpp_l, zpp_t, prp_i, w_var, w_cst, fzp_fz, fzp_fr, w_fzd, w_nil, w_cons, w_bin, w_idx, w_neg, o_add, o_sub, o_mul, o_fdiv, o_mod, o_pow, o_shl, o_shr, o_and, o_or, o_xor, o_eq, o_ne, o_neB, o_lt, o_le, o_gt, o_ge, o_ixl, o_ixt, o_addl, w_tup, w_lst, w_sl, w_eno, w_part, o_sll, o_sls, w_fld, o_fld, w_prop, w_call, w_callK, w_fun1, o_lenl, o_lent, o_listl, o_listt, o_tuplel, o_tuplet, o_int, o_intb, o_abs, o_all, o_any, o_sum, w_is, w_isC, w_isN, w_notN, w_chain, w_tval, w_tand, w_tor, w_tnot, w_yes, w_eand, w_eor, w_enot, w_eif, wkp_s, wk_l, wk_t, wk_r, wk_rl, w_ilist, w_irev, w_ienum, w_range1, w_range2, w_zip, w_comp, s_next, flp_nx, flp_bk, flp_ct, flp_rt, flp_xx, s_seq, s_fz, fr_nil, fr_cons, fr_1, fr_o, fr_v, fr_u, s_set, kd_fz, kd_fl, kd_fi, s_ref, s_asgG, s_par, s_par3, s_ret, s_retV, s_retN, s_drop, s_if, s_no, s_bk, s_ct, s_for, plp_o, plp_r, llp_l, ilp_i, p_putu, s_app, s_put, p_putIu, s_attr, endP_nx, endP_rt, endP_xx, endP_bk, endP_ct, f_fn, f_init, at_0, ix_0, at_1, ix_1, at_2, ix_2, at_3, ix_3, at_4, ix_4, at_5, ix_5, at_6, ix_6, at_7, ix_7, at_8, ix_8, at_9, ix_9, at_10, ix_10, at_11, ix_11, rs_ref, rs_non, rs_bl, rs_int, rs_str, rs_tup, rs_scr, rs_lst, rs_dct, rs_ins, isL, atKs, atVs, gName, enS, List.map_cons, List.map_nil, List.length_cons, List.length_nil, List.cons_append, List.nil_append, List.getElem?_cons_succ, List.getElem?_cons_zero, List.set_cons_succ, List.set_cons_zero, List.replicate, Nat.reduceSub, Nat.reduceAdd, List.getD_cons_zero, List.getD_cons_succ, gTup, gAll, Option.bind_some, isTy, List.any_cons, List.any_nil, Bool.or_false, Bool.false_or, Bool.true_or, Bool.or_true, D.isNon, true_and, Bool.not_true, Bool.not_false, perm, Int.reduceToNat, Nat.reduceLT, Option.map_some, Nat.zero_lt_succ, decide_true, decide_false, Nat.lt_add_left_iff_pos, Nat.lt_add_one]
      refine ⟨⟨by decide, by decide, by omega⟩, mulOk_r (by decide) (by decide), by decide, ⟨by decide, by decide⟩, by decide, mulOk_r (by decide) (by decide), h0, ?_⟩
      refine ⟨_, (by trivial), Int.emod_nonneg _ (by omega), Int.emod_lt_of_pos _ h0, bag_of xs ha hc (Int.emod_nonneg _ (by decide)) (Int.emod_lt_of_pos _ (by decide)) hn⟩
theorem of_ok {rest st : List D} {ds : List D} (hb : Bag rest st) (h0 : ds ≠ []) (h1 : ds.length < 1000) : (w__law_of [.ref 0, .lst ds] st).Wp (fun p st' => ∃ d ∈ ds, p = (d, .fz) ∧ Bag rest st') NX := by
  have hl : 0 < ds.length := List.length_pos_iff.mpr h0
  unfold w__law_of
  rw [f_fn]
  unfold b__law_of
  simp only [wp_ok, wp_ex, wp_no, wp_bind, wp_bindS, wp_noX, slp_v, slp_o, rtp_v, rtp_o, kdp_fz, kdp_fl, kdp_fi, intp_i, blp_b, trp_b, trp_i, trp_l, trp_t, trp_n, optp_s, itp_t, itp_f, itp_nd, itp_ne, lsp_l, nbp_fz, nbp_fr, typ_int, typ_bl, typ_str, typ_non, typ_lst, typ_tup, icp_ins, icp_int, icp_bl, icp_str, icp_non, icp_lst, icp_tup, zpp_l, zpp_t, prp_i, w_var, w_cst, fzp_fz, fzp_fr, w_fzd, w_nil, w_cons, w_bin, w_idx, w_neg, o_add, o_sub, o_mul, o_fdiv, o_mod, o_pow, o_shl, o_shr, o_and, o_or, o_xor, o_eq, o_ne, o_neB, o_lt, o_le, o_gt, o_ge, o_ixl, o_ixt, o_addl, w_tup, w_lst, w_sl, w_eno, w_part, o_sll, o_sls, w_fld, o_fld, w_prop, w_call, w_callK, w_fun1, o_lenl, o_lent, o_listl, o_listt, o_tuplel, o_tuplet, o_int, o_intb, o_abs, o_all, o_any, o_sum, w_is, w_isC, w_isN, w_notN, w_chain, w_tval, w_tand, w_tor, w_tnot, w_yes, w_eand, w_eor, w_enot, w_eif, wkp_s, wk_l, wk_t, wk_r, wk_rl, w_ilist, w_irev, w_ienum, w_range1, w_range2, w_zip, w_comp, s_next, flp_nx, flp_bk, flp_ct, flp_rt, flp_xx, s_seq, s_fz, fr_nil, fr_cons, fr_1, fr_o, fr_v, fr_u, s_set, kd_fz, kd_fl, kd_fi, s_ref, s_asgG, s_par, s_par3, s_ret, s_retV, s_retN, s_drop, s_if, s_no, s_bk, s_ct, s_for, plp_o, plp_r, llp_l, ilp_i, p_putu, s_app, s_put, p_putIu, s_attr, endP_nx, endP_rt, endP_xx, endP_bk, endP_ct, f_fn, f_init, at_0, ix_0, at_1, ix_1, at_2, ix_2, at_3, ix_3, at_4, ix_4, at_5, ix_5, at_6, ix_6, at_7, ix_7, at_8, ix_8, at_9, ix_9, at_10, ix_10, at_11, ix_11, rs_ref, rs_non, rs_bl, rs_int, rs_str, rs_tup, rs_scr, rs_lst, rs_dct, rs_ins, isL, atKs, atVs, gName, enS, List.map_cons, List.map_nil, List.length_cons, List.length_nil, List.cons_append, List.nil_append, List.getElem?_cons_succ, List.getElem?_cons_zero, List.set_cons_succ, List.set_cons_zero, List.replicate, Nat.reduceSub, Nat.reduceAdd, List.getD_cons_zero, List.getD_cons_succ, gTup, gAll, Option.bind_some, isTy, List.any_cons, List.any_nil, Bool.or_false, Bool.false_or, Bool.true_or, Bool.or_true, D.isNon, true_and, Bool.not_true, Bool.not_false, perm, Int.reduceToNat, Nat.reduceLT, Option.map_some, Nat.zero_lt_succ, decide_true, decide_false, Nat.lt_add_left_iff_pos, Nat.lt_add_one]
  refine (draw_ok hb (by omega) (big_of (by omega))).imp0 ?_
  rintro _ st' ⟨r, rfl, h2, h3, hb'⟩
  obtain ⟨n, rfl⟩ := Int.eq_ofNat_of_zero_le h2
  have hn : n < ds.length := by exact_mod_cast h3
  have : atI ds (n : Int) = some ds[n] := by rw [atI_of, List.getElem?_eq_getElem hn]
  simp only [wp_ok, wp_ex, wp_no, wp_bind, wp_bindS, wp_noX, slp_v, slp_o, rtp_v, rtp_o, kdp_fz, kdp_fl, kdp_fi, intp_i, blp_b, trp_b, trp_i, trp_l, trp_t, trp_n, optp_s, itp_t, itp_f, itp_nd, itp_ne, lsp_l, nbp_fz, nbp_fr, typ_int, typ_bl, typ_str, typ_non, typ_lst, typ_tup, icp_ins, icp_int, icp_bl, icp_str, icp_non, icp_lst, icp_tup, zpp_l, zpp_t, prp_i, w_var, w_cst, fzp_fz, fzp_fr, w_fzd, w_nil, w_cons, w_bin, w_idx, w_neg, o_add, o_sub, o_mul, o_fdiv, o_mod, o_pow, o_shl, o_shr, o_and, o_or, o_xor, o_eq, o_ne, o_neB, o_lt, o_le, o_gt, o_ge, o_ixl, o_ixt, o_addl, w_tup, w_lst, w_sl, w_eno, w_part, o_sll, o_sls, w_fld, o_fld, w_prop, w_call, w_callK, w_fun1, o_lenl, o_lent, o_listl, o_listt, o_tuplel, o_tuplet, o_int, o_intb, o_abs, o_all, o_any, o_sum, w_is, w_isC, w_isN, w_notN, w_chain, w_tval, w_tand, w_tor, w_tnot, w_yes, w_eand, w_eor, w_enot, w_eif, wkp_s, wk_l, wk_t, wk_r, wk_rl, w_ilist, w_irev, w_ienum, w_range1, w_range2, w_zip, w_comp, s_next, flp_nx, flp_bk, flp_ct, flp_rt, flp_xx, s_seq, s_fz, fr_nil, fr_cons, fr_1, fr_o, fr_v, fr_u, s_set, kd_fz, kd_fl, kd_fi, s_ref, s_asgG, s_par, s_par3, s_ret, s_retV, s_retN, s_drop, s_if, s_no, s_bk, s_ct, s_for, plp_o, plp_r, llp_l, ilp_i, p_putu, s_app, s_put, p_putIu, s_attr, endP_nx, endP_rt, endP_xx, endP_bk, endP_ct, f_fn, f_init, at_0, ix_0, at_1, ix_1, at_2, ix_2, at_3, ix_3, at_4, ix_4, at_5, ix_5, at_6, ix_6, at_7, ix_7, at_8, ix_8, at_9, ix_9, at_10, ix_10, at_11, ix_11, rs_ref, rs_non, rs_bl, rs_int, rs_str, rs_tup, rs_scr, rs_lst, rs_dct, rs_ins, isL, atKs, atVs, gName, enS, List.map_cons, List.map_nil, List.length_cons, List.length_nil, List.cons_append, List.nil_append, List.getElem?_cons_succ, List.getElem?_cons_zero, List.set_cons_succ, List.set_cons_zero, List.replicate, Nat.reduceSub, Nat.reduceAdd, List.getD_cons_zero, List.getD_cons_succ, gTup, gAll, Option.bind_some, isTy, List.any_cons, List.any_nil, Bool.or_false, Bool.false_or, Bool.true_or, Bool.or_true, D.isNon, true_and, Bool.not_true, Bool.not_false, perm, Int.reduceToNat, Nat.reduceLT, Option.map_some, Nat.zero_lt_succ, decide_true, decide_false, Nat.lt_add_left_iff_pos, Nat.lt_add_one]
  show optp (atI ds (n : Int)) _
  rw [this]
  simp only [wp_ok, wp_ex, wp_no, wp_bind, wp_bindS, wp_noX, slp_v, slp_o, rtp_v, rtp_o, kdp_fz, kdp_fl, kdp_fi, intp_i, blp_b, trp_b, trp_i, trp_l, trp_t, trp_n, optp_s, itp_t, itp_f, itp_nd, itp_ne, lsp_l, nbp_fz, nbp_fr, typ_int, typ_bl, typ_str, typ_non, typ_lst, typ_tup, icp_ins, icp_int, icp_bl, icp_str, icp_non, icp_lst, icp_tup, zpp_l, zpp_t, prp_i, w_var, w_cst, fzp_fz, fzp_fr, w_fzd, w_nil, w_cons, w_bin, w_idx, w_neg, o_add, o_sub, o_mul, o_fdiv, o_mod, o_pow, o_shl, o_shr, o_and, o_or, o_xor, o_eq, o_ne, o_neB, o_lt, o_le, o_gt, o_ge, o_ixl, o_ixt, o_addl, w_tup, w_lst, w_sl, w_eno, w_part, o_sll, o_sls, w_fld, o_fld, w_prop, w_call, w_callK, w_fun1, o_lenl, o_lent, o_listl, o_listt, o_tuplel, o_tuplet, o_int, o_intb, o_abs, o_all, o_any, o_sum, w_is, w_isC, w_isN, w_notN, w_chain, w_tval, w_tand, w_tor, w_tnot, w_yes, w_eand, w_eor, w_enot, w_eif, wkp_s, wk_l, wk_t, wk_r, wk_rl, w_ilist, w_irev, w_ienum, w_range1, w_range2, w_zip, w_comp, s_next, flp_nx, flp_bk, flp_ct, flp_rt, flp_xx, s_seq, s_fz, fr_nil, fr_cons, fr_1, fr_o, fr_v, fr_u, s_set, kd_fz, kd_fl, kd_fi, s_ref, s_asgG, s_par, s_par3, s_ret, s_retV, s_retN, s_drop, s_if, s_no, s_bk, s_ct, s_for, plp_o, plp_r, llp_l, ilp_i, p_putu, s_app, s_put, p_putIu, s_attr, endP_nx, endP_rt, endP_xx, endP_bk, endP_ct, f_fn, f_init, at_0, ix_0, at_1, ix_1, at_2, ix_2, at_3, ix_3, at_4, ix_4, at_5, ix_5, at_6, ix_6, at_7, ix_7, at_8, ix_8, at_9, ix_9, at_10, ix_10, at_11, ix_11, rs_ref, rs_non, rs_bl, rs_int, rs_str, rs_tup, rs_scr, rs_lst, rs_dct, rs_ins, isL, atKs, atVs, gName, enS, List.map_cons, List.map_nil, List.length_cons, List.length_nil, List.cons_append, List.nil_append, List.getElem?_cons_succ, List.getElem?_cons_zero, List.set_cons_succ, List.set_cons_zero, List.replicate, Nat.reduceSub, Nat.reduceAdd, List.getD_cons_zero, List.getD_cons_succ, gTup, gAll, Option.bind_some, isTy, List.any_cons, List.any_nil, Bool.or_false, Bool.false_or, Bool.true_or, Bool.or_true, D.isNon, true_and, Bool.not_true, Bool.not_false, perm, Int.reduceToNat, Nat.reduceLT, Option.map_some, Nat.zero_lt_succ, decide_true, decide_false, Nat.lt_add_left_iff_pos, Nat.lt_add_one]
  exact ⟨_, List.getElem_mem hn, (by trivial), hb'⟩
theorem bag_ok {ns : List Int} : (w__law_bag [.scr (ns.map .int)] []).Wp (fun p st' => ∃ xs, p = (.lst xs, .fr) ∧ st' = [] ∧ Bag [] [.lst xs]) NX := by
  unfold w__law_bag
  rw [f_fn]
  unfold b__law_bag
  rw [s_seq]
  simp only [wp_ok, wp_ex, wp_no, wp_bind, wp_bindS, wp_noX, slp_v, slp_o, rtp_v, rtp_o, kdp_fz, kdp_fl, kdp_fi, intp_i, blp_b, trp_b, trp_i, trp_l, trp_t, trp_n, optp_s, itp_t, itp_f, itp_nd, itp_ne, lsp_l, nbp_fz, nbp_fr, typ_int, typ_bl, typ_str, typ_non, typ_lst, typ_tup, icp_ins, icp_int, icp_bl, icp_str, icp_non, icp_lst, icp_tup, zpp_l, zpp_t, prp_i, w_var, w_cst, fzp_fz, fzp_fr, w_fzd, w_nil, w_cons, w_bin, w_idx, w_neg, o_add, o_sub, o_mul, o_fdiv, o_mod, o_pow, o_shl, o_shr, o_and, o_or, o_xor, o_eq, o_ne, o_neB, o_lt, o_le, o_gt, o_ge, o_ixl, o_ixt, o_addl, w_tup, w_lst, w_sl, w_eno, w_part, o_sll, o_sls, w_fld, o_fld, w_prop, w_call, w_callK, w_fun1, o_lenl, o_lent, o_listl, o_listt, o_tuplel, o_tuplet, o_int, o_intb, o_abs, o_all, o_any, o_sum, w_is, w_isC, w_isN, w_notN, w_chain, w_tval, w_tand, w_tor, w_tnot, w_yes, w_eand, w_eor, w_enot, w_eif, wkp_s, wk_l, wk_t, wk_r, wk_rl, w_ilist, w_irev, w_ienum, w_range1, w_range2, w_zip, w_comp, s_next, flp_nx, flp_bk, flp_ct, flp_rt, flp_xx, s_fz, fr_nil, fr_cons, fr_1, fr_o, fr_v, fr_u, s_set, kd_fz, kd_fl, kd_fi, s_ref, s_asgG, s_par, s_par3, s_ret, s_retV, s_retN, s_drop, s_no, s_bk, s_ct, plp_o, plp_r, llp_l, ilp_i, p_putu, s_app, s_put, p_putIu, s_attr, endP_nx, endP_rt, endP_xx, endP_bk, endP_ct, f_fn, f_init, at_0, ix_0, at_1, ix_1, at_2, ix_2, at_3, ix_3, at_4, ix_4, at_5, ix_5, at_6, ix_6, at_7, ix_7, at_8, ix_8, at_9, ix_9, at_10, ix_10, at_11, ix_11, rs_ref, rs_non, rs_bl, rs_int, rs_str, rs_tup, rs_scr, rs_lst, rs_dct, rs_ins, isL, atKs, atVs, gName, enS, List.map_cons, List.map_nil, List.length_cons, List.length_nil, List.cons_append, List.nil_append, List.getElem?_cons_succ, List.getElem?_cons_zero, List.set_cons_succ, List.set_cons_zero, List.replicate, Nat.reduceSub, Nat.reduceAdd, List.getD_cons_zero, List.getD_cons_succ, gTup, gAll, Option.bind_some, isTy, List.any_cons, List.any_nil, Bool.or_false, Bool.false_or, Bool.true_or, Bool.or_true, D.isNon, true_and, Bool.not_true, Bool.not_false, perm, Int.reduceToNat, Nat.reduceLT, Option.map_some, Nat.zero_lt_succ, decide_true, decide_false, Nat.lt_add_left_iff_pos, Nat.lt_add_one]
  rw [s_seq]
  have hc : ∀ lo hi, cut (ns.map D.int) lo hi = (cut ns lo hi).map D.int := fun lo hi => by
    unfold cut; rw [List.length_map, ← List.map_drop, ← List.map_take]
  refine R.Wp.imp (P := fun (f : Fl) st1 => ∃ m s2, f = .nx [.val (.scr (ns.map .int)), .val (.int m), s2] ∧ st1 = [] ∧ 0 ≤ m ∧ m < 2147483629) ?_ ?_
  · simp only [wp_ok, wp_ex, wp_no, wp_bind, wp_bindS, wp_noX, slp_v, slp_o, rtp_v, rtp_o, kdp_fz, kdp_fl, kdp_fi, intp_i, blp_b, trp_b, trp_i, trp_l, trp_t, trp_n, optp_s, itp_t, itp_f, itp_nd, itp_ne, lsp_l, nbp_fz, nbp_fr, typ_int, typ_bl, typ_str, typ_non, typ_lst, typ_tup, icp_ins, icp_int, icp_bl, icp_str, icp_non, icp_lst, icp_tup, zpp_l, zpp_t, prp_i, w_var, w_cst, fzp_fz, fzp_fr, w_fzd, w_nil, w_cons, w_bin, w_idx, w_neg, o_add, o_sub, o_mul, o_fdiv, o_mod, o_pow, o_shl, o_shr, o_and, o_or, o_xor, o_eq, o_ne, o_neB, o_lt, o_le, o_gt, o_ge, o_ixl, o_ixt, o_addl, w_tup, w_lst, w_sl, w_eno, w_part, o_sll, o_sls, w_fld, o_fld, w_prop, w_call, w_callK, w_fun1, o_lenl, o_lent, o_listl, o_listt, o_tuplel, o_tuplet, o_int, o_intb, o_abs, o_all, o_any, o_sum, w_is, w_isC, w_isN, w_notN, w_chain, w_tval, w_tand, w_tor, w_tnot, w_yes, w_eand, w_eor, w_enot, w_eif, wkp_s, wk_l, wk_t, wk_r, wk_rl, w_ilist, w_irev, w_ienum, w_range1, w_range2, w_zip, w_comp, s_next, flp_nx, flp_bk, flp_ct, flp_rt, flp_xx, s_seq, s_fz, fr_nil, fr_cons, fr_1, fr_o, fr_v, fr_u, s_set, kd_fz, kd_fl, kd_fi, s_ref, s_asgG, s_par, s_par3, s_ret, s_retV, s_retN, s_drop, s_if, s_no, s_bk, s_ct, s_for, plp_o, plp_r, llp_l, ilp_i, p_putu, s_app, s_put, p_putIu, s_attr, endP_nx, endP_rt, endP_xx, endP_bk, endP_ct, f_fn, f_init, at_0, ix_0, at_1, ix_1, at_2, ix_2, at_3, ix_3, at_4, ix_4, at_5, ix_5, at_6, ix_6, at_7, ix_7, at_8, ix_8, at_9, ix_9, at_10, ix_10, at_11, ix_11, rs_ref, rs_non, rs_bl, rs_int, rs_str, rs_tup, rs_scr, rs_lst, rs_dct, rs_ins, isL, atKs, atVs, gName, enS, List.map_cons, List.map_nil, List.length_cons, List.length_nil, List.cons_append, List.nil_append, List.getElem?_cons_succ, List.getElem?_cons_zero, List.set_cons_succ, List.set_cons_zero, List.replicate, Nat.reduceSub, Nat.reduceAdd, List.getD_cons_zero, List.getD_cons_succ, gTup, gAll, Option.bind_some, isTy, List.any_cons, List.any_nil, Bool.or_false, Bool.false_or, Bool.true_or, Bool.or_true, D.isNon, true_and, Bool.not_true, Bool.not_false, perm, Int.reduceToNat, Nat.reduceLT, Option.map_some, Nat.zero_lt_succ, decide_true, decide_false, Nat.lt_add_left_iff_pos, Nat.lt_add_one]
    refine for_ok (J := fun i ρ st' => ∃ m s2, ρ = [.val (.scr (ns.map .int)), .val (.int m), s2] ∧ st' = [] ∧ 0 ≤ m ∧ m < 2147483629) ⟨_, _, rfl, rfl, by decide, by decide⟩ ?_ ?_
    · rintro i d ρ st hd ⟨m, s2, rfl, rfl, h0, h1⟩
      rw [hc, List.getElem?_map] at hd
      cases hx : (cut ns none (some 63))[i]? with
      | none => rw [hx] at hd; cases hd
      | some x =>
        rw [hx] at hd
        cases hd
        refine ⟨_, (by trivial), ?_⟩
        simp only [wp_ok, wp_ex, wp_no, wp_bind, wp_bindS, wp_noX, slp_v, slp_o, rtp_v, rtp_o, kdp_fz, kdp_fl, kdp_fi, intp_i, blp_b, trp_b, trp_i, trp_l, trp_t, trp_n, optp_s, itp_t, itp_f, itp_nd, itp_ne, lsp_l, nbp_fz, nbp_fr, typ_int, typ_bl, typ_str, typ_non, typ_lst, typ_tup, icp_ins, icp_int, icp_bl, icp_str, icp_non, icp_lst, icp_tup, zpp_l, zpp_t, prp_i, w_var, w_cst, fzp_fz, fzp_fr, w_fzd, w_nil, w_cons, w_bin, w_idx, w_neg, o_add, o_sub, o_mul, o_fdiv, o_mod, o_pow, o_shl, o_shr, o_and, o_or, o_xor, o_eq, o_ne, o_neB, o_lt, o_le, o_gt, o_ge, o_ixl, o_ixt, o_addl, w_tup, w_lst, w_sl, w_eno, w_part, o_sll, o_sls, w_fld, o_fld, w_prop, w_call, w_callK, w_fun1, o_lenl, o_lent, o_listl, o_listt, o_tuplel, o_tuplet, o_int, o_intb, o_abs, o_all, o_any, o_sum, w_is, w_isC, w_isN, w_notN, w_chain, w_tval, w_tand, w_tor, w_tnot, w_yes, w_eand, w_eor, w_enot, w_eif, wkp_s, wk_l, wk_t, wk_r, wk_rl, w_ilist, w_irev, w_ienum, w_range1, w_range2, w_zip, w_comp, s_next, flp_nx, flp_bk, flp_ct, flp_rt, flp_xx, s_seq, s_fz, fr_nil, fr_cons, fr_1, fr_o, fr_v, fr_u, s_set, kd_fz, kd_fl, kd_fi, s_ref, s_asgG, s_par, s_par3, s_ret, s_retV, s_retN, s_drop, s_if, s_no, s_bk, s_ct, s_for, plp_o, plp_r, llp_l, ilp_i, p_putu, s_app, s_put, p_putIu, s_attr, endP_nx, endP_rt, endP_xx, endP_bk, endP_ct, f_fn, f_init, at_0, ix_0, at_1, ix_1, at_2, ix_2, at_3, ix_3, at_4, ix_4, at_5, ix_5, at_6, ix_6, at_7, ix_7, at_8, ix_8, at_9, ix_9, at_10, ix_10, at_11, ix_11, rs_ref, rs_non, rs_bl, rs_int, rs_str, rs_tup, rs_scr, rs_lst, rs_dct, rs_ins, isL, atKs, atVs, gName, enS, List.map_cons, List.map_nil, List.length_cons, List.length_nil, List.cons_append, List.nil_append, List.getElem?_cons_succ, List.getElem?_cons_zero, List.set_cons_succ, List.set_cons_zero, List.replicate, Nat.reduceSub, Nat.reduceAdd, List.getD_cons_zero, List.getD_cons_succ, gTup, gAll, Option.bind_some, isTy, List.any_cons, List.any_nil, Bool.or_false, Bool.false_or, Bool.true_or, Bool.or_true, D.isNon, true_and, Bool.not_true, Bool.not_false, perm, Int.reduceToNat, Nat.reduceLT, Option.map_some, Nat.zero_lt_succ, decide_true, decide_false, Nat.lt_add_left_iff_pos, Nat.lt_add_one]
        refine ⟨mulOk_r (by decide) (by decide), by decide, by decide, _, _, rfl, ?_⟩
        exact ⟨Int.emod_nonneg _ (by decide), Int.emod_lt_of_pos _ (by decide)⟩
    · rintro ρ st ⟨m, s2, rfl, rfl, h0, h1⟩
      exact ⟨_, _, (by trivial), (by trivial), h0, h1⟩
  · rintro _ _ ⟨m, s2, rfl, rfl, h0, h1⟩
    simp only [wp_ok, wp_ex, wp_no, wp_bind, wp_bindS, wp_noX, slp_v, slp_o, rtp_v, rtp_o, kdp_fz, kdp_fl, kdp_fi, intp_i, blp_b, trp_b, trp_i, trp_l, trp_t, trp_n, optp_s, itp_t, itp_f, itp_nd, itp_ne, lsp_l, nbp_fz, nbp_fr, typ_int, typ_bl, typ_str, typ_non, typ_lst, typ_tup, icp_ins, icp_int, icp_bl, icp_str, icp_non, icp_lst, icp_tup, zpp_l, zpp_t, prp_i, w_var, w_cst, fzp_fz, fzp_fr, w_fzd, w_nil, w_cons, w_bin, w_idx, w_neg, o_add, o_sub, o_mul, o_fdiv, o_mod, o_pow, o_shl, o_shr, o_and, o_or, o_xor, o_eq, o_ne, o_neB, o_lt, o_le, o_gt, o_ge, o_ixl, o_ixt, o_addl, w_tup, w_lst, w_sl, w_eno, w_part, o_sll, o_sls, w_fld, o_fld, w_prop, w_call, w_callK, w_fun1, o_lenl, o_lent, o_listl, o_listt, o_tuplel, o_tuplet, o_int, o_intb, o_abs, o_all, o_any, o_sum, w_is, w_isC, w_isN, w_notN, w_chain, w_tval, w_tand, w_tor, w_tnot, w_yes, w_eand, w_eor, w_enot, w_eif, wkp_s, wk_l, wk_t, wk_r, wk_rl, w_ilist, w_irev, w_ienum, w_range1, w_range2, w_zip, w_comp, s_next, flp_nx, flp_bk, flp_ct, flp_rt, flp_xx, s_seq, s_fz, fr_nil, fr_cons, fr_1, fr_o, fr_v, fr_u, s_set, kd_fz, kd_fl, kd_fi, s_ref, s_asgG, s_par, s_par3, s_ret, s_retV, s_retN, s_drop, s_if, s_no, s_bk, s_ct, s_for, plp_o, plp_r, llp_l, ilp_i, p_putu, s_app, s_put, p_putIu, s_attr, endP_nx, endP_rt, endP_xx, endP_bk, endP_ct, f_fn, f_init, at_0, ix_0, at_1, ix_1, at_2, ix_2, at_3, ix_3, at_4, ix_4, at_5, ix_5, at_6, ix_6, at_7, ix_7, at_8, ix_8, at_9, ix_9, at_10, ix_10, at_11, ix_11, rs_ref, rs_non, rs_bl, rs_int, rs_str, rs_tup, rs_scr, rs_lst, rs_dct, rs_ins, isL, atKs, atVs, gName, enS, List.map_cons, List.map_nil, List.length_cons, List.length_nil, List.cons_append, List.nil_append, List.getElem?_cons_succ, List.getElem?_cons_zero, List.set_cons_succ, List.set_cons_zero, List.replicate, Nat.reduceSub, Nat.reduceAdd, List.getD_cons_zero, List.getD_cons_succ, gTup, gAll, Option.bind_some, isTy, List.any_cons, List.any_nil, Bool.or_false, Bool.false_or, Bool.true_or, Bool.or_true, D.isNon, true_and, Bool.not_true, Bool.not_false, perm, Int.reduceToNat, Nat.reduceLT, Option.map_some, Nat.zero_lt_succ, decide_true, decide_false, Nat.lt_add_left_iff_pos, Nat.lt_add_one]
    refine ⟨(by show (5 : Nat) ≤ maxLen; decide), _, rfl, ?_⟩
    rw [hc]
    exact bag_of _ (by decide) (by decide) h0 h1 (by decide)
/-! the sizes -/
def five (l N B s w : Int) : D := .tup [.int l, .int N, .int B, .int s, .int w]
def frame (l N B s w q : Int) : D := .ins "Sizes" ["length", "ring", "base", "places", "spread", "_modulus"] [.int l, .int N, .int B, .int s, .int w, .int q]
structure Par (l N B s w q g : Int) : Prop where
  l1 : 1 ≤ l
  l8 : l ≤ 8
  w0 : 0 ≤ w
  w1 : w ≤ 1000
  N4 : 4 ≤ N
  N32 : N ≤ 32
  Np : Builtin.bitAnd N (N - 1) = 0
  B4 : 4 ≤ B
  B6 : B ≤ 65536
  Bp : Builtin.bitAnd B (B - 1) = 0
  Be : B % 2 = 0
  s1 : 1 ≤ s
  s8 : s ≤ 8
  qe : q = B ^ s.toNat
  q16 : 16 * N ≤ q
  g0 : 0 < g
  qg : q = 2 * N * g
  qb : q < 2 ^ 200
section
variable {l N B s w q g : Int} {st rest : List D}
theorem Par.q0 (P : Par l N B s w q g) : 0 < q := by have := P.q16; have := P.N4; omega
theorem modulus_ok : (w_Sizes_modulus [frame l N B s w q] st).Wp (fun p st' => p = (.int q, .fz) ∧ st' = st) NX := by
  unfold w_Sizes_modulus frame
  rw [f_fn]
  unfold b_Sizes_modulus
  simp only [wp_ok, wp_ex, wp_no, wp_bind, wp_bindS, wp_noX, slp_v, slp_o, rtp_v, rtp_o, kdp_fz, kdp_fl, kdp_fi, intp_i, blp_b, trp_b, trp_i, trp_l, trp_t, trp_n, optp_s, itp_t, itp_f, itp_nd, itp_ne, lsp_l, nbp_fz, nbp_fr, typ_int, typ_bl, typ_str, typ_non, typ_lst, typ_tup, icp_ins, icp_int, icp_bl, icp_str, icp_non, icp_lst, icp_tup, zpp_l, zpp_t, prp_i, w_var, w_cst, fzp_fz, fzp_fr, w_fzd, w_nil, w_cons, w_bin, w_idx, w_neg, o_add, o_sub, o_mul, o_fdiv, o_mod, o_pow, o_shl, o_shr, o_and, o_or, o_xor, o_eq, o_ne, o_neB, o_lt, o_le, o_gt, o_ge, o_ixl, o_ixt, o_addl, w_tup, w_lst, w_sl, w_eno, w_part, o_sll, o_sls, w_fld, o_fld, w_prop, w_call, w_callK, w_fun1, o_lenl, o_lent, o_listl, o_listt, o_tuplel, o_tuplet, o_int, o_intb, o_abs, o_all, o_any, o_sum, w_is, w_isC, w_isN, w_notN, w_chain, w_tval, w_tand, w_tor, w_tnot, w_yes, w_eand, w_eor, w_enot, w_eif, wkp_s, wk_l, wk_t, wk_r, wk_rl, w_ilist, w_irev, w_ienum, w_range1, w_range2, w_zip, w_comp, s_next, flp_nx, flp_bk, flp_ct, flp_rt, flp_xx, s_seq, s_fz, fr_nil, fr_cons, fr_1, fr_o, fr_v, fr_u, s_set, kd_fz, kd_fl, kd_fi, s_ref, s_asgG, s_par, s_par3, s_ret, s_retV, s_retN, s_drop, s_if, s_no, s_bk, s_ct, s_for, plp_o, plp_r, llp_l, ilp_i, p_putu, s_app, s_put, p_putIu, s_attr, endP_nx, endP_rt, endP_xx, endP_bk, endP_ct, f_fn, f_init, at_0, ix_0, at_1, ix_1, at_2, ix_2, at_3, ix_3, at_4, ix_4, at_5, ix_5, at_6, ix_6, at_7, ix_7, at_8, ix_8, at_9, ix_9, at_10, ix_10, at_11, ix_11, rs_ref, rs_non, rs_bl, rs_int, rs_str, rs_tup, rs_scr, rs_lst, rs_dct, rs_ins, isL, atKs, atVs, gName, enS, List.map_cons, List.map_nil, List.length_cons, List.length_nil, List.cons_append, List.nil_append, List.getElem?_cons_succ, List.getElem?_cons_zero, List.set_cons_succ, List.set_cons_zero, List.replicate, Nat.reduceSub, Nat.reduceAdd, List.getD_cons_zero, List.getD_cons_succ, gTup, gAll, Option.bind_some, isTy, List.any_cons, List.any_nil, Bool.or_false, Bool.false_or, Bool.true_or, Bool.or_true, D.isNon, true_and, Bool.not_true, Bool.not_false, perm, Int.reduceToNat, Nat.reduceLT, Option.map_some, Nat.zero_lt_succ, decide_true, decide_false, Nat.lt_add_left_iff_pos, Nat.lt_add_one]
  show optp (some (D.int q)) _
  simp only [wp_ok, wp_ex, wp_no, wp_bind, wp_bindS, wp_noX, slp_v, slp_o, rtp_v, rtp_o, kdp_fz, kdp_fl, kdp_fi, intp_i, blp_b, trp_b, trp_i, trp_l, trp_t, trp_n, optp_s, itp_t, itp_f, itp_nd, itp_ne, lsp_l, nbp_fz, nbp_fr, typ_int, typ_bl, typ_str, typ_non, typ_lst, typ_tup, icp_ins, icp_int, icp_bl, icp_str, icp_non, icp_lst, icp_tup, zpp_l, zpp_t, prp_i, w_var, w_cst, fzp_fz, fzp_fr, w_fzd, w_nil, w_cons, w_bin, w_idx, w_neg, o_add, o_sub, o_mul, o_fdiv, o_mod, o_pow, o_shl, o_shr, o_and, o_or, o_xor, o_eq, o_ne, o_neB, o_lt, o_le, o_gt, o_ge, o_ixl, o_ixt, o_addl, w_tup, w_lst, w_sl, w_eno, w_part, o_sll, o_sls, w_fld, o_fld, w_prop, w_call, w_callK, w_fun1, o_lenl, o_lent, o_listl, o_listt, o_tuplel, o_tuplet, o_int, o_intb, o_abs, o_all, o_any, o_sum, w_is, w_isC, w_isN, w_notN, w_chain, w_tval, w_tand, w_tor, w_tnot, w_yes, w_eand, w_eor, w_enot, w_eif, wkp_s, wk_l, wk_t, wk_r, wk_rl, w_ilist, w_irev, w_ienum, w_range1, w_range2, w_zip, w_comp, s_next, flp_nx, flp_bk, flp_ct, flp_rt, flp_xx, s_seq, s_fz, fr_nil, fr_cons, fr_1, fr_o, fr_v, fr_u, s_set, kd_fz, kd_fl, kd_fi, s_ref, s_asgG, s_par, s_par3, s_ret, s_retV, s_retN, s_drop, s_if, s_no, s_bk, s_ct, s_for, plp_o, plp_r, llp_l, ilp_i, p_putu, s_app, s_put, p_putIu, s_attr, endP_nx, endP_rt, endP_xx, endP_bk, endP_ct, f_fn, f_init, at_0, ix_0, at_1, ix_1, at_2, ix_2, at_3, ix_3, at_4, ix_4, at_5, ix_5, at_6, ix_6, at_7, ix_7, at_8, ix_8, at_9, ix_9, at_10, ix_10, at_11, ix_11, rs_ref, rs_non, rs_bl, rs_int, rs_str, rs_tup, rs_scr, rs_lst, rs_dct, rs_ins, isL, atKs, atVs, gName, enS, List.map_cons, List.map_nil, List.length_cons, List.length_nil, List.cons_append, List.nil_append, List.getElem?_cons_succ, List.getElem?_cons_zero, List.set_cons_succ, List.set_cons_zero, List.replicate, Nat.reduceSub, Nat.reduceAdd, List.getD_cons_zero, List.getD_cons_succ, gTup, gAll, Option.bind_some, isTy, List.any_cons, List.any_nil, Bool.or_false, Bool.false_or, Bool.true_or, Bool.or_true, D.isNon, true_and, Bool.not_true, Bool.not_false, perm, Int.reduceToNat, Nat.reduceLT, Option.map_some, Nat.zero_lt_succ, decide_true, decide_false, Nat.lt_add_left_iff_pos, Nat.lt_add_one]
theorem rs_frame {st : List D} : rs st (frame l N B s w q) = frame l N B s w q := rfl
theorem rs_five {st : List D} : rs st (five l N B s w) = five l N B s w := rfl
theorem prp_frame {Q : Prop} : prp "Sizes" (frame l N B s w q) Q = Q := propext ⟨fun z => z.2, fun z => ⟨rfl, z⟩⟩
theorem fld_ring {P : D × Fg → List D → Prop} {X : XP} : R.Wp (atD "ring" (frame l N B s w q) st) P X = P (.int N, .fz) st := wp_ok
theorem fld_base {P : D × Fg → List D → Prop} {X : XP} : R.Wp (atD "base" (frame l N B s w q) st) P X = P (.int B, .fz) st := wp_ok
theorem fld_places {P : D × Fg → List D → Prop} {X : XP} : R.Wp (atD "places" (frame l N B s w q) st) P X = P (.int s, .fz) st := wp_ok
theorem five_1 {P : D × Fg → List D → Prop} {X : XP} : R.Wp (ixD (five l N B s w) (.int 1) st) P X = P (.int N, .fz) st := wp_ok
theorem five_0 {P : D × Fg → List D → Prop} {X : XP} : R.Wp (ixD (five l N B s w) (.int 0) st) P X = P (.int l, .fz) st := wp_ok
theorem five_2 {P : D × Fg → List D → Prop} {X : XP} : R.Wp (ixD (five l N B s w) (.int 2) st) P X = P (.int B, .fz) st := wp_ok
theorem five_3 {P : D × Fg → List D → Prop} {X : XP} : R.Wp (ixD (five l N B s w) (.int 3) st) P X = P (.int s, .fz) st := wp_ok
theorem five_4 {P : D × Fg → List D → Prop} {X : XP} : R.Wp (ixD (five l N B s w) (.int 4) st) P X = P (.int w, .fz) st := wp_ok
theorem rounded_ok (h : Par l N B s w q g) (n : Int) : (w_rounded [.int n, frame l N B s w q] st).Wp (fun p st' => p = (.int (rnd N q n), .fz) ∧ st' = st) NX := by
  unfold w_rounded
  rw [f_fn]
  unfold b_rounded
  have := h.q0; have := h.N4; have := h.N32; have := h.qb
  simp only [wp_ok, wp_ex, wp_no, wp_bind, wp_bindS, wp_noX, slp_v, slp_o, rtp_v, rtp_o, kdp_fz, kdp_fl, kdp_fi, intp_i, blp_b, trp_b, trp_i, trp_l, trp_t, trp_n, optp_s, itp_t, itp_f, itp_nd, itp_ne, lsp_l, nbp_fz, nbp_fr, typ_int, typ_bl, typ_str, typ_non, typ_lst, typ_tup, icp_ins, icp_int, icp_bl, icp_str, icp_non, icp_lst, icp_tup, zpp_l, zpp_t, prp_i, w_var, w_cst, fzp_fz, fzp_fr, w_fzd, w_nil, w_cons, w_bin, w_idx, w_neg, o_add, o_sub, o_mul, o_fdiv, o_mod, o_pow, o_shl, o_shr, o_and, o_or, o_xor, o_eq, o_ne, o_neB, o_lt, o_le, o_gt, o_ge, o_ixl, o_ixt, o_addl, w_tup, w_lst, w_sl, w_eno, w_part, o_sll, o_sls, w_fld, o_fld, w_prop, w_call, w_callK, w_fun1, o_lenl, o_lent, o_listl, o_listt, o_tuplel, o_tuplet, o_int, o_intb, o_abs, o_all, o_any, o_sum, w_is, w_isC, w_isN, w_notN, w_chain, w_tval, w_tand, w_tor, w_tnot, w_yes, w_eand, w_eor, w_enot, w_eif, wkp_s, wk_l, wk_t, wk_r, wk_rl, w_ilist, w_irev, w_ienum, w_range1, w_range2, w_zip, w_comp, s_next, flp_nx, flp_bk, flp_ct, flp_rt, flp_xx, s_seq, s_fz, fr_nil, fr_cons, fr_1, fr_o, fr_v, fr_u, s_set, kd_fz, kd_fl, kd_fi, s_ref, s_asgG, s_par, s_par3, s_ret, s_retV, s_retN, s_drop, s_if, s_no, s_bk, s_ct, s_for, plp_o, plp_r, llp_l, ilp_i, p_putu, s_app, s_put, p_putIu, s_attr, endP_nx, endP_rt, endP_xx, endP_bk, endP_ct, f_fn, f_init, at_0, ix_0, at_1, ix_1, at_2, ix_2, at_3, ix_3, at_4, ix_4, at_5, ix_5, at_6, ix_6, at_7, ix_7, at_8, ix_8, at_9, ix_9, at_10, ix_10, at_11, ix_11, rs_ref, rs_non, rs_bl, rs_int, rs_str, rs_tup, rs_scr, rs_lst, rs_dct, rs_ins, isL, atKs, atVs, gName, enS, List.map_cons, List.map_nil, List.length_cons, List.length_nil, List.cons_append, List.nil_append, List.getElem?_cons_succ, List.getElem?_cons_zero, List.set_cons_succ, List.set_cons_zero, List.replicate, Nat.reduceSub, Nat.reduceAdd, List.getD_cons_zero, List.getD_cons_succ, gTup, gAll, Option.bind_some, isTy, List.any_cons, List.any_nil, Bool.or_false, Bool.false_or, Bool.true_or, Bool.or_true, D.isNon, true_and, Bool.not_true, Bool.not_false, perm, Int.reduceToNat, Nat.reduceLT, Option.map_some, Nat.zero_lt_succ, decide_true, decide_false, Nat.lt_add_left_iff_pos, Nat.lt_add_one, rs_frame, prp_frame]
  refine modulus_ok.imp0 ?_
  rintro _ st' ⟨rfl, rfl⟩
  simp only [wp_ok, wp_ex, wp_no, wp_bind, wp_bindS, wp_noX, slp_v, slp_o, rtp_v, rtp_o, kdp_fz, kdp_fl, kdp_fi, intp_i, blp_b, trp_b, trp_i, trp_l, trp_t, trp_n, optp_s, itp_t, itp_f, itp_nd, itp_ne, lsp_l, nbp_fz, nbp_fr, typ_int, typ_bl, typ_str, typ_non, typ_lst, typ_tup, icp_ins, icp_int, icp_bl, icp_str, icp_non, icp_lst, icp_tup, zpp_l, zpp_t, prp_i, w_var, w_cst, fzp_fz, fzp_fr, w_fzd, w_nil, w_cons, w_bin, w_idx, w_neg, o_add, o_sub, o_mul, o_fdiv, o_mod, o_pow, o_shl, o_shr, o_and, o_or, o_xor, o_eq, o_ne, o_neB, o_lt, o_le, o_gt, o_ge, o_ixl, o_ixt, o_addl, w_tup, w_lst, w_sl, w_eno, w_part, o_sll, o_sls, w_fld, o_fld, w_prop, w_call, w_callK, w_fun1, o_lenl, o_lent, o_listl, o_listt, o_tuplel, o_tuplet, o_int, o_intb, o_abs, o_all, o_any, o_sum, w_is, w_isC, w_isN, w_notN, w_chain, w_tval, w_tand, w_tor, w_tnot, w_yes, w_eand, w_eor, w_enot, w_eif, wkp_s, wk_l, wk_t, wk_r, wk_rl, w_ilist, w_irev, w_ienum, w_range1, w_range2, w_zip, w_comp, s_next, flp_nx, flp_bk, flp_ct, flp_rt, flp_xx, s_seq, s_fz, fr_nil, fr_cons, fr_1, fr_o, fr_v, fr_u, s_set, kd_fz, kd_fl, kd_fi, s_ref, s_asgG, s_par, s_par3, s_ret, s_retV, s_retN, s_drop, s_if, s_no, s_bk, s_ct, s_for, plp_o, plp_r, llp_l, ilp_i, p_putu, s_app, s_put, p_putIu, s_attr, endP_nx, endP_rt, endP_xx, endP_bk, endP_ct, f_fn, f_init, at_0, ix_0, at_1, ix_1, at_2, ix_2, at_3, ix_3, at_4, ix_4, at_5, ix_5, at_6, ix_6, at_7, ix_7, at_8, ix_8, at_9, ix_9, at_10, ix_10, at_11, ix_11, rs_ref, rs_non, rs_bl, rs_int, rs_str, rs_tup, rs_scr, rs_lst, rs_dct, rs_ins, isL, atKs, atVs, gName, enS, List.map_cons, List.map_nil, List.length_cons, List.length_nil, List.cons_append, List.nil_append, List.getElem?_cons_succ, List.getElem?_cons_zero, List.set_cons_succ, List.set_cons_zero, List.replicate, Nat.reduceSub, Nat.reduceAdd, List.getD_cons_zero, List.getD_cons_succ, gTup, gAll, Option.bind_some, isTy, List.any_cons, List.any_nil, Bool.or_false, Bool.false_or, Bool.true_or, Bool.or_true, D.isNon, true_and, Bool.not_true, Bool.not_false, perm, Int.reduceToNat, Nat.reduceLT, Option.map_some, Nat.zero_lt_succ, decide_true, decide_false, Nat.lt_add_left_iff_pos, Nat.lt_add_one, rs_frame, fld_ring]
  exact ⟨mulOk_l (by decide) (by decide), h.q0, mulOk_l (by omega) (by omega), ⟨by decide, by decide⟩, ⟨h.q0, big_of (by omega)⟩, by omega, (by trivial), trivial⟩
theorem centered_ok (h : Par l N B s w q g) (n : Int) : (w_centered [.int n, frame l N B s w q] st).Wp (fun p st' => ∃ k : Int, p = (.int (n + q * k), .fz) ∧ st' = st) NX := by
  unfold w_centered
  rw [f_fn]
  unfold b_centered
  have := h.q0
  have e := Int.mul_ediv_add_emod n q
  simp only [wp_ok, wp_ex, wp_no, wp_bind, wp_bindS, wp_noX, slp_v, slp_o, rtp_v, rtp_o, kdp_fz, kdp_fl, kdp_fi, intp_i, blp_b, trp_b, trp_i, trp_l, trp_t, trp_n, optp_s, itp_t, itp_f, itp_nd, itp_ne, lsp_l, nbp_fz, nbp_fr, typ_int, typ_bl, typ_str, typ_non, typ_lst, typ_tup, icp_ins, icp_int, icp_bl, icp_str, icp_non, icp_lst, icp_tup, zpp_l, zpp_t, prp_i, w_var, w_cst, fzp_fz, fzp_fr, w_fzd, w_nil, w_cons, w_bin, w_idx, w_neg, o_add, o_sub, o_mul, o_fdiv, o_mod, o_pow, o_shl, o_shr, o_and, o_or, o_xor, o_eq, o_ne, o_neB, o_lt, o_le, o_gt, o_ge, o_ixl, o_ixt, o_addl, w_tup, w_lst, w_sl, w_eno, w_part, o_sll, o_sls, w_fld, o_fld, w_prop, w_call, w_callK, w_fun1, o_lenl, o_lent, o_listl, o_listt, o_tuplel, o_tuplet, o_int, o_intb, o_abs, o_all, o_any, o_sum, w_is, w_isC, w_isN, w_notN, w_chain, w_tval, w_tand, w_tor, w_tnot, w_yes, w_eand, w_eor, w_enot, w_eif, wkp_s, wk_l, wk_t, wk_r, wk_rl, w_ilist, w_irev, w_ienum, w_range1, w_range2, w_zip, w_comp, s_next, flp_nx, flp_bk, flp_ct, flp_rt, flp_xx, s_seq, s_fz, fr_nil, fr_cons, fr_1, fr_o, fr_v, fr_u, s_set, kd_fz, kd_fl, kd_fi, s_ref, s_asgG, s_par, s_par3, s_ret, s_retV, s_retN, s_drop, s_if, s_no, s_bk, s_ct, s_for, plp_o, plp_r, llp_l, ilp_i, p_putu, s_app, s_put, p_putIu, s_attr, endP_nx, endP_rt, endP_xx, endP_bk, endP_ct, f_fn, f_init, at_0, ix_0, at_1, ix_1, at_2, ix_2, at_3, ix_3, at_4, ix_4, at_5, ix_5, at_6, ix_6, at_7, ix_7, at_8, ix_8, at_9, ix_9, at_10, ix_10, at_11, ix_11, rs_ref, rs_non, rs_bl, rs_int, rs_str, rs_tup, rs_scr, rs_lst, rs_dct, rs_ins, isL, atKs, atVs, gName, enS, List.map_cons, List.map_nil, List.length_cons, List.length_nil, List.cons_append, List.nil_append, List.getElem?_cons_succ, List.getElem?_cons_zero, List.set_cons_succ, List.set_cons_zero, List.replicate, Nat.reduceSub, Nat.reduceAdd, List.getD_cons_zero, List.getD_cons_succ, gTup, gAll, Option.bind_some, isTy, List.any_cons, List.any_nil, Bool.or_false, Bool.false_or, Bool.true_or, Bool.or_true, D.isNon, true_and, Bool.not_true, Bool.not_false, perm, Int.reduceToNat, Nat.reduceLT, Option.map_some, Nat.zero_lt_succ, decide_true, decide_false, Nat.lt_add_left_iff_pos, Nat.lt_add_one, rs_frame, prp_frame]
  refine modulus_ok.imp0 ?_
  rintro _ st' ⟨rfl, rfl⟩
  simp only [wp_ok, wp_ex, wp_no, wp_bind, wp_bindS, wp_noX, slp_v, slp_o, rtp_v, rtp_o, kdp_fz, kdp_fl, kdp_fi, intp_i, blp_b, trp_b, trp_i, trp_l, trp_t, trp_n, optp_s, itp_t, itp_f, itp_nd, itp_ne, lsp_l, nbp_fz, nbp_fr, typ_int, typ_bl, typ_str, typ_non, typ_lst, typ_tup, icp_ins, icp_int, icp_bl, icp_str, icp_non, icp_lst, icp_tup, zpp_l, zpp_t, prp_i, w_var, w_cst, fzp_fz, fzp_fr, w_fzd, w_nil, w_cons, w_bin, w_idx, w_neg, o_add, o_sub, o_mul, o_fdiv, o_mod, o_pow, o_shl, o_shr, o_and, o_or, o_xor, o_eq, o_ne, o_neB, o_lt, o_le, o_gt, o_ge, o_ixl, o_ixt, o_addl, w_tup, w_lst, w_sl, w_eno, w_part, o_sll, o_sls, w_fld, o_fld, w_prop, w_call, w_callK, w_fun1, o_lenl, o_lent, o_listl, o_listt, o_tuplel, o_tuplet, o_int, o_intb, o_abs, o_all, o_any, o_sum, w_is, w_isC, w_isN, w_notN, w_chain, w_tval, w_tand, w_tor, w_tnot, w_yes, w_eand, w_eor, w_enot, w_eif, wkp_s, wk_l, wk_t, wk_r, wk_rl, w_ilist, w_irev, w_ienum, w_range1, w_range2, w_zip, w_comp, s_next, flp_nx, flp_bk, flp_ct, flp_rt, flp_xx, s_seq, s_fz, fr_nil, fr_cons, fr_1, fr_o, fr_v, fr_u, s_set, kd_fz, kd_fl, kd_fi, s_ref, s_asgG, s_par, s_par3, s_ret, s_retV, s_retN, s_drop, s_if, s_no, s_bk, s_ct, s_for, plp_o, plp_r, llp_l, ilp_i, p_putu, s_app, s_put, p_putIu, s_attr, endP_nx, endP_rt, endP_xx, endP_bk, endP_ct, f_fn, f_init, at_0, ix_0, at_1, ix_1, at_2, ix_2, at_3, ix_3, at_4, ix_4, at_5, ix_5, at_6, ix_6, at_7, ix_7, at_8, ix_8, at_9, ix_9, at_10, ix_10, at_11, ix_11, rs_ref, rs_non, rs_bl, rs_int, rs_str, rs_tup, rs_scr, rs_lst, rs_dct, rs_ins, isL, atKs, atVs, gName, enS, List.map_cons, List.map_nil, List.length_cons, List.length_nil, List.cons_append, List.nil_append, List.getElem?_cons_succ, List.getElem?_cons_zero, List.set_cons_succ, List.set_cons_zero, List.replicate, Nat.reduceSub, Nat.reduceAdd, List.getD_cons_zero, List.getD_cons_succ, gTup, gAll, Option.bind_some, isTy, List.any_cons, List.any_nil, Bool.or_false, Bool.false_or, Bool.true_or, Bool.or_true, D.isNon, true_and, Bool.not_true, Bool.not_false, perm, Int.reduceToNat, Nat.reduceLT, Option.map_some, Nat.zero_lt_succ, decide_true, decide_false, Nat.lt_add_left_iff_pos, Nat.lt_add_one, rs_frame, prp_frame]
  refine ⟨h.q0, modulus_ok.imp0 ?_⟩
  rintro _ st' ⟨rfl, rfl⟩
  simp only [wp_ok, wp_ex, wp_no, wp_bind, wp_bindS, wp_noX, slp_v, slp_o, rtp_v, rtp_o, kdp_fz, kdp_fl, kdp_fi, intp_i, blp_b, trp_b, trp_i, trp_l, trp_t, trp_n, optp_s, itp_t, itp_f, itp_nd, itp_ne, lsp_l, nbp_fz, nbp_fr, typ_int, typ_bl, typ_str, typ_non, typ_lst, typ_tup, icp_ins, icp_int, icp_bl, icp_str, icp_non, icp_lst, icp_tup, zpp_l, zpp_t, prp_i, w_var, w_cst, fzp_fz, fzp_fr, w_fzd, w_nil, w_cons, w_bin, w_idx, w_neg, o_add, o_sub, o_mul, o_fdiv, o_mod, o_pow, o_shl, o_shr, o_and, o_or, o_xor, o_eq, o_ne, o_neB, o_lt, o_le, o_gt, o_ge, o_ixl, o_ixt, o_addl, w_tup, w_lst, w_sl, w_eno, w_part, o_sll, o_sls, w_fld, o_fld, w_prop, w_call, w_callK, w_fun1, o_lenl, o_lent, o_listl, o_listt, o_tuplel, o_tuplet, o_int, o_intb, o_abs, o_all, o_any, o_sum, w_is, w_isC, w_isN, w_notN, w_chain, w_tval, w_tand, w_tor, w_tnot, w_yes, w_eand, w_eor, w_enot, w_eif, wkp_s, wk_l, wk_t, wk_r, wk_rl, w_ilist, w_irev, w_ienum, w_range1, w_range2, w_zip, w_comp, s_next, flp_nx, flp_bk, flp_ct, flp_rt, flp_xx, s_seq, s_fz, fr_nil, fr_cons, fr_1, fr_o, fr_v, fr_u, s_set, kd_fz, kd_fl, kd_fi, s_ref, s_asgG, s_par, s_par3, s_ret, s_retV, s_retN, s_drop, s_if, s_no, s_bk, s_ct, s_for, plp_o, plp_r, llp_l, ilp_i, p_putu, s_app, s_put, p_putIu, s_attr, endP_nx, endP_rt, endP_xx, endP_bk, endP_ct, f_fn, f_init, at_0, ix_0, at_1, ix_1, at_2, ix_2, at_3, ix_3, at_4, ix_4, at_5, ix_5, at_6, ix_6, at_7, ix_7, at_8, ix_8, at_9, ix_9, at_10, ix_10, at_11, ix_11, rs_ref, rs_non, rs_bl, rs_int, rs_str, rs_tup, rs_scr, rs_lst, rs_dct, rs_ins, isL, atKs, atVs, gName, enS, List.map_cons, List.map_nil, List.length_cons, List.length_nil, List.cons_append, List.nil_append, List.getElem?_cons_succ, List.getElem?_cons_zero, List.set_cons_succ, List.set_cons_zero, List.replicate, Nat.reduceSub, Nat.reduceAdd, List.getD_cons_zero, List.getD_cons_succ, gTup, gAll, Option.bind_some, isTy, List.any_cons, List.any_nil, Bool.or_false, Bool.false_or, Bool.true_or, Bool.or_true, D.isNon, true_and, Bool.not_true, Bool.not_false, perm, Int.reduceToNat, Nat.reduceLT, Option.map_some, Nat.zero_lt_succ, decide_true, decide_false, Nat.lt_add_left_iff_pos, Nat.lt_add_one]
  refine ⟨⟨by decide, by decide⟩, itp_d (fun _ => ?_) fun _ => ?_⟩
  · simp only [wp_ok, wp_ex, wp_no, wp_bind, wp_bindS, wp_noX, slp_v, slp_o, rtp_v, rtp_o, kdp_fz, kdp_fl, kdp_fi, intp_i, blp_b, trp_b, trp_i, trp_l, trp_t, trp_n, optp_s, itp_t, itp_f, itp_nd, itp_ne, lsp_l, nbp_fz, nbp_fr, typ_int, typ_bl, typ_str, typ_non, typ_lst, typ_tup, icp_ins, icp_int, icp_bl, icp_str, icp_non, icp_lst, icp_tup, zpp_l, zpp_t, prp_i, w_var, w_cst, fzp_fz, fzp_fr, w_fzd, w_nil, w_cons, w_bin, w_idx, w_neg, o_add, o_sub, o_mul, o_fdiv, o_mod, o_pow, o_shl, o_shr, o_and, o_or, o_xor, o_eq, o_ne, o_neB, o_lt, o_le, o_gt, o_ge, o_ixl, o_ixt, o_addl, w_tup, w_lst, w_sl, w_eno, w_part, o_sll, o_sls, w_fld, o_fld, w_prop, w_call, w_callK, w_fun1, o_lenl, o_lent, o_listl, o_listt, o_tuplel, o_tuplet, o_int, o_intb, o_abs, o_all, o_any, o_sum, w_is, w_isC, w_isN, w_notN, w_chain, w_tval, w_tand, w_tor, w_tnot, w_yes, w_eand, w_eor, w_enot, w_eif, wkp_s, wk_l, wk_t, wk_r, wk_rl, w_ilist, w_irev, w_ienum, w_range1, w_range2, w_zip, w_comp, s_next, flp_nx, flp_bk, flp_ct, flp_rt, flp_xx, s_seq, s_fz, fr_nil, fr_cons, fr_1, fr_o, fr_v, fr_u, s_set, kd_fz, kd_fl, kd_fi, s_ref, s_asgG, s_par, s_par3, s_ret, s_retV, s_retN, s_drop, s_if, s_no, s_bk, s_ct, s_for, plp_o, plp_r, llp_l, ilp_i, p_putu, s_app, s_put, p_putIu, s_attr, endP_nx, endP_rt, endP_xx, endP_bk, endP_ct, f_fn, f_init, at_0, ix_0, at_1, ix_1, at_2, ix_2, at_3, ix_3, at_4, ix_4, at_5, ix_5, at_6, ix_6, at_7, ix_7, at_8, ix_8, at_9, ix_9, at_10, ix_10, at_11, ix_11, rs_ref, rs_non, rs_bl, rs_int, rs_str, rs_tup, rs_scr, rs_lst, rs_dct, rs_ins, isL, atKs, atVs, gName, enS, List.map_cons, List.map_nil, List.length_cons, List.length_nil, List.cons_append, List.nil_append, List.getElem?_cons_succ, List.getElem?_cons_zero, List.set_cons_succ, List.set_cons_zero, List.replicate, Nat.reduceSub, Nat.reduceAdd, List.getD_cons_zero, List.getD_cons_succ, gTup, gAll, Option.bind_some, isTy, List.any_cons, List.any_nil, Bool.or_false, Bool.false_or, Bool.true_or, Bool.or_true, D.isNon, true_and, Bool.not_true, Bool.not_false, perm, Int.reduceToNat, Nat.reduceLT, Option.map_some, Nat.zero_lt_succ, decide_true, decide_false, Nat.lt_add_left_iff_pos, Nat.lt_add_one, rs_frame, prp_frame]
    refine modulus_ok.imp0 ?_
    rintro _ st' ⟨rfl, rfl⟩
    simp only [wp_ok, wp_ex, wp_no, wp_bind, wp_bindS, wp_noX, slp_v, slp_o, rtp_v, rtp_o, kdp_fz, kdp_fl, kdp_fi, intp_i, blp_b, trp_b, trp_i, trp_l, trp_t, trp_n, optp_s, itp_t, itp_f, itp_nd, itp_ne, lsp_l, nbp_fz, nbp_fr, typ_int, typ_bl, typ_str, typ_non, typ_lst, typ_tup, icp_ins, icp_int, icp_bl, icp_str, icp_non, icp_lst, icp_tup, zpp_l, zpp_t, prp_i, w_var, w_cst, fzp_fz, fzp_fr, w_fzd, w_nil, w_cons, w_bin, w_idx, w_neg, o_add, o_sub, o_mul, o_fdiv, o_mod, o_pow, o_shl, o_shr, o_and, o_or, o_xor, o_eq, o_ne, o_neB, o_lt, o_le, o_gt, o_ge, o_ixl, o_ixt, o_addl, w_tup, w_lst, w_sl, w_eno, w_part, o_sll, o_sls, w_fld, o_fld, w_prop, w_call, w_callK, w_fun1, o_lenl, o_lent, o_listl, o_listt, o_tuplel, o_tuplet, o_int, o_intb, o_abs, o_all, o_any, o_sum, w_is, w_isC, w_isN, w_notN, w_chain, w_tval, w_tand, w_tor, w_tnot, w_yes, w_eand, w_eor, w_enot, w_eif, wkp_s, wk_l, wk_t, wk_r, wk_rl, w_ilist, w_irev, w_ienum, w_range1, w_range2, w_zip, w_comp, s_next, flp_nx, flp_bk, flp_ct, flp_rt, flp_xx, s_seq, s_fz, fr_nil, fr_cons, fr_1, fr_o, fr_v, fr_u, s_set, kd_fz, kd_fl, kd_fi, s_ref, s_asgG, s_par, s_par3, s_ret, s_retV, s_retN, s_drop, s_if, s_no, s_bk, s_ct, s_for, plp_o, plp_r, llp_l, ilp_i, p_putu, s_app, s_put, p_putIu, s_attr, endP_nx, endP_rt, endP_xx, endP_bk, endP_ct, f_fn, f_init, at_0, ix_0, at_1, ix_1, at_2, ix_2, at_3, ix_3, at_4, ix_4, at_5, ix_5, at_6, ix_6, at_7, ix_7, at_8, ix_8, at_9, ix_9, at_10, ix_10, at_11, ix_11, rs_ref, rs_non, rs_bl, rs_int, rs_str, rs_tup, rs_scr, rs_lst, rs_dct, rs_ins, isL, atKs, atVs, gName, enS, List.map_cons, List.map_nil, List.length_cons, List.length_nil, List.cons_append, List.nil_append, List.getElem?_cons_succ, List.getElem?_cons_zero, List.set_cons_succ, List.set_cons_zero, List.replicate, Nat.reduceSub, Nat.reduceAdd, List.getD_cons_zero, List.getD_cons_succ, gTup, gAll, Option.bind_some, isTy, List.any_cons, List.any_nil, Bool.or_false, Bool.false_or, Bool.true_or, Bool.or_true, D.isNon, true_and, Bool.not_true, Bool.not_false, perm, Int.reduceToNat, Nat.reduceLT, Option.map_some, Nat.zero_lt_succ, decide_true, decide_false, Nat.lt_add_left_iff_pos, Nat.lt_add_one]
    refine ⟨-(n / q) - 1, ?_, (by trivial)⟩
    have : n % q - q = n + q * (-(n / q) - 1) := by rw [Int.mul_sub, Int.mul_neg]; omega
    rw [this]
  · simp only [wp_ok, wp_ex, wp_no, wp_bind, wp_bindS, wp_noX, slp_v, slp_o, rtp_v, rtp_o, kdp_fz, kdp_fl, kdp_fi, intp_i, blp_b, trp_b, trp_i, trp_l, trp_t, trp_n, optp_s, itp_t, itp_f, itp_nd, itp_ne, lsp_l, nbp_fz, nbp_fr, typ_int, typ_bl, typ_str, typ_non, typ_lst, typ_tup, icp_ins, icp_int, icp_bl, icp_str, icp_non, icp_lst, icp_tup, zpp_l, zpp_t, prp_i, w_var, w_cst, fzp_fz, fzp_fr, w_fzd, w_nil, w_cons, w_bin, w_idx, w_neg, o_add, o_sub, o_mul, o_fdiv, o_mod, o_pow, o_shl, o_shr, o_and, o_or, o_xor, o_eq, o_ne, o_neB, o_lt, o_le, o_gt, o_ge, o_ixl, o_ixt, o_addl, w_tup, w_lst, w_sl, w_eno, w_part, o_sll, o_sls, w_fld, o_fld, w_prop, w_call, w_callK, w_fun1, o_lenl, o_lent, o_listl, o_listt, o_tuplel, o_tuplet, o_int, o_intb, o_abs, o_all, o_any, o_sum, w_is, w_isC, w_isN, w_notN, w_chain, w_tval, w_tand, w_tor, w_tnot, w_yes, w_eand, w_eor, w_enot, w_eif, wkp_s, wk_l, wk_t, wk_r, wk_rl, w_ilist, w_irev, w_ienum, w_range1, w_range2, w_zip, w_comp, s_next, flp_nx, flp_bk, flp_ct, flp_rt, flp_xx, s_seq, s_fz, fr_nil, fr_cons, fr_1, fr_o, fr_v, fr_u, s_set, kd_fz, kd_fl, kd_fi, s_ref, s_asgG, s_par, s_par3, s_ret, s_retV, s_retN, s_drop, s_if, s_no, s_bk, s_ct, s_for, plp_o, plp_r, llp_l, ilp_i, p_putu, s_app, s_put, p_putIu, s_attr, endP_nx, endP_rt, endP_xx, endP_bk, endP_ct, f_fn, f_init, at_0, ix_0, at_1, ix_1, at_2, ix_2, at_3, ix_3, at_4, ix_4, at_5, ix_5, at_6, ix_6, at_7, ix_7, at_8, ix_8, at_9, ix_9, at_10, ix_10, at_11, ix_11, rs_ref, rs_non, rs_bl, rs_int, rs_str, rs_tup, rs_scr, rs_lst, rs_dct, rs_ins, isL, atKs, atVs, gName, enS, List.map_cons, List.map_nil, List.length_cons, List.length_nil, List.cons_append, List.nil_append, List.getElem?_cons_succ, List.getElem?_cons_zero, List.set_cons_succ, List.set_cons_zero, List.replicate, Nat.reduceSub, Nat.reduceAdd, List.getD_cons_zero, List.getD_cons_succ, gTup, gAll, Option.bind_some, isTy, List.any_cons, List.any_nil, Bool.or_false, Bool.false_or, Bool.true_or, Bool.or_true, D.isNon, true_and, Bool.not_true, Bool.not_false, perm, Int.reduceToNat, Nat.reduceLT, Option.map_some, Nat.zero_lt_succ, decide_true, decide_false, Nat.lt_add_left_iff_pos, Nat.lt_add_one]
    refine ⟨-(n / q), ?_, (by trivial)⟩
    have : n % q = n + q * (-(n / q)) := by rw [Int.mul_neg]; omega
    rw [this]
theorem digits_ok (h : Par l N B s w q g) (n : Int) : (w_digits [.int n, frame l N B s w q] st).Wp (fun p st' => p = (.lst ((digs B s.toNat (n % q)).map .int), .fr) ∧ st' = st) NX := by
  unfold w_digits
  rw [f_fn]
  unfold b_digits
  have := h.q0; have hB := h.B4; have hB2 := h.B6; have hs := h.s1; have hs8 := h.s8
  simp only [wp_ok, wp_ex, wp_no, wp_bind, wp_bindS, wp_noX, slp_v, slp_o, rtp_v, rtp_o, kdp_fz, kdp_fl, kdp_fi, intp_i, blp_b, trp_b, trp_i, trp_l, trp_t, trp_n, optp_s, itp_t, itp_f, itp_nd, itp_ne, lsp_l, nbp_fz, nbp_fr, typ_int, typ_bl, typ_str, typ_non, typ_lst, typ_tup, icp_ins, icp_int, icp_bl, icp_str, icp_non, icp_lst, icp_tup, zpp_l, zpp_t, prp_i, w_var, w_cst, fzp_fz, fzp_fr, w_fzd, w_nil, w_cons, w_bin, w_idx, w_neg, o_add, o_sub, o_mul, o_fdiv, o_mod, o_pow, o_shl, o_shr, o_and, o_or, o_xor, o_eq, o_ne, o_neB, o_lt, o_le, o_gt, o_ge, o_ixl, o_ixt, o_addl, w_tup, w_lst, w_sl, w_eno, w_part, o_sll, o_sls, w_fld, o_fld, w_prop, w_call, w_callK, w_fun1, o_lenl, o_lent, o_listl, o_listt, o_tuplel, o_tuplet, o_int, o_intb, o_abs, o_all, o_any, o_sum, w_is, w_isC, w_isN, w_notN, w_chain, w_tval, w_tand, w_tor, w_tnot, w_yes, w_eand, w_eor, w_enot, w_eif, wkp_s, wk_l, wk_t, wk_r, wk_rl, w_ilist, w_irev, w_ienum, w_range1, w_range2, w_zip, w_comp, s_next, flp_nx, flp_bk, flp_ct, flp_rt, flp_xx, s_fz, fr_nil, fr_cons, fr_1, fr_o, fr_v, fr_u, s_set, kd_fz, kd_fl, kd_fi, s_ref, s_asgG, s_par, s_par3, s_ret, s_retV, s_retN, s_drop, s_no, s_bk, s_ct, plp_o, plp_r, llp_l, ilp_i, p_putu, s_app, s_put, p_putIu, s_attr, endP_nx, endP_rt, endP_xx, endP_bk, endP_ct, f_fn, f_init, at_0, ix_0, at_1, ix_1, at_2, ix_2, at_3, ix_3, at_4, ix_4, at_5, ix_5, at_6, ix_6, at_7, ix_7, at_8, ix_8, at_9, ix_9, at_10, ix_10, at_11, ix_11, rs_ref, rs_non, rs_bl, rs_int, rs_str, rs_tup, rs_scr, rs_lst, rs_dct, rs_ins, isL, atKs, atVs, gName, enS, List.map_cons, List.map_nil, List.length_cons, List.length_nil, List.cons_append, List.nil_append, List.getElem?_cons_succ, List.getElem?_cons_zero, List.set_cons_succ, List.set_cons_zero, List.replicate, Nat.reduceSub, Nat.reduceAdd, List.getD_cons_zero, List.getD_cons_succ, gTup, gAll, Option.bind_some, isTy, List.any_cons, List.any_nil, Bool.or_false, Bool.false_or, Bool.true_or, Bool.or_true, D.isNon, true_and, Bool.not_true, Bool.not_false, perm, Int.reduceToNat, Nat.reduceLT, Option.map_some, Nat.zero_lt_succ, decide_true, decide_false, Nat.lt_add_left_iff_pos, Nat.lt_add_one, rs_frame, prp_frame, fld_base, s_seq]
  refine modulus_ok.imp0 ?_
  rintro _ st' ⟨rfl, rfl⟩
  simp only [wp_ok, wp_ex, wp_no, wp_bind, wp_bindS, wp_noX, slp_v, slp_o, rtp_v, rtp_o, kdp_fz, kdp_fl, kdp_fi, intp_i, blp_b, trp_b, trp_i, trp_l, trp_t, trp_n, optp_s, itp_t, itp_f, itp_nd, itp_ne, lsp_l, nbp_fz, nbp_fr, typ_int, typ_bl, typ_str, typ_non, typ_lst, typ_tup, icp_ins, icp_int, icp_bl, icp_str, icp_non, icp_lst, icp_tup, zpp_l, zpp_t, prp_i, w_var, w_cst, fzp_fz, fzp_fr, w_fzd, w_nil, w_cons, w_bin, w_idx, w_neg, o_add, o_sub, o_mul, o_fdiv, o_mod, o_pow, o_shl, o_shr, o_and, o_or, o_xor, o_eq, o_ne, o_neB, o_lt, o_le, o_gt, o_ge, o_ixl, o_ixt, o_addl, w_tup, w_lst, w_sl, w_eno, w_part, o_sll, o_sls, w_fld, o_fld, w_prop, w_call, w_callK, w_fun1, o_lenl, o_lent, o_listl, o_listt, o_tuplel, o_tuplet, o_int, o_intb, o_abs, o_all, o_any, o_sum, w_is, w_isC, w_isN, w_notN, w_chain, w_tval, w_tand, w_tor, w_tnot, w_yes, w_eand, w_eor, w_enot, w_eif, wkp_s, wk_l, wk_t, wk_r, wk_rl, w_ilist, w_irev, w_ienum, w_range1, w_range2, w_zip, w_comp, s_next, flp_nx, flp_bk, flp_ct, flp_rt, flp_xx, s_seq, s_fz, fr_nil, fr_cons, fr_1, fr_o, fr_v, fr_u, s_set, kd_fz, kd_fl, kd_fi, s_ref, s_asgG, s_par, s_par3, s_ret, s_retV, s_retN, s_drop, s_if, s_no, s_bk, s_ct, s_for, plp_o, plp_r, llp_l, ilp_i, p_putu, s_app, s_put, p_putIu, s_attr, endP_nx, endP_rt, endP_xx, endP_bk, endP_ct, f_fn, f_init, at_0, ix_0, at_1, ix_1, at_2, ix_2, at_3, ix_3, at_4, ix_4, at_5, ix_5, at_6, ix_6, at_7, ix_7, at_8, ix_8, at_9, ix_9, at_10, ix_10, at_11, ix_11, rs_ref, rs_non, rs_bl, rs_int, rs_str, rs_tup, rs_scr, rs_lst, rs_dct, rs_ins, isL, atKs, atVs, gName, enS, List.map_cons, List.map_nil, List.length_cons, List.length_nil, List.cons_append, List.nil_append, List.getElem?_cons_succ, List.getElem?_cons_zero, List.set_cons_succ, List.set_cons_zero, List.replicate, Nat.reduceSub, Nat.reduceAdd, List.getD_cons_zero, List.getD_cons_succ, gTup, gAll, Option.bind_some, isTy, List.any_cons, List.any_nil, Bool.or_false, Bool.false_or, Bool.true_or, Bool.or_true, D.isNon, true_and, Bool.not_true, Bool.not_false, perm, Int.reduceToNat, Nat.reduceLT, Option.map_some, Nat.zero_lt_succ, decide_true, decide_false, Nat.lt_add_left_iff_pos, Nat.lt_add_one, rs_frame, prp_frame, fld_places]
  refine ⟨h.q0, by decide, ?_, ?_⟩
  · exact decide_eq_true ⟨by omega, by omega⟩
  refine for_ok (J := fun i ρ st2 => ∃ L acc s5 s6, ρ = [.val (.int n), .val (frame l N B s w q), .val (.int B), .val (.int L), .own (.lst (acc.map .int)), s5, s6] ∧ st2 = st' ∧ acc.length = i ∧ acc ++ digs B (s.toNat - i) L = digs B s.toNat (n % q)) ⟨_, [], _, _, rfl, rfl, rfl, rfl⟩ ?_ ?_
  · rintro i d ρ st2 hd ⟨L, acc, s5, s6, rfl, rfl, ha, he⟩
    obtain ⟨rfl, hi⟩ := rangeL_get hd
    refine ⟨_, (by trivial), ?_⟩
    have hk : s.toNat - i = (s.toNat - (i + 1)) + 1 := by omega
    rw [hk] at he
    have he : acc ++ dig B L :: digs B (s.toNat - (i + 1)) ((L - dig B L) / B) = digs B s.toNat (n % q) := he
    rw [s_seq]
    simp only [wp_ok, wp_ex, wp_no, wp_bind, wp_bindS, wp_noX, slp_v, slp_o, rtp_v, rtp_o, kdp_fz, kdp_fl, kdp_fi, intp_i, blp_b, trp_b, trp_i, trp_l, trp_t, trp_n, optp_s, itp_t, itp_f, itp_nd, itp_ne, lsp_l, nbp_fz, nbp_fr, typ_int, typ_bl, typ_str, typ_non, typ_lst, typ_tup, icp_ins, icp_int, icp_bl, icp_str, icp_non, icp_lst, icp_tup, zpp_l, zpp_t, prp_i, w_var, w_cst, fzp_fz, fzp_fr, w_fzd, w_nil, w_cons, w_bin, w_idx, w_neg, o_add, o_sub, o_mul, o_fdiv, o_mod, o_pow, o_shl, o_shr, o_and, o_or, o_xor, o_eq, o_ne, o_neB, o_lt, o_le, o_gt, o_ge, o_ixl, o_ixt, o_addl, w_tup, w_lst, w_sl, w_eno, w_part, o_sll, o_sls, w_fld, o_fld, w_prop, w_call, w_callK, w_fun1, o_lenl, o_lent, o_listl, o_listt, o_tuplel, o_tuplet, o_int, o_intb, o_abs, o_all, o_any, o_sum, w_is, w_isC, w_isN, w_notN, w_chain, w_tval, w_tand, w_tor, w_tnot, w_yes, w_eand, w_eor, w_enot, w_eif, wkp_s, wk_l, wk_t, wk_r, wk_rl, w_ilist, w_irev, w_ienum, w_range1, w_range2, w_zip, w_comp, s_next, flp_nx, flp_bk, flp_ct, flp_rt, flp_xx, s_fz, fr_nil, fr_cons, fr_1, fr_o, fr_v, fr_u, s_set, kd_fz, kd_fl, kd_fi, s_ref, s_asgG, s_par, s_par3, s_ret, s_retV, s_retN, s_drop, s_no, s_bk, s_ct, plp_o, plp_r, llp_l, ilp_i, p_putu, s_app, s_put, p_putIu, s_attr, endP_nx, endP_rt, endP_xx, endP_bk, endP_ct, f_fn, f_init, at_0, ix_0, at_1, ix_1, at_2, ix_2, at_3, ix_3, at_4, ix_4, at_5, ix_5, at_6, ix_6, at_7, ix_7, at_8, ix_8, at_9, ix_9, at_10, ix_10, at_11, ix_11, rs_ref, rs_non, rs_bl, rs_int, rs_str, rs_tup, rs_scr, rs_lst, rs_dct, rs_ins, isL, atKs, atVs, gName, enS, List.map_cons, List.map_nil, List.length_cons, List.length_nil, List.cons_append, List.nil_append, List.getElem?_cons_succ, List.getElem?_cons_zero, List.set_cons_succ, List.set_cons_zero, List.replicate, Nat.reduceSub, Nat.reduceAdd, List.getD_cons_zero, List.getD_cons_succ, gTup, gAll, Option.bind_some, isTy, List.any_cons, List.any_nil, Bool.or_false, Bool.false_or, Bool.true_or, Bool.or_true, D.isNon, true_and, Bool.not_true, Bool.not_false, perm, Int.reduceToNat, Nat.reduceLT, Option.map_some, Nat.zero_lt_succ, decide_true, decide_false, Nat.lt_add_left_iff_pos, Nat.lt_add_one]
    refine ⟨by omega, ?_⟩
    rw [s_seq]
    refine R.Wp.imp (P := fun (f : Fl) st1 => f = .nx [.val (.int n), .val (frame l N B s w q), .val (.int B), .val (.int L), .own (.lst (acc.map .int)), .val (.int i), .val (.int (dig B L))] ∧ st1 = st2) ?_ ?_
    · simp only [wp_ok, wp_ex, wp_no, wp_bind, wp_bindS, wp_noX, slp_v, slp_o, rtp_v, rtp_o, kdp_fz, kdp_fl, kdp_fi, intp_i, blp_b, trp_b, trp_i, trp_l, trp_t, trp_n, optp_s, itp_t, itp_f, itp_nd, itp_ne, lsp_l, nbp_fz, nbp_fr, typ_int, typ_bl, typ_str, typ_non, typ_lst, typ_tup, icp_ins, icp_int, icp_bl, icp_str, icp_non, icp_lst, icp_tup, zpp_l, zpp_t, prp_i, w_var, w_cst, fzp_fz, fzp_fr, w_fzd, w_nil, w_cons, w_bin, w_idx, w_neg, o_add, o_sub, o_mul, o_fdiv, o_mod, o_pow, o_shl, o_shr, o_and, o_or, o_xor, o_eq, o_ne, o_neB, o_lt, o_le, o_gt, o_ge, o_ixl, o_ixt, o_addl, w_tup, w_lst, w_sl, w_eno, w_part, o_sll, o_sls, w_fld, o_fld, w_prop, w_call, w_callK, w_fun1, o_lenl, o_lent, o_listl, o_listt, o_tuplel, o_tuplet, o_int, o_intb, o_abs, o_all, o_any, o_sum, w_is, w_isC, w_isN, w_notN, w_chain, w_tval, w_tand, w_tor, w_tnot, w_yes, w_eand, w_eor, w_enot, w_eif, wkp_s, wk_l, wk_t, wk_r, wk_rl, w_ilist, w_irev, w_ienum, w_range1, w_range2, w_zip, w_comp, s_next, flp_nx, flp_bk, flp_ct, flp_rt, flp_xx, s_seq, s_fz, fr_nil, fr_cons, fr_1, fr_o, fr_v, fr_u, s_set, kd_fz, kd_fl, kd_fi, s_ref, s_asgG, s_par, s_par3, s_ret, s_retV, s_retN, s_drop, s_if, s_no, s_bk, s_ct, s_for, plp_o, plp_r, llp_l, ilp_i, p_putu, s_app, s_put, p_putIu, s_attr, endP_nx, endP_rt, endP_xx, endP_bk, endP_ct, f_fn, f_init, at_0, ix_0, at_1, ix_1, at_2, ix_2, at_3, ix_3, at_4, ix_4, at_5, ix_5, at_6, ix_6, at_7, ix_7, at_8, ix_8, at_9, ix_9, at_10, ix_10, at_11, ix_11, rs_ref, rs_non, rs_bl, rs_int, rs_str, rs_tup, rs_scr, rs_lst, rs_dct, rs_ins, isL, atKs, atVs, gName, enS, List.map_cons, List.map_nil, List.length_cons, List.length_nil, List.cons_append, List.nil_append, List.getElem?_cons_succ, List.getElem?_cons_zero, List.set_cons_succ, List.set_cons_zero, List.replicate, Nat.reduceSub, Nat.reduceAdd, List.getD_cons_zero, List.getD_cons_succ, gTup, gAll, Option.bind_some, isTy, List.any_cons, List.any_nil, Bool.or_false, Bool.false_or, Bool.true_or, Bool.or_true, D.isNon, true_and, Bool.not_true, Bool.not_false, perm, Int.reduceToNat, Nat.reduceLT, Option.map_some, Nat.zero_lt_succ, decide_true, decide_false, Nat.lt_add_left_iff_pos, Nat.lt_add_one]
      refine ⟨⟨by decide, by decide⟩, itp_d (fun hh => ?_) fun hh => ?_⟩
      · simp only [wp_ok, wp_ex, wp_no, wp_bind, wp_bindS, wp_noX, slp_v, slp_o, rtp_v, rtp_o, kdp_fz, kdp_fl, kdp_fi, intp_i, blp_b, trp_b, trp_i, trp_l, trp_t, trp_n, optp_s, itp_t, itp_f, itp_nd, itp_ne, lsp_l, nbp_fz, nbp_fr, typ_int, typ_bl, typ_str, typ_non, typ_lst, typ_tup, icp_ins, icp_int, icp_bl, icp_str, icp_non, icp_lst, icp_tup, zpp_l, zpp_t, prp_i, w_var, w_cst, fzp_fz, fzp_fr, w_fzd, w_nil, w_cons, w_bin, w_idx, w_neg, o_add, o_sub, o_mul, o_fdiv, o_mod, o_pow, o_shl, o_shr, o_and, o_or, o_xor, o_eq, o_ne, o_neB, o_lt, o_le, o_gt, o_ge, o_ixl, o_ixt, o_addl, w_tup, w_lst, w_sl, w_eno, w_part, o_sll, o_sls, w_fld, o_fld, w_prop, w_call, w_callK, w_fun1, o_lenl, o_lent, o_listl, o_listt, o_tuplel, o_tuplet, o_int, o_intb, o_abs, o_all, o_any, o_sum, w_is, w_isC, w_isN, w_notN, w_chain, w_tval, w_tand, w_tor, w_tnot, w_yes, w_eand, w_eor, w_enot, w_eif, wkp_s, wk_l, wk_t, wk_r, wk_rl, w_ilist, w_irev, w_ienum, w_range1, w_range2, w_zip, w_comp, s_next, flp_nx, flp_bk, flp_ct, flp_rt, flp_xx, s_seq, s_fz, fr_nil, fr_cons, fr_1, fr_o, fr_v, fr_u, s_set, kd_fz, kd_fl, kd_fi, s_ref, s_asgG, s_par, s_par3, s_ret, s_retV, s_retN, s_drop, s_if, s_no, s_bk, s_ct, s_for, plp_o, plp_r, llp_l, ilp_i, p_putu, s_app, s_put, p_putIu, s_attr, endP_nx, endP_rt, endP_xx, endP_bk, endP_ct, f_fn, f_init, at_0, ix_0, at_1, ix_1, at_2, ix_2, at_3, ix_3, at_4, ix_4, at_5, ix_5, at_6, ix_6, at_7, ix_7, at_8, ix_8, at_9, ix_9, at_10, ix_10, at_11, ix_11, rs_ref, rs_non, rs_bl, rs_int, rs_str, rs_tup, rs_scr, rs_lst, rs_dct, rs_ins, isL, atKs, atVs, gName, enS, List.map_cons, List.map_nil, List.length_cons, List.length_nil, List.cons_append, List.nil_append, List.getElem?_cons_succ, List.getElem?_cons_zero, List.set_cons_succ, List.set_cons_zero, List.replicate, Nat.reduceSub, Nat.reduceAdd, List.getD_cons_zero, List.getD_cons_succ, gTup, gAll, Option.bind_some, isTy, List.any_cons, List.any_nil, Bool.or_false, Bool.false_or, Bool.true_or, Bool.or_true, D.isNon, true_and, Bool.not_true, Bool.not_false, perm, Int.reduceToNat, Nat.reduceLT, Option.map_some, Nat.zero_lt_succ, decide_true, decide_false, Nat.lt_add_left_iff_pos, Nat.lt_add_one]
        unfold dig
        rw [if_pos hh]
        exact ⟨(by trivial), (by trivial)⟩
      · unfold dig
        rw [if_neg hh]
        exact ⟨(by trivial), (by trivial)⟩
    · rintro _ _ ⟨rfl, rfl⟩
      simp only [wp_ok, wp_ex, wp_no, wp_bind, wp_bindS, wp_noX, slp_v, slp_o, rtp_v, rtp_o, kdp_fz, kdp_fl, kdp_fi, intp_i, blp_b, trp_b, trp_i, trp_l, trp_t, trp_n, optp_s, itp_t, itp_f, itp_nd, itp_ne, lsp_l, nbp_fz, nbp_fr, typ_int, typ_bl, typ_str, typ_non, typ_lst, typ_tup, icp_ins, icp_int, icp_bl, icp_str, icp_non, icp_lst, icp_tup, zpp_l, zpp_t, prp_i, w_var, w_cst, fzp_fz, fzp_fr, w_fzd, w_nil, w_cons, w_bin, w_idx, w_neg, o_add, o_sub, o_mul, o_fdiv, o_mod, o_pow, o_shl, o_shr, o_and, o_or, o_xor, o_eq, o_ne, o_neB, o_lt, o_le, o_gt, o_ge, o_ixl, o_ixt, o_addl, w_tup, w_lst, w_sl, w_eno, w_part, o_sll, o_sls, w_fld, o_fld, w_prop, w_call, w_callK, w_fun1, o_lenl, o_lent, o_listl, o_listt, o_tuplel, o_tuplet, o_int, o_intb, o_abs, o_all, o_any, o_sum, w_is, w_isC, w_isN, w_notN, w_chain, w_tval, w_tand, w_tor, w_tnot, w_yes, w_eand, w_eor, w_enot, w_eif, wkp_s, wk_l, wk_t, wk_r, wk_rl, w_ilist, w_irev, w_ienum, w_range1, w_range2, w_zip, w_comp, s_next, flp_nx, flp_bk, flp_ct, flp_rt, flp_xx, s_seq, s_fz, fr_nil, fr_cons, fr_1, fr_o, fr_v, fr_u, s_set, kd_fz, kd_fl, kd_fi, s_ref, s_asgG, s_par, s_par3, s_ret, s_retV, s_retN, s_drop, s_if, s_no, s_bk, s_ct, s_for, plp_o, plp_r, llp_l, ilp_i, p_putu, s_app, s_put, p_putIu, s_attr, endP_nx, endP_rt, endP_xx, endP_bk, endP_ct, f_fn, f_init, at_0, ix_0, at_1, ix_1, at_2, ix_2, at_3, ix_3, at_4, ix_4, at_5, ix_5, at_6, ix_6, at_7, ix_7, at_8, ix_8, at_9, ix_9, at_10, ix_10, at_11, ix_11, rs_ref, rs_non, rs_bl, rs_int, rs_str, rs_tup, rs_scr, rs_lst, rs_dct, rs_ins, isL, atKs, atVs, gName, enS, List.map_cons, List.map_nil, List.length_cons, List.length_nil, List.cons_append, List.nil_append, List.getElem?_cons_succ, List.getElem?_cons_zero, List.set_cons_succ, List.set_cons_zero, List.replicate, Nat.reduceSub, Nat.reduceAdd, List.getD_cons_zero, List.getD_cons_succ, gTup, gAll, Option.bind_some, isTy, List.any_cons, List.any_nil, Bool.or_false, Bool.false_or, Bool.true_or, Bool.or_true, D.isNon, true_and, Bool.not_true, Bool.not_false, perm, Int.reduceToNat, Nat.reduceLT, Option.map_some, Nat.zero_lt_succ, decide_true, decide_false, Nat.lt_add_left_iff_pos, Nat.lt_add_one]
      rw [if_pos (by rw [List.length_map, ha]; unfold maxLen; omega)]
      simp only [wp_ok, wp_ex, wp_no, wp_bind, wp_bindS, wp_noX, slp_v, slp_o, rtp_v, rtp_o, kdp_fz, kdp_fl, kdp_fi, intp_i, blp_b, trp_b, trp_i, trp_l, trp_t, trp_n, optp_s, itp_t, itp_f, itp_nd, itp_ne, lsp_l, nbp_fz, nbp_fr, typ_int, typ_bl, typ_str, typ_non, typ_lst, typ_tup, icp_ins, icp_int, icp_bl, icp_str, icp_non, icp_lst, icp_tup, zpp_l, zpp_t, prp_i, w_var, w_cst, fzp_fz, fzp_fr, w_fzd, w_nil, w_cons, w_bin, w_idx, w_neg, o_add, o_sub, o_mul, o_fdiv, o_mod, o_pow, o_shl, o_shr, o_and, o_or, o_xor, o_eq, o_ne, o_neB, o_lt, o_le, o_gt, o_ge, o_ixl, o_ixt, o_addl, w_tup, w_lst, w_sl, w_eno, w_part, o_sll, o_sls, w_fld, o_fld, w_prop, w_call, w_callK, w_fun1, o_lenl, o_lent, o_listl, o_listt, o_tuplel, o_tuplet, o_int, o_intb, o_abs, o_all, o_any, o_sum, w_is, w_isC, w_isN, w_notN, w_chain, w_tval, w_tand, w_tor, w_tnot, w_yes, w_eand, w_eor, w_enot, w_eif, wkp_s, wk_l, wk_t, wk_r, wk_rl, w_ilist, w_irev, w_ienum, w_range1, w_range2, w_zip, w_comp, s_next, flp_nx, flp_bk, flp_ct, flp_rt, flp_xx, s_seq, s_fz, fr_nil, fr_cons, fr_1, fr_o, fr_v, fr_u, s_set, kd_fz, kd_fl, kd_fi, s_ref, s_asgG, s_par, s_par3, s_ret, s_retV, s_retN, s_drop, s_if, s_no, s_bk, s_ct, s_for, plp_o, plp_r, llp_l, ilp_i, p_putu, s_app, s_put, p_putIu, s_attr, endP_nx, endP_rt, endP_xx, endP_bk, endP_ct, f_fn, f_init, at_0, ix_0, at_1, ix_1, at_2, ix_2, at_3, ix_3, at_4, ix_4, at_5, ix_5, at_6, ix_6, at_7, ix_7, at_8, ix_8, at_9, ix_9, at_10, ix_10, at_11, ix_11, rs_ref, rs_non, rs_bl, rs_int, rs_str, rs_tup, rs_scr, rs_lst, rs_dct, rs_ins, isL, atKs, atVs, gName, enS, List.map_cons, List.map_nil, List.length_cons, List.length_nil, List.cons_append, List.nil_append, List.getElem?_cons_succ, List.getElem?_cons_zero, List.set_cons_succ, List.set_cons_zero, List.replicate, Nat.reduceSub, Nat.reduceAdd, List.getD_cons_zero, List.getD_cons_succ, gTup, gAll, Option.bind_some, isTy, List.any_cons, List.any_nil, Bool.or_false, Bool.false_or, Bool.true_or, Bool.or_true, D.isNon, true_and, Bool.not_true, Bool.not_false, perm, Int.reduceToNat, Nat.reduceLT, Option.map_some, Nat.zero_lt_succ, decide_true, decide_false, Nat.lt_add_left_iff_pos, Nat.lt_add_one]
      refine ⟨⟨by omega, big_of (by omega)⟩, ?_⟩
      refine ⟨(L - dig B L) / B, acc ++ [dig B L], .val (.int i), .val (.int (dig B L)), ?_, ?_⟩
      · rw [List.map_append]; rfl
      · exact ⟨by rw [List.length_append, ha]; rfl, by rw [List.append_assoc]; exact he⟩
  · rintro ρ st2 ⟨L, acc, s5, s6, rfl, rfl, ha, he⟩
    simp only [wp_ok, wp_ex, wp_no, wp_bind, wp_bindS, wp_noX, slp_v, slp_o, rtp_v, rtp_o, kdp_fz, kdp_fl, kdp_fi, intp_i, blp_b, trp_b, trp_i, trp_l, trp_t, trp_n, optp_s, itp_t, itp_f, itp_nd, itp_ne, lsp_l, nbp_fz, nbp_fr, typ_int, typ_bl, typ_str, typ_non, typ_lst, typ_tup, icp_ins, icp_int, icp_bl, icp_str, icp_non, icp_lst, icp_tup, zpp_l, zpp_t, prp_i, w_var, w_cst, fzp_fz, fzp_fr, w_fzd, w_nil, w_cons, w_bin, w_idx, w_neg, o_add, o_sub, o_mul, o_fdiv, o_mod, o_pow, o_shl, o_shr, o_and, o_or, o_xor, o_eq, o_ne, o_neB, o_lt, o_le, o_gt, o_ge, o_ixl, o_ixt, o_addl, w_tup, w_lst, w_sl, w_eno, w_part, o_sll, o_sls, w_fld, o_fld, w_prop, w_call, w_callK, w_fun1, o_lenl, o_lent, o_listl, o_listt, o_tuplel, o_tuplet, o_int, o_intb, o_abs, o_all, o_any, o_sum, w_is, w_isC, w_isN, w_notN, w_chain, w_tval, w_tand, w_tor, w_tnot, w_yes, w_eand, w_eor, w_enot, w_eif, wkp_s, wk_l, wk_t, wk_r, wk_rl, w_ilist, w_irev, w_ienum, w_range1, w_range2, w_zip, w_comp, s_next, flp_nx, flp_bk, flp_ct, flp_rt, flp_xx, s_seq, s_fz, fr_nil, fr_cons, fr_1, fr_o, fr_v, fr_u, s_set, kd_fz, kd_fl, kd_fi, s_ref, s_asgG, s_par, s_par3, s_ret, s_retV, s_retN, s_drop, s_if, s_no, s_bk, s_ct, s_for, plp_o, plp_r, llp_l, ilp_i, p_putu, s_app, s_put, p_putIu, s_attr, endP_nx, endP_rt, endP_xx, endP_bk, endP_ct, f_fn, f_init, at_0, ix_0, at_1, ix_1, at_2, ix_2, at_3, ix_3, at_4, ix_4, at_5, ix_5, at_6, ix_6, at_7, ix_7, at_8, ix_8, at_9, ix_9, at_10, ix_10, at_11, ix_11, rs_ref, rs_non, rs_bl, rs_int, rs_str, rs_tup, rs_scr, rs_lst, rs_dct, rs_ins, isL, atKs, atVs, gName, enS, List.map_cons, List.map_nil, List.length_cons, List.length_nil, List.cons_append, List.nil_append, List.getElem?_cons_succ, List.getElem?_cons_zero, List.set_cons_succ, List.set_cons_zero, List.replicate, Nat.reduceSub, Nat.reduceAdd, List.getD_cons_zero, List.getD_cons_succ, gTup, gAll, Option.bind_some, isTy, List.any_cons, List.any_nil, Bool.or_false, Bool.false_or, Bool.true_or, Bool.or_true, D.isNon, true_and, Bool.not_true, Bool.not_false, perm, Int.reduceToNat, Nat.reduceLT, Option.map_some, Nat.zero_lt_succ, decide_true, decide_false, Nat.lt_add_left_iff_pos, Nat.lt_add_one]
    rw [rangeL_len] at ha he
    rw [Nat.sub_self] at he
    have he : acc ++ [] = digs B s.toNat (n % q) := he
    rw [List.append_nil] at he
    rw [he]
    exact ⟨(by trivial), (by trivial)⟩
theorem whole_ok (h : Par l N B s w q g) (n : Int) : (w_whole [.lst ((digs B s.toNat (n % q)).map .int), frame l N B s w q] st).Wp (fun p st' => ∃ m : Int, p = (.int m, .fz) ∧ m % q = n % q ∧ st' = st) NX := by
  unfold w_whole
  rw [f_fn]
  unfold b_whole
  have := h.q0; have hB := h.B4; have hB2 := h.B6
  simp only [wp_ok, wp_ex, wp_no, wp_bind, wp_bindS, wp_noX, slp_v, slp_o, rtp_v, rtp_o, kdp_fz, kdp_fl, kdp_fi, intp_i, blp_b, trp_b, trp_i, trp_l, trp_t, trp_n, optp_s, itp_t, itp_f, itp_nd, itp_ne, lsp_l, nbp_fz, nbp_fr, typ_int, typ_bl, typ_str, typ_non, typ_lst, typ_tup, icp_ins, icp_int, icp_bl, icp_str, icp_non, icp_lst, icp_tup, zpp_l, zpp_t, prp_i, w_var, w_cst, fzp_fz, fzp_fr, w_fzd, w_nil, w_cons, w_bin, w_idx, w_neg, o_add, o_sub, o_mul, o_fdiv, o_mod, o_pow, o_shl, o_shr, o_and, o_or, o_xor, o_eq, o_ne, o_neB, o_lt, o_le, o_gt, o_ge, o_ixl, o_ixt, o_addl, w_tup, w_lst, w_sl, w_eno, w_part, o_sll, o_sls, w_fld, o_fld, w_prop, w_call, w_callK, w_fun1, o_lenl, o_lent, o_listl, o_listt, o_tuplel, o_tuplet, o_int, o_intb, o_abs, o_all, o_any, o_sum, w_is, w_isC, w_isN, w_notN, w_chain, w_tval, w_tand, w_tor, w_tnot, w_yes, w_eand, w_eor, w_enot, w_eif, wkp_s, wk_l, wk_t, wk_r, wk_rl, w_ilist, w_irev, w_ienum, w_range1, w_range2, w_zip, w_comp, s_next, flp_nx, flp_bk, flp_ct, flp_rt, flp_xx, s_seq, s_fz, fr_nil, fr_cons, fr_1, fr_o, fr_v, fr_u, s_set, kd_fz, kd_fl, kd_fi, s_ref, s_asgG, s_par, s_par3, s_ret, s_retV, s_retN, s_drop, s_if, s_no, s_bk, s_ct, s_for, plp_o, plp_r, llp_l, ilp_i, p_putu, s_app, s_put, p_putIu, s_attr, endP_nx, endP_rt, endP_xx, endP_bk, endP_ct, f_fn, f_init, at_0, ix_0, at_1, ix_1, at_2, ix_2, at_3, ix_3, at_4, ix_4, at_5, ix_5, at_6, ix_6, at_7, ix_7, at_8, ix_8, at_9, ix_9, at_10, ix_10, at_11, ix_11, rs_ref, rs_non, rs_bl, rs_int, rs_str, rs_tup, rs_scr, rs_lst, rs_dct, rs_ins, isL, atKs, atVs, gName, enS, List.map_cons, List.map_nil, List.length_cons, List.length_nil, List.cons_append, List.nil_append, List.getElem?_cons_succ, List.getElem?_cons_zero, List.set_cons_succ, List.set_cons_zero, List.replicate, Nat.reduceSub, Nat.reduceAdd, List.getD_cons_zero, List.getD_cons_succ, gTup, gAll, Option.bind_some, isTy, List.any_cons, List.any_nil, Bool.or_false, Bool.false_or, Bool.true_or, Bool.or_true, D.isNon, true_and, Bool.not_true, Bool.not_false, perm, Int.reduceToNat, Nat.reduceLT, Option.map_some, Nat.zero_lt_succ, decide_true, decide_false, Nat.lt_add_left_iff_pos, Nat.lt_add_one]
  generalize hds : digs B s.toNat (n % q) = ds
  refine for_ok (J := fun i ρ st2 => ∃ s3, ρ = [.val (.lst (ds.map .int)), .val (frame l N B s w q), .val (.int ((ds.reverse.take i).foldl (fun t d => (t * B + d) % q) 0)), s3] ∧ st2 = st) ⟨_, rfl, rfl⟩ ?_ ?_
  · rintro i d ρ st2 hd ⟨s3, rfl, rfl⟩
    rw [← List.map_reverse, List.getElem?_map] at hd
    cases hx : ds.reverse[i]? with
    | none => rw [hx] at hd; cases hd
    | some x =>
      rw [hx] at hd
      cases hd
      refine ⟨_, (by trivial), ?_⟩
      simp only [wp_ok, wp_ex, wp_no, wp_bind, wp_bindS, wp_noX, slp_v, slp_o, rtp_v, rtp_o, kdp_fz, kdp_fl, kdp_fi, intp_i, blp_b, trp_b, trp_i, trp_l, trp_t, trp_n, optp_s, itp_t, itp_f, itp_nd, itp_ne, lsp_l, nbp_fz, nbp_fr, typ_int, typ_bl, typ_str, typ_non, typ_lst, typ_tup, icp_ins, icp_int, icp_bl, icp_str, icp_non, icp_lst, icp_tup, zpp_l, zpp_t, prp_i, w_var, w_cst, fzp_fz, fzp_fr, w_fzd, w_nil, w_cons, w_bin, w_idx, w_neg, o_add, o_sub, o_mul, o_fdiv, o_mod, o_pow, o_shl, o_shr, o_and, o_or, o_xor, o_eq, o_ne, o_neB, o_lt, o_le, o_gt, o_ge, o_ixl, o_ixt, o_addl, w_tup, w_lst, w_sl, w_eno, w_part, o_sll, o_sls, w_fld, o_fld, w_prop, w_call, w_callK, w_fun1, o_lenl, o_lent, o_listl, o_listt, o_tuplel, o_tuplet, o_int, o_intb, o_abs, o_all, o_any, o_sum, w_is, w_isC, w_isN, w_notN, w_chain, w_tval, w_tand, w_tor, w_tnot, w_yes, w_eand, w_eor, w_enot, w_eif, wkp_s, wk_l, wk_t, wk_r, wk_rl, w_ilist, w_irev, w_ienum, w_range1, w_range2, w_zip, w_comp, s_next, flp_nx, flp_bk, flp_ct, flp_rt, flp_xx, s_seq, s_fz, fr_nil, fr_cons, fr_1, fr_o, fr_v, fr_u, s_set, kd_fz, kd_fl, kd_fi, s_ref, s_asgG, s_par, s_par3, s_ret, s_retV, s_retN, s_drop, s_if, s_no, s_bk, s_ct, s_for, plp_o, plp_r, llp_l, ilp_i, p_putu, s_app, s_put, p_putIu, s_attr, endP_nx, endP_rt, endP_xx, endP_bk, endP_ct, f_fn, f_init, at_0, ix_0, at_1, ix_1, at_2, ix_2, at_3, ix_3, at_4, ix_4, at_5, ix_5, at_6, ix_6, at_7, ix_7, at_8, ix_8, at_9, ix_9, at_10, ix_10, at_11, ix_11, rs_ref, rs_non, rs_bl, rs_int, rs_str, rs_tup, rs_scr, rs_lst, rs_dct, rs_ins, isL, atKs, atVs, gName, enS, List.map_cons, List.map_nil, List.length_cons, List.length_nil, List.cons_append, List.nil_append, List.getElem?_cons_succ, List.getElem?_cons_zero, List.set_cons_succ, List.set_cons_zero, List.replicate, Nat.reduceSub, Nat.reduceAdd, List.getD_cons_zero, List.getD_cons_succ, gTup, gAll, Option.bind_some, isTy, List.any_cons, List.any_nil, Bool.or_false, Bool.false_or, Bool.true_or, Bool.or_true, D.isNon, true_and, Bool.not_true, Bool.not_false, perm, Int.reduceToNat, Nat.reduceLT, Option.map_some, Nat.zero_lt_succ, decide_true, decide_false, Nat.lt_add_left_iff_pos, Nat.lt_add_one, rs_frame, prp_frame, fld_base]
      refine ⟨mulOk_r (by omega) (by omega), modulus_ok.imp0 ?_⟩
      rintro _ st' ⟨rfl, rfl⟩
      simp only [wp_ok, wp_ex, wp_no, wp_bind, wp_bindS, wp_noX, slp_v, slp_o, rtp_v, rtp_o, kdp_fz, kdp_fl, kdp_fi, intp_i, blp_b, trp_b, trp_i, trp_l, trp_t, trp_n, optp_s, itp_t, itp_f, itp_nd, itp_ne, lsp_l, nbp_fz, nbp_fr, typ_int, typ_bl, typ_str, typ_non, typ_lst, typ_tup, icp_ins, icp_int, icp_bl, icp_str, icp_non, icp_lst, icp_tup, zpp_l, zpp_t, prp_i, w_var, w_cst, fzp_fz, fzp_fr, w_fzd, w_nil, w_cons, w_bin, w_idx, w_neg, o_add, o_sub, o_mul, o_fdiv, o_mod, o_pow, o_shl, o_shr, o_and, o_or, o_xor, o_eq, o_ne, o_neB, o_lt, o_le, o_gt, o_ge, o_ixl, o_ixt, o_addl, w_tup, w_lst, w_sl, w_eno, w_part, o_sll, o_sls, w_fld, o_fld, w_prop, w_call, w_callK, w_fun1, o_lenl, o_lent, o_listl, o_listt, o_tuplel, o_tuplet, o_int, o_intb, o_abs, o_all, o_any, o_sum, w_is, w_isC, w_isN, w_notN, w_chain, w_tval, w_tand, w_tor, w_tnot, w_yes, w_eand, w_eor, w_enot, w_eif, wkp_s, wk_l, wk_t, wk_r, wk_rl, w_ilist, w_irev, w_ienum, w_range1, w_range2, w_zip, w_comp, s_next, flp_nx, flp_bk, flp_ct, flp_rt, flp_xx, s_seq, s_fz, fr_nil, fr_cons, fr_1, fr_o, fr_v, fr_u, s_set, kd_fz, kd_fl, kd_fi, s_ref, s_asgG, s_par, s_par3, s_ret, s_retV, s_retN, s_drop, s_if, s_no, s_bk, s_ct, s_for, plp_o, plp_r, llp_l, ilp_i, p_putu, s_app, s_put, p_putIu, s_attr, endP_nx, endP_rt, endP_xx, endP_bk, endP_ct, f_fn, f_init, at_0, ix_0, at_1, ix_1, at_2, ix_2, at_3, ix_3, at_4, ix_4, at_5, ix_5, at_6, ix_6, at_7, ix_7, at_8, ix_8, at_9, ix_9, at_10, ix_10, at_11, ix_11, rs_ref, rs_non, rs_bl, rs_int, rs_str, rs_tup, rs_scr, rs_lst, rs_dct, rs_ins, isL, atKs, atVs, gName, enS, List.map_cons, List.map_nil, List.length_cons, List.length_nil, List.cons_append, List.nil_append, List.getElem?_cons_succ, List.getElem?_cons_zero, List.set_cons_succ, List.set_cons_zero, List.replicate, Nat.reduceSub, Nat.reduceAdd, List.getD_cons_zero, List.getD_cons_succ, gTup, gAll, Option.bind_some, isTy, List.any_cons, List.any_nil, Bool.or_false, Bool.false_or, Bool.true_or, Bool.or_true, D.isNon, true_and, Bool.not_true, Bool.not_false, perm, Int.reduceToNat, Nat.reduceLT, Option.map_some, Nat.zero_lt_succ, decide_true, decide_false, Nat.lt_add_left_iff_pos, Nat.lt_add_one]
      refine ⟨h.q0, .val (.int x), ?_, trivial⟩
      rw [List.take_add_one, hx, List.foldl_append]
      rfl
  · rintro ρ st2 ⟨s3, rfl, rfl⟩
    simp only [wp_ok, wp_ex, wp_no, wp_bind, wp_bindS, wp_noX, slp_v, slp_o, rtp_v, rtp_o, kdp_fz, kdp_fl, kdp_fi, intp_i, blp_b, trp_b, trp_i, trp_l, trp_t, trp_n, optp_s, itp_t, itp_f, itp_nd, itp_ne, lsp_l, nbp_fz, nbp_fr, typ_int, typ_bl, typ_str, typ_non, typ_lst, typ_tup, icp_ins, icp_int, icp_bl, icp_str, icp_non, icp_lst, icp_tup, zpp_l, zpp_t, prp_i, w_var, w_cst, fzp_fz, fzp_fr, w_fzd, w_nil, w_cons, w_bin, w_idx, w_neg, o_add, o_sub, o_mul, o_fdiv, o_mod, o_pow, o_shl, o_shr, o_and, o_or, o_xor, o_eq, o_ne, o_neB, o_lt, o_le, o_gt, o_ge, o_ixl, o_ixt, o_addl, w_tup, w_lst, w_sl, w_eno, w_part, o_sll, o_sls, w_fld, o_fld, w_prop, w_call, w_callK, w_fun1, o_lenl, o_lent, o_listl, o_listt, o_tuplel, o_tuplet, o_int, o_intb, o_abs, o_all, o_any, o_sum, w_is, w_isC, w_isN, w_notN, w_chain, w_tval, w_tand, w_tor, w_tnot, w_yes, w_eand, w_eor, w_enot, w_eif, wkp_s, wk_l, wk_t, wk_r, wk_rl, w_ilist, w_irev, w_ienum, w_range1, w_range2, w_zip, w_comp, s_next, flp_nx, flp_bk, flp_ct, flp_rt, flp_xx, s_seq, s_fz, fr_nil, fr_cons, fr_1, fr_o, fr_v, fr_u, s_set, kd_fz, kd_fl, kd_fi, s_ref, s_asgG, s_par, s_par3, s_ret, s_retV, s_retN, s_drop, s_if, s_no, s_bk, s_ct, s_for, plp_o, plp_r, llp_l, ilp_i, p_putu, s_app, s_put, p_putIu, s_attr, endP_nx, endP_rt, endP_xx, endP_bk, endP_ct, f_fn, f_init, at_0, ix_0, at_1, ix_1, at_2, ix_2, at_3, ix_3, at_4, ix_4, at_5, ix_5, at_6, ix_6, at_7, ix_7, at_8, ix_8, at_9, ix_9, at_10, ix_10, at_11, ix_11, rs_ref, rs_non, rs_bl, rs_int, rs_str, rs_tup, rs_scr, rs_lst, rs_dct, rs_ins, isL, atKs, atVs, gName, enS, List.map_cons, List.map_nil, List.length_cons, List.length_nil, List.cons_append, List.nil_append, List.getElem?_cons_succ, List.getElem?_cons_zero, List.set_cons_succ, List.set_cons_zero, List.replicate, Nat.reduceSub, Nat.reduceAdd, List.getD_cons_zero, List.getD_cons_succ, gTup, gAll, Option.bind_some, isTy, List.any_cons, List.any_nil, Bool.or_false, Bool.false_or, Bool.true_or, Bool.or_true, D.isNon, true_and, Bool.not_true, Bool.not_false, perm, Int.reduceToNat, Nat.reduceLT, Option.map_some, Nat.zero_lt_succ, decide_true, decide_false, Nat.lt_add_left_iff_pos, Nat.lt_add_one]
    refine ⟨_, (by trivial), ?_, (by trivial)⟩
    rw [List.length_reverse, List.length_map, ← List.length_reverse, List.take_length, List.foldl_reverse, ← hds]
    exact whole_mod B q (by omega) s.toNat h.qe n
theorem isnum_ok (a b c : Int) : (w__law_is_number [.int a, .int b, .int c] st).Wp (fun p st' => p = (.bl (decide (b ≤ a) && decide (a ≤ c)), .fz) ∧ st' = st) NX := by
  unfold w__law_is_number
  rw [f_fn]
  unfold b__law_is_number
  simp only [wp_ok, wp_ex, wp_no, wp_bind, wp_bindS, wp_noX, slp_v, slp_o, rtp_v, rtp_o, kdp_fz, kdp_fl, kdp_fi, intp_i, blp_b, trp_b, trp_i, trp_l, trp_t, trp_n, optp_s, itp_t, itp_f, itp_nd, itp_ne, lsp_l, nbp_fz, nbp_fr, typ_int, typ_bl, typ_str, typ_non, typ_lst, typ_tup, icp_ins, icp_int, icp_bl, icp_str, icp_non, icp_lst, icp_tup, zpp_l, zpp_t, prp_i, w_var, w_cst, fzp_fz, fzp_fr, w_fzd, w_nil, w_cons, w_bin, w_idx, w_neg, o_add, o_sub, o_mul, o_fdiv, o_mod, o_pow, o_shl, o_shr, o_and, o_or, o_xor, o_eq, o_ne, o_neB, o_lt, o_le, o_gt, o_ge, o_ixl, o_ixt, o_addl, w_tup, w_lst, w_sl, w_eno, w_part, o_sll, o_sls, w_fld, o_fld, w_prop, w_call, w_callK, w_fun1, o_lenl, o_lent, o_listl, o_listt, o_tuplel, o_tuplet, o_int, o_intb, o_abs, o_all, o_any, o_sum, w_is, w_isC, w_isN, w_notN, w_chain, w_tval, w_tand, w_tor, w_tnot, w_yes, w_eand, w_eor, w_enot, w_eif, wkp_s, wk_l, wk_t, wk_r, wk_rl, w_ilist, w_irev, w_ienum, w_range1, w_range2, w_zip, w_comp, s_next, flp_nx, flp_bk, flp_ct, flp_rt, flp_xx, s_seq, s_fz, fr_nil, fr_cons, fr_1, fr_o, fr_v, fr_u, s_set, kd_fz, kd_fl, kd_fi, s_ref, s_asgG, s_par, s_par3, s_ret, s_retV, s_retN, s_drop, s_if, s_no, s_bk, s_ct, s_for, plp_o, plp_r, llp_l, ilp_i, p_putu, s_app, s_put, p_putIu, s_attr, endP_nx, endP_rt, endP_xx, endP_bk, endP_ct, f_fn, f_init, at_0, ix_0, at_1, ix_1, at_2, ix_2, at_3, ix_3, at_4, ix_4, at_5, ix_5, at_6, ix_6, at_7, ix_7, at_8, ix_8, at_9, ix_9, at_10, ix_10, at_11, ix_11, rs_ref, rs_non, rs_bl, rs_int, rs_str, rs_tup, rs_scr, rs_lst, rs_dct, rs_ins, isL, atKs, atVs, gName, enS, List.map_cons, List.map_nil, List.length_cons, List.length_nil, List.cons_append, List.nil_append, List.getElem?_cons_succ, List.getElem?_cons_zero, List.set_cons_succ, List.set_cons_zero, List.replicate, Nat.reduceSub, Nat.reduceAdd, List.getD_cons_zero, List.getD_cons_succ, gTup, gAll, Option.bind_some, isTy, List.any_cons, List.any_nil, Bool.or_false, Bool.false_or, Bool.true_or, Bool.or_true, D.isNon, true_and, Bool.not_true, Bool.not_false, perm, Int.reduceToNat, Nat.reduceLT, Option.map_some, Nat.zero_lt_succ, decide_true, decide_false, Nat.lt_add_left_iff_pos, Nat.lt_add_one]
  have e1 : (decide (Ty.int = Ty.int)) = true := rfl
  refine itp_d (fun hh => ?_) fun hh => ?_
  · simp only [wp_ok, wp_ex, wp_no, wp_bind, wp_bindS, wp_noX, slp_v, slp_o, rtp_v, rtp_o, kdp_fz, kdp_fl, kdp_fi, intp_i, blp_b, trp_b, trp_i, trp_l, trp_t, trp_n, optp_s, itp_t, itp_f, itp_nd, itp_ne, lsp_l, nbp_fz, nbp_fr, typ_int, typ_bl, typ_str, typ_non, typ_lst, typ_tup, icp_ins, icp_int, icp_bl, icp_str, icp_non, icp_lst, icp_tup, zpp_l, zpp_t, prp_i, w_var, w_cst, fzp_fz, fzp_fr, w_fzd, w_nil, w_cons, w_bin, w_idx, w_neg, o_add, o_sub, o_mul, o_fdiv, o_mod, o_pow, o_shl, o_shr, o_and, o_or, o_xor, o_eq, o_ne, o_neB, o_lt, o_le, o_gt, o_ge, o_ixl, o_ixt, o_addl, w_tup, w_lst, w_sl, w_eno, w_part, o_sll, o_sls, w_fld, o_fld, w_prop, w_call, w_callK, w_fun1, o_lenl, o_lent, o_listl, o_listt, o_tuplel, o_tuplet, o_int, o_intb, o_abs, o_all, o_any, o_sum, w_is, w_isC, w_isN, w_notN, w_chain, w_tval, w_tand, w_tor, w_tnot, w_yes, w_eand, w_eor, w_enot, w_eif, wkp_s, wk_l, wk_t, wk_r, wk_rl, w_ilist, w_irev, w_ienum, w_range1, w_range2, w_zip, w_comp, s_next, flp_nx, flp_bk, flp_ct, flp_rt, flp_xx, s_seq, s_fz, fr_nil, fr_cons, fr_1, fr_o, fr_v, fr_u, s_set, kd_fz, kd_fl, kd_fi, s_ref, s_asgG, s_par, s_par3, s_ret, s_retV, s_retN, s_drop, s_if, s_no, s_bk, s_ct, s_for, plp_o, plp_r, llp_l, ilp_i, p_putu, s_app, s_put, p_putIu, s_attr, endP_nx, endP_rt, endP_xx, endP_bk, endP_ct, f_fn, f_init, at_0, ix_0, at_1, ix_1, at_2, ix_2, at_3, ix_3, at_4, ix_4, at_5, ix_5, at_6, ix_6, at_7, ix_7, at_8, ix_8, at_9, ix_9, at_10, ix_10, at_11, ix_11, rs_ref, rs_non, rs_bl, rs_int, rs_str, rs_tup, rs_scr, rs_lst, rs_dct, rs_ins, isL, atKs, atVs, gName, enS, List.map_cons, List.map_nil, List.length_cons, List.length_nil, List.cons_append, List.nil_append, List.getElem?_cons_succ, List.getElem?_cons_zero, List.set_cons_succ, List.set_cons_zero, List.replicate, Nat.reduceSub, Nat.reduceAdd, List.getD_cons_zero, List.getD_cons_succ, gTup, gAll, Option.bind_some, isTy, List.any_cons, List.any_nil, Bool.or_false, Bool.false_or, Bool.true_or, Bool.or_true, D.isNon, true_and, Bool.not_true, Bool.not_false, perm, Int.reduceToNat, Nat.reduceLT, Option.map_some, Nat.zero_lt_succ, decide_true, decide_false, Nat.lt_add_left_iff_pos, Nat.lt_add_one]
    rw [decide_eq_true hh]; exact ⟨rfl, trivial⟩
  · simp only [wp_ok, wp_ex, wp_no, wp_bind, wp_bindS, wp_noX, slp_v, slp_o, rtp_v, rtp_o, kdp_fz, kdp_fl, kdp_fi, intp_i, blp_b, trp_b, trp_i, trp_l, trp_t, trp_n, optp_s, itp_t, itp_f, itp_nd, itp_ne, lsp_l, nbp_fz, nbp_fr, typ_int, typ_bl, typ_str, typ_non, typ_lst, typ_tup, icp_ins, icp_int, icp_bl, icp_str, icp_non, icp_lst, icp_tup, zpp_l, zpp_t, prp_i, w_var, w_cst, fzp_fz, fzp_fr, w_fzd, w_nil, w_cons, w_bin, w_idx, w_neg, o_add, o_sub, o_mul, o_fdiv, o_mod, o_pow, o_shl, o_shr, o_and, o_or, o_xor, o_eq, o_ne, o_neB, o_lt, o_le, o_gt, o_ge, o_ixl, o_ixt, o_addl, w_tup, w_lst, w_sl, w_eno, w_part, o_sll, o_sls, w_fld, o_fld, w_prop, w_call, w_callK, w_fun1, o_lenl, o_lent, o_listl, o_listt, o_tuplel, o_tuplet, o_int, o_intb, o_abs, o_all, o_any, o_sum, w_is, w_isC, w_isN, w_notN, w_chain, w_tval, w_tand, w_tor, w_tnot, w_yes, w_eand, w_eor, w_enot, w_eif, wkp_s, wk_l, wk_t, wk_r, wk_rl, w_ilist, w_irev, w_ienum, w_range1, w_range2, w_zip, w_comp, s_next, flp_nx, flp_bk, flp_ct, flp_rt, flp_xx, s_seq, s_fz, fr_nil, fr_cons, fr_1, fr_o, fr_v, fr_u, s_set, kd_fz, kd_fl, kd_fi, s_ref, s_asgG, s_par, s_par3, s_ret, s_retV, s_retN, s_drop, s_if, s_no, s_bk, s_ct, s_for, plp_o, plp_r, llp_l, ilp_i, p_putu, s_app, s_put, p_putIu, s_attr, endP_nx, endP_rt, endP_xx, endP_bk, endP_ct, f_fn, f_init, at_0, ix_0, at_1, ix_1, at_2, ix_2, at_3, ix_3, at_4, ix_4, at_5, ix_5, at_6, ix_6, at_7, ix_7, at_8, ix_8, at_9, ix_9, at_10, ix_10, at_11, ix_11, rs_ref, rs_non, rs_bl, rs_int, rs_str, rs_tup, rs_scr, rs_lst, rs_dct, rs_ins, isL, atKs, atVs, gName, enS, List.map_cons, List.map_nil, List.length_cons, List.length_nil, List.cons_append, List.nil_append, List.getElem?_cons_succ, List.getElem?_cons_zero, List.set_cons_succ, List.set_cons_zero, List.replicate, Nat.reduceSub, Nat.reduceAdd, List.getD_cons_zero, List.getD_cons_succ, gTup, gAll, Option.bind_some, isTy, List.any_cons, List.any_nil, Bool.or_false, Bool.false_or, Bool.true_or, Bool.or_true, D.isNon, true_and, Bool.not_true, Bool.not_false, perm, Int.reduceToNat, Nat.reduceLT, Option.map_some, Nat.zero_lt_succ, decide_true, decide_false, Nat.lt_add_left_iff_pos, Nat.lt_add_one]
    rw [decide_eq_false hh]; exact ⟨rfl, trivial⟩
theorem like_int (n : Nat) (a b : Int) : (w__law_like (n + 1) [.int a, .int b] st).Wp (fun p st' => p = (.bl (decide (a = b)), .fz) ∧ st' = st) NX := by
  show R.Wp (fnS 4 (b__law_like (w__law_like n)) [.int a, .int b] st) _ _
  rw [f_fn]
  unfold b__law_like
  simp only [wp_ok, wp_ex, wp_no, wp_bind, wp_bindS, wp_noX, slp_v, slp_o, rtp_v, rtp_o, kdp_fz, kdp_fl, kdp_fi, intp_i, blp_b, trp_b, trp_i, trp_l, trp_t, trp_n, optp_s, itp_t, itp_f, itp_nd, itp_ne, lsp_l, nbp_fz, nbp_fr, typ_int, typ_bl, typ_str, typ_non, typ_lst, typ_tup, icp_ins, icp_int, icp_bl, icp_str, icp_non, icp_lst, icp_tup, zpp_l, zpp_t, prp_i, w_var, w_cst, fzp_fz, fzp_fr, w_fzd, w_nil, w_cons, w_bin, w_idx, w_neg, o_add, o_sub, o_mul, o_fdiv, o_mod, o_pow, o_shl, o_shr, o_and, o_or, o_xor, o_eq, o_ne, o_neB, o_lt, o_le, o_gt, o_ge, o_ixl, o_ixt, o_addl, w_tup, w_lst, w_sl, w_eno, w_part, o_sll, o_sls, w_fld, o_fld, w_prop, w_call, w_callK, w_fun1, o_lenl, o_lent, o_listl, o_listt, o_tuplel, o_tuplet, o_int, o_intb, o_abs, o_all, o_any, o_sum, w_is, w_isC, w_isN, w_notN, w_chain, w_tval, w_tand, w_tor, w_tnot, w_yes, w_eand, w_eor, w_enot, w_eif, wkp_s, wk_l, wk_t, wk_r, wk_rl, w_ilist, w_irev, w_ienum, w_range1, w_range2, w_zip, w_comp, s_next, flp_nx, flp_bk, flp_ct, flp_rt, flp_xx, s_seq, s_fz, fr_nil, fr_cons, fr_1, fr_o, fr_v, fr_u, s_set, kd_fz, kd_fl, kd_fi, s_ref, s_asgG, s_par, s_par3, s_ret, s_retV, s_retN, s_drop, s_if, s_no, s_bk, s_ct, s_for, plp_o, plp_r, llp_l, ilp_i, p_putu, s_app, s_put, p_putIu, s_attr, endP_nx, endP_rt, endP_xx, endP_bk, endP_ct, f_fn, f_init, at_0, ix_0, at_1, ix_1, at_2, ix_2, at_3, ix_3, at_4, ix_4, at_5, ix_5, at_6, ix_6, at_7, ix_7, at_8, ix_8, at_9, ix_9, at_10, ix_10, at_11, ix_11, rs_ref, rs_non, rs_bl, rs_int, rs_str, rs_tup, rs_scr, rs_lst, rs_dct, rs_ins, isL, atKs, atVs, gName, enS, List.map_cons, List.map_nil, List.length_cons, List.length_nil, List.cons_append, List.nil_append, List.getElem?_cons_succ, List.getElem?_cons_zero, List.set_cons_succ, List.set_cons_zero, List.replicate, Nat.reduceSub, Nat.reduceAdd, List.getD_cons_zero, List.getD_cons_succ, gTup, gAll, Option.bind_some, isTy, List.any_cons, List.any_nil, Bool.or_false, Bool.false_or, Bool.true_or, Bool.or_true, D.isNon, true_and, Bool.not_true, Bool.not_false, perm, Int.reduceToNat, Nat.reduceLT, Option.map_some, Nat.zero_lt_succ, decide_true, decide_false, Nat.lt_add_left_iff_pos, Nat.lt_add_one]
theorem like_two (n : Nat) (a b c d : Int) (h1 : a = c) (h2 : b = d) : (w__law_like (n + 2) [.lst [.int a, .int b], .lst [.int c, .int d]] st).Wp (fun p st' => p = (.bl true, .fz) ∧ st' = st) NX := by
  subst h1 h2
  show R.Wp (fnS 4 (b__law_like (w__law_like (n + 1))) [.lst [.int a, .int b], .lst [.int a, .int b]] st) _ _
  rw [f_fn]
  unfold b__law_like
  simp only [wp_ok, wp_ex, wp_no, wp_bind, wp_bindS, wp_noX, slp_v, slp_o, rtp_v, rtp_o, kdp_fz, kdp_fl, kdp_fi, intp_i, blp_b, trp_b, trp_i, trp_l, trp_t, trp_n, optp_s, itp_t, itp_f, itp_nd, itp_ne, lsp_l, nbp_fz, nbp_fr, typ_int, typ_bl, typ_str, typ_non, typ_lst, typ_tup, icp_ins, icp_int, icp_bl, icp_str, icp_non, icp_lst, icp_tup, zpp_l, zpp_t, prp_i, w_var, w_cst, fzp_fz, fzp_fr, w_fzd, w_nil, w_cons, w_bin, w_idx, w_neg, o_add, o_sub, o_mul, o_fdiv, o_mod, o_pow, o_shl, o_shr, o_and, o_or, o_xor, o_eq, o_ne, o_neB, o_lt, o_le, o_gt, o_ge, o_ixl, o_ixt, o_addl, w_tup, w_lst, w_sl, w_eno, w_part, o_sll, o_sls, w_fld, o_fld, w_prop, w_call, w_callK, w_fun1, o_lenl, o_lent, o_listl, o_listt, o_tuplel, o_tuplet, o_int, o_intb, o_abs, o_all, o_any, o_sum, w_is, w_isC, w_isN, w_notN, w_chain, w_tval, w_tand, w_tor, w_tnot, w_yes, w_eand, w_eor, w_enot, w_eif, wkp_s, wk_l, wk_t, wk_r, wk_rl, w_ilist, w_irev, w_ienum, w_range1, w_range2, w_zip, w_comp, s_next, flp_nx, flp_bk, flp_ct, flp_rt, flp_xx, s_seq, s_fz, fr_nil, fr_cons, fr_1, fr_o, fr_v, fr_u, s_set, kd_fz, kd_fl, kd_fi, s_ref, s_asgG, s_par, s_par3, s_ret, s_retV, s_retN, s_drop, s_if, s_no, s_bk, s_ct, s_for, plp_o, plp_r, llp_l, ilp_i, p_putu, s_app, s_put, p_putIu, s_attr, endP_nx, endP_rt, endP_xx, endP_bk, endP_ct, f_fn, f_init, at_0, ix_0, at_1, ix_1, at_2, ix_2, at_3, ix_3, at_4, ix_4, at_5, ix_5, at_6, ix_6, at_7, ix_7, at_8, ix_8, at_9, ix_9, at_10, ix_10, at_11, ix_11, rs_ref, rs_non, rs_bl, rs_int, rs_str, rs_tup, rs_scr, rs_lst, rs_dct, rs_ins, isL, atKs, atVs, gName, enS, List.map_cons, List.map_nil, List.length_cons, List.length_nil, List.cons_append, List.nil_append, List.getElem?_cons_succ, List.getElem?_cons_zero, List.set_cons_succ, List.set_cons_zero, List.replicate, Nat.reduceSub, Nat.reduceAdd, List.getD_cons_zero, List.getD_cons_succ, gTup, gAll, Option.bind_some, isTy, List.any_cons, List.any_nil, Bool.or_false, Bool.false_or, Bool.true_or, Bool.or_true, D.isNon, true_and, Bool.not_true, Bool.not_false, perm, Int.reduceToNat, Nat.reduceLT, Option.map_some, Nat.zero_lt_succ, decide_true, decide_false, Nat.lt_add_left_iff_pos, Nat.lt_add_one]
  refine comp_map (fun _ => .bl true) (by show (2 : Nat) ≤ maxLen; decide) (fun d hd => ?_) ?_
  · have hd : d ∈ [D.tup [.int a, .int a], D.tup [.int b, .int b]] := hd
    simp only [List.mem_cons, List.not_mem_nil, or_false] at hd
    rcases hd with rfl | rfl
    · refine ⟨_, rfl, ?_⟩
      simp only [wp_ok, wp_ex, wp_no, wp_bind, wp_bindS, wp_noX, slp_v, slp_o, rtp_v, rtp_o, kdp_fz, kdp_fl, kdp_fi, intp_i, blp_b, trp_b, trp_i, trp_l, trp_t, trp_n, optp_s, itp_t, itp_f, itp_nd, itp_ne, lsp_l, nbp_fz, nbp_fr, typ_int, typ_bl, typ_str, typ_non, typ_lst, typ_tup, icp_ins, icp_int, icp_bl, icp_str, icp_non, icp_lst, icp_tup, zpp_l, zpp_t, prp_i, w_var, w_cst, fzp_fz, fzp_fr, w_fzd, w_nil, w_cons, w_bin, w_idx, w_neg, o_add, o_sub, o_mul, o_fdiv, o_mod, o_pow, o_shl, o_shr, o_and, o_or, o_xor, o_eq, o_ne, o_neB, o_lt, o_le, o_gt, o_ge, o_ixl, o_ixt, o_addl, w_tup, w_lst, w_sl, w_eno, w_part, o_sll, o_sls, w_fld, o_fld, w_prop, w_call, w_callK, w_fun1, o_lenl, o_lent, o_listl, o_listt, o_tuplel, o_tuplet, o_int, o_intb, o_abs, o_all, o_any, o_sum, w_is, w_isC, w_isN, w_notN, w_chain, w_tval, w_tand, w_tor, w_tnot, w_yes, w_eand, w_eor, w_enot, w_eif, wkp_s, wk_l, wk_t, wk_r, wk_rl, w_ilist, w_irev, w_ienum, w_range1, w_range2, w_zip, w_comp, s_next, flp_nx, flp_bk, flp_ct, flp_rt, flp_xx, s_seq, s_fz, fr_nil, fr_cons, fr_1, fr_o, fr_v, fr_u, s_set, kd_fz, kd_fl, kd_fi, s_ref, s_asgG, s_par, s_par3, s_ret, s_retV, s_retN, s_drop, s_if, s_no, s_bk, s_ct, s_for, plp_o, plp_r, llp_l, ilp_i, p_putu, s_app, s_put, p_putIu, s_attr, endP_nx, endP_rt, endP_xx, endP_bk, endP_ct, f_fn, f_init, at_0, ix_0, at_1, ix_1, at_2, ix_2, at_3, ix_3, at_4, ix_4, at_5, ix_5, at_6, ix_6, at_7, ix_7, at_8, ix_8, at_9, ix_9, at_10, ix_10, at_11, ix_11, rs_ref, rs_non, rs_bl, rs_int, rs_str, rs_tup, rs_scr, rs_lst, rs_dct, rs_ins, isL, atKs, atVs, gName, enS, List.map_cons, List.map_nil, List.length_cons, List.length_nil, List.cons_append, List.nil_append, List.getElem?_cons_succ, List.getElem?_cons_zero, List.set_cons_succ, List.set_cons_zero, List.replicate, Nat.reduceSub, Nat.reduceAdd, List.getD_cons_zero, List.getD_cons_succ, gTup, gAll, Option.bind_some, isTy, List.any_cons, List.any_nil, Bool.or_false, Bool.false_or, Bool.true_or, Bool.or_true, D.isNon, true_and, Bool.not_true, Bool.not_false, perm, Int.reduceToNat, Nat.reduceLT, Option.map_some, Nat.zero_lt_succ, decide_true, decide_false, Nat.lt_add_left_iff_pos, Nat.lt_add_one, wipeE]
      refine (like_int n a a).imp0 ?_
      rintro _ st' ⟨rfl, rfl⟩
      rw [decide_eq_true rfl]
      exact ⟨rfl, rfl⟩
    · refine ⟨_, rfl, ?_⟩
      simp only [wp_ok, wp_ex, wp_no, wp_bind, wp_bindS, wp_noX, slp_v, slp_o, rtp_v, rtp_o, kdp_fz, kdp_fl, kdp_fi, intp_i, blp_b, trp_b, trp_i, trp_l, trp_t, trp_n, optp_s, itp_t, itp_f, itp_nd, itp_ne, lsp_l, nbp_fz, nbp_fr, typ_int, typ_bl, typ_str, typ_non, typ_lst, typ_tup, icp_ins, icp_int, icp_bl, icp_str, icp_non, icp_lst, icp_tup, zpp_l, zpp_t, prp_i, w_var, w_cst, fzp_fz, fzp_fr, w_fzd, w_nil, w_cons, w_bin, w_idx, w_neg, o_add, o_sub, o_mul, o_fdiv, o_mod, o_pow, o_shl, o_shr, o_and, o_or, o_xor, o_eq, o_ne, o_neB, o_lt, o_le, o_gt, o_ge, o_ixl, o_ixt, o_addl, w_tup, w_lst, w_sl, w_eno, w_part, o_sll, o_sls, w_fld, o_fld, w_prop, w_call, w_callK, w_fun1, o_lenl, o_lent, o_listl, o_listt, o_tuplel, o_tuplet, o_int, o_intb, o_abs, o_all, o_any, o_sum, w_is, w_isC, w_isN, w_notN, w_chain, w_tval, w_tand, w_tor, w_tnot, w_yes, w_eand, w_eor, w_enot, w_eif, wkp_s, wk_l, wk_t, wk_r, wk_rl, w_ilist, w_irev, w_ienum, w_range1, w_range2, w_zip, w_comp, s_next, flp_nx, flp_bk, flp_ct, flp_rt, flp_xx, s_seq, s_fz, fr_nil, fr_cons, fr_1, fr_o, fr_v, fr_u, s_set, kd_fz, kd_fl, kd_fi, s_ref, s_asgG, s_par, s_par3, s_ret, s_retV, s_retN, s_drop, s_if, s_no, s_bk, s_ct, s_for, plp_o, plp_r, llp_l, ilp_i, p_putu, s_app, s_put, p_putIu, s_attr, endP_nx, endP_rt, endP_xx, endP_bk, endP_ct, f_fn, f_init, at_0, ix_0, at_1, ix_1, at_2, ix_2, at_3, ix_3, at_4, ix_4, at_5, ix_5, at_6, ix_6, at_7, ix_7, at_8, ix_8, at_9, ix_9, at_10, ix_10, at_11, ix_11, rs_ref, rs_non, rs_bl, rs_int, rs_str, rs_tup, rs_scr, rs_lst, rs_dct, rs_ins, isL, atKs, atVs, gName, enS, List.map_cons, List.map_nil, List.length_cons, List.length_nil, List.cons_append, List.nil_append, List.getElem?_cons_succ, List.getElem?_cons_zero, List.set_cons_succ, List.set_cons_zero, List.replicate, Nat.reduceSub, Nat.reduceAdd, List.getD_cons_zero, List.getD_cons_succ, gTup, gAll, Option.bind_some, isTy, List.any_cons, List.any_nil, Bool.or_false, Bool.false_or, Bool.true_or, Bool.or_true, D.isNon, true_and, Bool.not_true, Bool.not_false, perm, Int.reduceToNat, Nat.reduceLT, Option.map_some, Nat.zero_lt_succ, decide_true, decide_false, Nat.lt_add_left_iff_pos, Nat.lt_add_one, wipeE]
      refine (like_int n b b).imp0 ?_
      rintro _ st' ⟨rfl, rfl⟩
      rw [decide_eq_true rfl]
      exact ⟨rfl, rfl⟩
  · exact ⟨rfl, rfl⟩
/-- whole of any row -/
def wf (B q : Int) (xs : List Int) : Int := xs.foldr (fun d t => (t * B + d) % q) 0
theorem whole_gen (h : Par l N B s w q g) {d : D} {xs : List Int} {gs : Gd} (hw : walkOf d st = some (xs.map D.int, gs)) (hg : gdOk gs st = true) : (w_whole [d, frame l N B s w q] st).Wp (fun p st' => p = (.int (wf B q xs), .fz) ∧ st' = st) NX := by
  unfold w_whole
  rw [f_fn]
  unfold b_whole
  have := h.q0; have hB := h.B4; have hB2 := h.B6
  simp only [wp_ok, wp_ex, wp_no, wp_bind, wp_bindS, wp_noX, slp_v, slp_o, rtp_v, rtp_o, kdp_fz, kdp_fl, kdp_fi, intp_i, blp_b, trp_b, trp_i, trp_l, trp_t, trp_n, optp_s, itp_t, itp_f, itp_nd, itp_ne, lsp_l, nbp_fz, nbp_fr, typ_int, typ_bl, typ_str, typ_non, typ_lst, typ_tup, icp_ins, icp_int, icp_bl, icp_str, icp_non, icp_lst, icp_tup, zpp_l, zpp_t, prp_i, w_var, w_cst, fzp_fz, fzp_fr, w_fzd, w_nil, w_cons, w_bin, w_idx, w_neg, o_add, o_sub, o_mul, o_fdiv, o_mod, o_pow, o_shl, o_shr, o_and, o_or, o_xor, o_eq, o_ne, o_neB, o_lt, o_le, o_gt, o_ge, o_ixl, o_ixt, o_addl, w_tup, w_lst, w_sl, w_eno, w_part, o_sll, o_sls, w_fld, o_fld, w_prop, w_call, w_callK, w_fun1, o_lenl, o_lent, o_listl, o_listt, o_tuplel, o_tuplet, o_int, o_intb, o_abs, o_all, o_any, o_sum, w_is, w_isC, w_isN, w_notN, w_chain, w_tval, w_tand, w_tor, w_tnot, w_yes, w_eand, w_eor, w_enot, w_eif, wkp_s, wk_l, wk_t, wk_r, wk_rl, w_ilist, w_irev, w_ienum, w_range1, w_range2, w_zip, w_comp, s_next, flp_nx, flp_bk, flp_ct, flp_rt, flp_xx, s_seq, s_fz, fr_nil, fr_cons, fr_1, fr_o, fr_v, fr_u, s_set, kd_fz, kd_fl, kd_fi, s_ref, s_asgG, s_par, s_par3, s_ret, s_retV, s_retN, s_drop, s_if, s_no, s_bk, s_ct, s_for, plp_o, plp_r, llp_l, ilp_i, p_putu, s_app, s_put, p_putIu, s_attr, endP_nx, endP_rt, endP_xx, endP_bk, endP_ct, f_fn, f_init, at_0, ix_0, at_1, ix_1, at_2, ix_2, at_3, ix_3, at_4, ix_4, at_5, ix_5, at_6, ix_6, at_7, ix_7, at_8, ix_8, at_9, ix_9, at_10, ix_10, at_11, ix_11, rs_ref, rs_non, rs_bl, rs_int, rs_str, rs_tup, rs_scr, rs_lst, rs_dct, rs_ins, isL, atKs, atVs, gName, enS, List.map_cons, List.map_nil, List.length_cons, List.length_nil, List.cons_append, List.nil_append, List.getElem?_cons_succ, List.getElem?_cons_zero, List.set_cons_succ, List.set_cons_zero, List.replicate, Nat.reduceSub, Nat.reduceAdd, List.getD_cons_zero, List.getD_cons_succ, gTup, gAll, Option.bind_some, isTy, List.any_cons, List.any_nil, Bool.or_false, Bool.false_or, Bool.true_or, Bool.or_true, D.isNon, true_and, Bool.not_true, Bool.not_false, perm, Int.reduceToNat, Nat.reduceLT, Option.map_some, Nat.zero_lt_succ, decide_true, decide_false, Nat.lt_add_left_iff_pos, Nat.lt_add_one]
  rw [hw]
  simp only [wkp_s]
  refine for_okg (J := fun i ρ st2 => ∃ s3, ρ = [.val d, .val (frame l N B s w q), .val (.int ((xs.reverse.take i).foldl (fun t d => (t * B + d) % q) 0)), s3] ∧ st2 = st) (fun m ρ st2 hj => by obtain ⟨_, _, rfl⟩ := hj; exact hg) ⟨_, rfl, rfl⟩ ?_ ?_
  · rintro i d ρ st2 hd ⟨s3, rfl, rfl⟩
    rw [← List.map_reverse, List.getElem?_map] at hd
    cases hx : xs.reverse[i]? with
    | none => rw [hx] at hd; cases hd
    | some x =>
      rw [hx] at hd
      cases hd
      refine ⟨_, rfl, ?_⟩
      simp only [wp_ok, wp_ex, wp_no, wp_bind, wp_bindS, wp_noX, slp_v, slp_o, rtp_v, rtp_o, kdp_fz, kdp_fl, kdp_fi, intp_i, blp_b, trp_b, trp_i, trp_l, trp_t, trp_n, optp_s, itp_t, itp_f, itp_nd, itp_ne, lsp_l, nbp_fz, nbp_fr, typ_int, typ_bl, typ_str, typ_non, typ_lst, typ_tup, icp_ins, icp_int, icp_bl, icp_str, icp_non, icp_lst, icp_tup, zpp_l, zpp_t, prp_i, w_var, w_cst, fzp_fz, fzp_fr, w_fzd, w_nil, w_cons, w_bin, w_idx, w_neg, o_add, o_sub, o_mul, o_fdiv, o_mod, o_pow, o_shl, o_shr, o_and, o_or, o_xor, o_eq, o_ne, o_neB, o_lt, o_le, o_gt, o_ge, o_ixl, o_ixt, o_addl, w_tup, w_lst, w_sl, w_eno, w_part, o_sll, o_sls, w_fld, o_fld, w_prop, w_call, w_callK, w_fun1, o_lenl, o_lent, o_listl, o_listt, o_tuplel, o_tuplet, o_int, o_intb, o_abs, o_all, o_any, o_sum, w_is, w_isC, w_isN, w_notN, w_chain, w_tval, w_tand, w_tor, w_tnot, w_yes, w_eand, w_eor, w_enot, w_eif, wkp_s, wk_l, wk_t, wk_r, wk_rl, w_ilist, w_irev, w_ienum, w_range1, w_range2, w_zip, w_comp, s_next, flp_nx, flp_bk, flp_ct, flp_rt, flp_xx, s_seq, s_fz, fr_nil, fr_cons, fr_1, fr_o, fr_v, fr_u, s_set, kd_fz, kd_fl, kd_fi, s_ref, s_asgG, s_par, s_par3, s_ret, s_retV, s_retN, s_drop, s_if, s_no, s_bk, s_ct, s_for, plp_o, plp_r, llp_l, ilp_i, p_putu, s_app, s_put, p_putIu, s_attr, endP_nx, endP_rt, endP_xx, endP_bk, endP_ct, f_fn, f_init, at_0, ix_0, at_1, ix_1, at_2, ix_2, at_3, ix_3, at_4, ix_4, at_5, ix_5, at_6, ix_6, at_7, ix_7, at_8, ix_8, at_9, ix_9, at_10, ix_10, at_11, ix_11, rs_ref, rs_non, rs_bl, rs_int, rs_str, rs_tup, rs_scr, rs_lst, rs_dct, rs_ins, isL, atKs, atVs, gName, enS, List.map_cons, List.map_nil, List.length_cons, List.length_nil, List.cons_append, List.nil_append, List.getElem?_cons_succ, List.getElem?_cons_zero, List.set_cons_succ, List.set_cons_zero, List.replicate, Nat.reduceSub, Nat.reduceAdd, List.getD_cons_zero, List.getD_cons_succ, gTup, gAll, Option.bind_some, isTy, List.any_cons, List.any_nil, Bool.or_false, Bool.false_or, Bool.true_or, Bool.or_true, D.isNon, true_and, Bool.not_true, Bool.not_false, perm, Int.reduceToNat, Nat.reduceLT, Option.map_some, Nat.zero_lt_succ, decide_true, decide_false, Nat.lt_add_left_iff_pos, Nat.lt_add_one, rs_frame, prp_frame, fld_base]
      refine ⟨mulOk_r (by omega) (by omega), modulus_ok.imp0 ?_⟩
      rintro _ st' ⟨rfl, rfl⟩
      simp only [wp_ok, wp_ex, wp_no, wp_bind, wp_bindS, wp_noX, slp_v, slp_o, rtp_v, rtp_o, kdp_fz, kdp_fl, kdp_fi, intp_i, blp_b, trp_b, trp_i, trp_l, trp_t, trp_n, optp_s, itp_t, itp_f, itp_nd, itp_ne, lsp_l, nbp_fz, nbp_fr, typ_int, typ_bl, typ_str, typ_non, typ_lst, typ_tup, icp_ins, icp_int, icp_bl, icp_str, icp_non, icp_lst, icp_tup, zpp_l, zpp_t, prp_i, w_var, w_cst, fzp_fz, fzp_fr, w_fzd, w_nil, w_cons, w_bin, w_idx, w_neg, o_add, o_sub, o_mul, o_fdiv, o_mod, o_pow, o_shl, o_shr, o_and, o_or, o_xor, o_eq, o_ne, o_neB, o_lt, o_le, o_gt, o_ge, o_ixl, o_ixt, o_addl, w_tup, w_lst, w_sl, w_eno, w_part, o_sll, o_sls, w_fld, o_fld, w_prop, w_call, w_callK, w_fun1, o_lenl, o_lent, o_listl, o_listt, o_tuplel, o_tuplet, o_int, o_intb, o_abs, o_all, o_any, o_sum, w_is, w_isC, w_isN, w_notN, w_chain, w_tval, w_tand, w_tor, w_tnot, w_yes, w_eand, w_eor, w_enot, w_eif, wkp_s, wk_l, wk_t, wk_r, wk_rl, w_ilist, w_irev, w_ienum, w_range1, w_range2, w_zip, w_comp, s_next, flp_nx, flp_bk, flp_ct, flp_rt, flp_xx, s_seq, s_fz, fr_nil, fr_cons, fr_1, fr_o, fr_v, fr_u, s_set, kd_fz, kd_fl, kd_fi, s_ref, s_asgG, s_par, s_par3, s_ret, s_retV, s_retN, s_drop, s_if, s_no, s_bk, s_ct, s_for, plp_o, plp_r, llp_l, ilp_i, p_putu, s_app, s_put, p_putIu, s_attr, endP_nx, endP_rt, endP_xx, endP_bk, endP_ct, f_fn, f_init, at_0, ix_0, at_1, ix_1, at_2, ix_2, at_3, ix_3, at_4, ix_4, at_5, ix_5, at_6, ix_6, at_7, ix_7, at_8, ix_8, at_9, ix_9, at_10, ix_10, at_11, ix_11, rs_ref, rs_non, rs_bl, rs_int, rs_str, rs_tup, rs_scr, rs_lst, rs_dct, rs_ins, isL, atKs, atVs, gName, enS, List.map_cons, List.map_nil, List.length_cons, List.length_nil, List.cons_append, List.nil_append, List.getElem?_cons_succ, List.getElem?_cons_zero, List.set_cons_succ, List.set_cons_zero, List.replicate, Nat.reduceSub, Nat.reduceAdd, List.getD_cons_zero, List.getD_cons_succ, gTup, gAll, Option.bind_some, isTy, List.any_cons, List.any_nil, Bool.or_false, Bool.false_or, Bool.true_or, Bool.or_true, D.isNon, true_and, Bool.not_true, Bool.not_false, perm, Int.reduceToNat, Nat.reduceLT, Option.map_some, Nat.zero_lt_succ, decide_true, decide_false, Nat.lt_add_left_iff_pos, Nat.lt_add_one]
      refine ⟨h.q0, .val (.int x), ?_, trivial⟩
      rw [List.take_add_one, hx, List.foldl_append]
      rfl
  · rintro ρ st2 ⟨s3, rfl, rfl⟩
    simp only [wp_ok, wp_ex, wp_no, wp_bind, wp_bindS, wp_noX, slp_v, slp_o, rtp_v, rtp_o, kdp_fz, kdp_fl, kdp_fi, intp_i, blp_b, trp_b, trp_i, trp_l, trp_t, trp_n, optp_s, itp_t, itp_f, itp_nd, itp_ne, lsp_l, nbp_fz, nbp_fr, typ_int, typ_bl, typ_str, typ_non, typ_lst, typ_tup, icp_ins, icp_int, icp_bl, icp_str, icp_non, icp_lst, icp_tup, zpp_l, zpp_t, prp_i, w_var, w_cst, fzp_fz, fzp_fr, w_fzd, w_nil, w_cons, w_bin, w_idx, w_neg, o_add, o_sub, o_mul, o_fdiv, o_mod, o_pow, o_shl, o_shr, o_and, o_or, o_xor, o_eq, o_ne, o_neB, o_lt, o_le, o_gt, o_ge, o_ixl, o_ixt, o_addl, w_tup, w_lst, w_sl, w_eno, w_part, o_sll, o_sls, w_fld, o_fld, w_prop, w_call, w_callK, w_fun1, o_lenl, o_lent, o_listl, o_listt, o_tuplel, o_tuplet, o_int, o_intb, o_abs, o_all, o_any, o_sum, w_is, w_isC, w_isN, w_notN, w_chain, w_tval, w_tand, w_tor, w_tnot, w_yes, w_eand, w_eor, w_enot, w_eif, wkp_s, wk_l, wk_t, wk_r, wk_rl, w_ilist, w_irev, w_ienum, w_range1, w_range2, w_zip, w_comp, s_next, flp_nx, flp_bk, flp_ct, flp_rt, flp_xx, s_seq, s_fz, fr_nil, fr_cons, fr_1, fr_o, fr_v, fr_u, s_set, kd_fz, kd_fl, kd_fi, s_ref, s_asgG, s_par, s_par3, s_ret, s_retV, s_retN, s_drop, s_if, s_no, s_bk, s_ct, s_for, plp_o, plp_r, llp_l, ilp_i, p_putu, s_app, s_put, p_putIu, s_attr, endP_nx, endP_rt, endP_xx, endP_bk, endP_ct, f_fn, f_init, at_0, ix_0, at_1, ix_1, at_2, ix_2, at_3, ix_3, at_4, ix_4, at_5, ix_5, at_6, ix_6, at_7, ix_7, at_8, ix_8, at_9, ix_9, at_10, ix_10, at_11, ix_11, rs_ref, rs_non, rs_bl, rs_int, rs_str, rs_tup, rs_scr, rs_lst, rs_dct, rs_ins, isL, atKs, atVs, gName, enS, List.map_cons, List.map_nil, List.length_cons, List.length_nil, List.cons_append, List.nil_append, List.getElem?_cons_succ, List.getElem?_cons_zero, List.set_cons_succ, List.set_cons_zero, List.replicate, Nat.reduceSub, Nat.reduceAdd, List.getD_cons_zero, List.getD_cons_succ, gTup, gAll, Option.bind_some, isTy, List.any_cons, List.any_nil, Bool.or_false, Bool.false_or, Bool.true_or, Bool.or_true, D.isNon, true_and, Bool.not_true, Bool.not_false, perm, Int.reduceToNat, Nat.reduceLT, Option.map_some, Nat.zero_lt_succ, decide_true, decide_false, Nat.lt_add_left_iff_pos, Nat.lt_add_one]
    refine ⟨?_, trivial⟩
    rw [List.length_reverse, List.length_map, ← List.length_reverse, List.take_length, List.foldl_reverse]
    rfl
def cen (q n : Int) : Int := if q / 2 ≤ n % q then n % q - q else n % q
theorem cen_ok (h : Par l N B s w q g) (n : Int) : (w_centered [.int n, frame l N B s w q] st).Wp (fun p st' => p = (.int (cen q n), .fz) ∧ st' = st) NX := by
  unfold w_centered
  rw [f_fn]
  unfold b_centered
  have := h.q0
  simp only [wp_ok, wp_ex, wp_no, wp_bind, wp_bindS, wp_noX, slp_v, slp_o, rtp_v, rtp_o, kdp_fz, kdp_fl, kdp_fi, intp_i, blp_b, trp_b, trp_i, trp_l, trp_t, trp_n, optp_s, itp_t, itp_f, itp_nd, itp_ne, lsp_l, nbp_fz, nbp_fr, typ_int, typ_bl, typ_str, typ_non, typ_lst, typ_tup, icp_ins, icp_int, icp_bl, icp_str, icp_non, icp_lst, icp_tup, zpp_l, zpp_t, prp_i, w_var, w_cst, fzp_fz, fzp_fr, w_fzd, w_nil, w_cons, w_bin, w_idx, w_neg, o_add, o_sub, o_mul, o_fdiv, o_mod, o_pow, o_shl, o_shr, o_and, o_or, o_xor, o_eq, o_ne, o_neB, o_lt, o_le, o_gt, o_ge, o_ixl, o_ixt, o_addl, w_tup, w_lst, w_sl, w_eno, w_part, o_sll, o_sls, w_fld, o_fld, w_prop, w_call, w_callK, w_fun1, o_lenl, o_lent, o_listl, o_listt, o_tuplel, o_tuplet, o_int, o_intb, o_abs, o_all, o_any, o_sum, w_is, w_isC, w_isN, w_notN, w_chain, w_tval, w_tand, w_tor, w_tnot, w_yes, w_eand, w_eor, w_enot, w_eif, wkp_s, wk_l, wk_t, wk_r, wk_rl, w_ilist, w_irev, w_ienum, w_range1, w_range2, w_zip, w_comp, s_next, flp_nx, flp_bk, flp_ct, flp_rt, flp_xx, s_seq, s_fz, fr_nil, fr_cons, fr_1, fr_o, fr_v, fr_u, s_set, kd_fz, kd_fl, kd_fi, s_ref, s_asgG, s_par, s_par3, s_ret, s_retV, s_retN, s_drop, s_if, s_no, s_bk, s_ct, s_for, plp_o, plp_r, llp_l, ilp_i, p_putu, s_app, s_put, p_putIu, s_attr, endP_nx, endP_rt, endP_xx, endP_bk, endP_ct, f_fn, f_init, at_0, ix_0, at_1, ix_1, at_2, ix_2, at_3, ix_3, at_4, ix_4, at_5, ix_5, at_6, ix_6, at_7, ix_7, at_8, ix_8, at_9, ix_9, at_10, ix_10, at_11, ix_11, rs_ref, rs_non, rs_bl, rs_int, rs_str, rs_tup, rs_scr, rs_lst, rs_dct, rs_ins, isL, atKs, atVs, gName, enS, List.map_cons, List.map_nil, List.length_cons, List.length_nil, List.cons_append, List.nil_append, List.getElem?_cons_succ, List.getElem?_cons_zero, List.set_cons_succ, List.set_cons_zero, List.replicate, Nat.reduceSub, Nat.reduceAdd, List.getD_cons_zero, List.getD_cons_succ, gTup, gAll, Option.bind_some, isTy, List.any_cons, List.any_nil, Bool.or_false, Bool.false_or, Bool.true_or, Bool.or_true, D.isNon, true_and, Bool.not_true, Bool.not_false, perm, Int.reduceToNat, Nat.reduceLT, Option.map_some, Nat.zero_lt_succ, decide_true, decide_false, Nat.lt_add_left_iff_pos, Nat.lt_add_one, rs_frame, prp_frame]
  refine modulus_ok.imp0 ?_
  rintro _ st' ⟨rfl, rfl⟩
  simp only [wp_ok, wp_ex, wp_no, wp_bind, wp_bindS, wp_noX, slp_v, slp_o, rtp_v, rtp_o, kdp_fz, kdp_fl, kdp_fi, intp_i, blp_b, trp_b, trp_i, trp_l, trp_t, trp_n, optp_s, itp_t, itp_f, itp_nd, itp_ne, lsp_l, nbp_fz, nbp_fr, typ_int, typ_bl, typ_str, typ_non, typ_lst, typ_tup, icp_ins, icp_int, icp_bl, icp_str, icp_non, icp_lst, icp_tup, zpp_l, zpp_t, prp_i, w_var, w_cst, fzp_fz, fzp_fr, w_fzd, w_nil, w_cons, w_bin, w_idx, w_neg, o_add, o_sub, o_mul, o_fdiv, o_mod, o_pow, o_shl, o_shr, o_and, o_or, o_xor, o_eq, o_ne, o_neB, o_lt, o_le, o_gt, o_ge, o_ixl, o_ixt, o_addl, w_tup, w_lst, w_sl, w_eno, w_part, o_sll, o_sls, w_fld, o_fld, w_prop, w_call, w_callK, w_fun1, o_lenl, o_lent, o_listl, o_listt, o_tuplel, o_tuplet, o_int, o_intb, o_abs, o_all, o_any, o_sum, w_is, w_isC, w_isN, w_notN, w_chain, w_tval, w_tand, w_tor, w_tnot, w_yes, w_eand, w_eor, w_enot, w_eif, wkp_s, wk_l, wk_t, wk_r, wk_rl, w_ilist, w_irev, w_ienum, w_range1, w_range2, w_zip, w_comp, s_next, flp_nx, flp_bk, flp_ct, flp_rt, flp_xx, s_seq, s_fz, fr_nil, fr_cons, fr_1, fr_o, fr_v, fr_u, s_set, kd_fz, kd_fl, kd_fi, s_ref, s_asgG, s_par, s_par3, s_ret, s_retV, s_retN, s_drop, s_if, s_no, s_bk, s_ct, s_for, plp_o, plp_r, llp_l, ilp_i, p_putu, s_app, s_put, p_putIu, s_attr, endP_nx, endP_rt, endP_xx, endP_bk, endP_ct, f_fn, f_init, at_0, ix_0, at_1, ix_1, at_2, ix_2, at_3, ix_3, at_4, ix_4, at_5, ix_5, at_6, ix_6, at_7, ix_7, at_8, ix_8, at_9, ix_9, at_10, ix_10, at_11, ix_11, rs_ref, rs_non, rs_bl, rs_int, rs_str, rs_tup, rs_scr, rs_lst, rs_dct, rs_ins, isL, atKs, atVs, gName, enS, List.map_cons, List.map_nil, List.length_cons, List.length_nil, List.cons_append, List.nil_append, List.getElem?_cons_succ, List.getElem?_cons_zero, List.set_cons_succ, List.set_cons_zero, List.replicate, Nat.reduceSub, Nat.reduceAdd, List.getD_cons_zero, List.getD_cons_succ, gTup, gAll, Option.bind_some, isTy, List.any_cons, List.any_nil, Bool.or_false, Bool.false_or, Bool.true_or, Bool.or_true, D.isNon, true_and, Bool.not_true, Bool.not_false, perm, Int.reduceToNat, Nat.reduceLT, Option.map_some, Nat.zero_lt_succ, decide_true, decide_false, Nat.lt_add_left_iff_pos, Nat.lt_add_one, rs_frame, prp_frame]
  refine ⟨h.q0, modulus_ok.imp0 ?_⟩
  rintro _ st' ⟨rfl, rfl⟩
  simp only [wp_ok, wp_ex, wp_no, wp_bind, wp_bindS, wp_noX, slp_v, slp_o, rtp_v, rtp_o, kdp_fz, kdp_fl, kdp_fi, intp_i, blp_b, trp_b, trp_i, trp_l, trp_t, trp_n, optp_s, itp_t, itp_f, itp_nd, itp_ne, lsp_l, nbp_fz, nbp_fr, typ_int, typ_bl, typ_str, typ_non, typ_lst, typ_tup, icp_ins, icp_int, icp_bl, icp_str, icp_non, icp_lst, icp_tup, zpp_l, zpp_t, prp_i, w_var, w_cst, fzp_fz, fzp_fr, w_fzd, w_nil, w_cons, w_bin, w_idx, w_neg, o_add, o_sub, o_mul, o_fdiv, o_mod, o_pow, o_shl, o_shr, o_and, o_or, o_xor, o_eq, o_ne, o_neB, o_lt, o_le, o_gt, o_ge, o_ixl, o_ixt, o_addl, w_tup, w_lst, w_sl, w_eno, w_part, o_sll, o_sls, w_fld, o_fld, w_prop, w_call, w_callK, w_fun1, o_lenl, o_lent, o_listl, o_listt, o_tuplel, o_tuplet, o_int, o_intb, o_abs, o_all, o_any, o_sum, w_is, w_isC, w_isN, w_notN, w_chain, w_tval, w_tand, w_tor, w_tnot, w_yes, w_eand, w_eor, w_enot, w_eif, wkp_s, wk_l, wk_t, wk_r, wk_rl, w_ilist, w_irev, w_ienum, w_range1, w_range2, w_zip, w_comp, s_next, flp_nx, flp_bk, flp_ct, flp_rt, flp_xx, s_seq, s_fz, fr_nil, fr_cons, fr_1, fr_o, fr_v, fr_u, s_set, kd_fz, kd_fl, kd_fi, s_ref, s_asgG, s_par, s_par3, s_ret, s_retV, s_retN, s_drop, s_if, s_no, s_bk, s_ct, s_for, plp_o, plp_r, llp_l, ilp_i, p_putu, s_app, s_put, p_putIu, s_attr, endP_nx, endP_rt, endP_xx, endP_bk, endP_ct, f_fn, f_init, at_0, ix_0, at_1, ix_1, at_2, ix_2, at_3, ix_3, at_4, ix_4, at_5, ix_5, at_6, ix_6, at_7, ix_7, at_8, ix_8, at_9, ix_9, at_10, ix_10, at_11, ix_11, rs_ref, rs_non, rs_bl, rs_int, rs_str, rs_tup, rs_scr, rs_lst, rs_dct, rs_ins, isL, atKs, atVs, gName, enS, List.map_cons, List.map_nil, List.length_cons, List.length_nil, List.cons_append, List.nil_append, List.getElem?_cons_succ, List.getElem?_cons_zero, List.set_cons_succ, List.set_cons_zero, List.replicate, Nat.reduceSub, Nat.reduceAdd, List.getD_cons_zero, List.getD_cons_succ, gTup, gAll, Option.bind_some, isTy, List.any_cons, List.any_nil, Bool.or_false, Bool.false_or, Bool.true_or, Bool.or_true, D.isNon, true_and, Bool.not_true, Bool.not_false, perm, Int.reduceToNat, Nat.reduceLT, Option.map_some, Nat.zero_lt_succ, decide_true, decide_false, Nat.lt_add_left_iff_pos, Nat.lt_add_one]
  unfold cen
  refine ⟨⟨by decide, by decide⟩, itp_d (fun hh => ?_) fun hh => ?_⟩
  · simp only [wp_ok, wp_ex, wp_no, wp_bind, wp_bindS, wp_noX, slp_v, slp_o, rtp_v, rtp_o, kdp_fz, kdp_fl, kdp_fi, intp_i, blp_b, trp_b, trp_i, trp_l, trp_t, trp_n, optp_s, itp_t, itp_f, itp_nd, itp_ne, lsp_l, nbp_fz, nbp_fr, typ_int, typ_bl, typ_str, typ_non, typ_lst, typ_tup, icp_ins, icp_int, icp_bl, icp_str, icp_non, icp_lst, icp_tup, zpp_l, zpp_t, prp_i, w_var, w_cst, fzp_fz, fzp_fr, w_fzd, w_nil, w_cons, w_bin, w_idx, w_neg, o_add, o_sub, o_mul, o_fdiv, o_mod, o_pow, o_shl, o_shr, o_and, o_or, o_xor, o_eq, o_ne, o_neB, o_lt, o_le, o_gt, o_ge, o_ixl, o_ixt, o_addl, w_tup, w_lst, w_sl, w_eno, w_part, o_sll, o_sls, w_fld, o_fld, w_prop, w_call, w_callK, w_fun1, o_lenl, o_lent, o_listl, o_listt, o_tuplel, o_tuplet, o_int, o_intb, o_abs, o_all, o_any, o_sum, w_is, w_isC, w_isN, w_notN, w_chain, w_tval, w_tand, w_tor, w_tnot, w_yes, w_eand, w_eor, w_enot, w_eif, wkp_s, wk_l, wk_t, wk_r, wk_rl, w_ilist, w_irev, w_ienum, w_range1, w_range2, w_zip, w_comp, s_next, flp_nx, flp_bk, flp_ct, flp_rt, flp_xx, s_seq, s_fz, fr_nil, fr_cons, fr_1, fr_o, fr_v, fr_u, s_set, kd_fz, kd_fl, kd_fi, s_ref, s_asgG, s_par, s_par3, s_ret, s_retV, s_retN, s_drop, s_if, s_no, s_bk, s_ct, s_for, plp_o, plp_r, llp_l, ilp_i, p_putu, s_app, s_put, p_putIu, s_attr, endP_nx, endP_rt, endP_xx, endP_bk, endP_ct, f_fn, f_init, at_0, ix_0, at_1, ix_1, at_2, ix_2, at_3, ix_3, at_4, ix_4, at_5, ix_5, at_6, ix_6, at_7, ix_7, at_8, ix_8, at_9, ix_9, at_10, ix_10, at_11, ix_11, rs_ref, rs_non, rs_bl, rs_int, rs_str, rs_tup, rs_scr, rs_lst, rs_dct, rs_ins, isL, atKs, atVs, gName, enS, List.map_cons, List.map_nil, List.length_cons, List.length_nil, List.cons_append, List.nil_append, List.getElem?_cons_succ, List.getElem?_cons_zero, List.set_cons_succ, List.set_cons_zero, List.replicate, Nat.reduceSub, Nat.reduceAdd, List.getD_cons_zero, List.getD_cons_succ, gTup, gAll, Option.bind_some, isTy, List.any_cons, List.any_nil, Bool.or_false, Bool.false_or, Bool.true_or, Bool.or_true, D.isNon, true_and, Bool.not_true, Bool.not_false, perm, Int.reduceToNat, Nat.reduceLT, Option.map_some, Nat.zero_lt_succ, decide_true, decide_false, Nat.lt_add_left_iff_pos, Nat.lt_add_one, rs_frame, prp_frame]
    refine modulus_ok.imp0 ?_
    rintro _ st' ⟨rfl, rfl⟩
    simp only [wp_ok, wp_ex, wp_no, wp_bind, wp_bindS, wp_noX, slp_v, slp_o, rtp_v, rtp_o, kdp_fz, kdp_fl, kdp_fi, intp_i, blp_b, trp_b, trp_i, trp_l, trp_t, trp_n, optp_s, itp_t, itp_f, itp_nd, itp_ne, lsp_l, nbp_fz, nbp_fr, typ_int, typ_bl, typ_str, typ_non, typ_lst, typ_tup, icp_ins, icp_int, icp_bl, icp_str, icp_non, icp_lst, icp_tup, zpp_l, zpp_t, prp_i, w_var, w_cst, fzp_fz, fzp_fr, w_fzd, w_nil, w_cons, w_bin, w_idx, w_neg, o_add, o_sub, o_mul, o_fdiv, o_mod, o_pow, o_shl, o_shr, o_and, o_or, o_xor, o_eq, o_ne, o_neB, o_lt, o_le, o_gt, o_ge, o_ixl, o_ixt, o_addl, w_tup, w_lst, w_sl, w_eno, w_part, o_sll, o_sls, w_fld, o_fld, w_prop, w_call, w_callK, w_fun1, o_lenl, o_lent, o_listl, o_listt, o_tuplel, o_tuplet, o_int, o_intb, o_abs, o_all, o_any, o_sum, w_is, w_isC, w_isN, w_notN, w_chain, w_tval, w_tand, w_tor, w_tnot, w_yes, w_eand, w_eor, w_enot, w_eif, wkp_s, wk_l, wk_t, wk_r, wk_rl, w_ilist, w_irev, w_ienum, w_range1, w_range2, w_zip, w_comp, s_next, flp_nx, flp_bk, flp_ct, flp_rt, flp_xx, s_seq, s_fz, fr_nil, fr_cons, fr_1, fr_o, fr_v, fr_u, s_set, kd_fz, kd_fl, kd_fi, s_ref, s_asgG, s_par, s_par3, s_ret, s_retV, s_retN, s_drop, s_if, s_no, s_bk, s_ct, s_for, plp_o, plp_r, llp_l, ilp_i, p_putu, s_app, s_put, p_putIu, s_attr, endP_nx, endP_rt, endP_xx, endP_bk, endP_ct, f_fn, f_init, at_0, ix_0, at_1, ix_1, at_2, ix_2, at_3, ix_3, at_4, ix_4, at_5, ix_5, at_6, ix_6, at_7, ix_7, at_8, ix_8, at_9, ix_9, at_10, ix_10, at_11, ix_11, rs_ref, rs_non, rs_bl, rs_int, rs_str, rs_tup, rs_scr, rs_lst, rs_dct, rs_ins, isL, atKs, atVs, gName, enS, List.map_cons, List.map_nil, List.length_cons, List.length_nil, List.cons_append, List.nil_append, List.getElem?_cons_succ, List.getElem?_cons_zero, List.set_cons_succ, List.set_cons_zero, List.replicate, Nat.reduceSub, Nat.reduceAdd, List.getD_cons_zero, List.getD_cons_succ, gTup, gAll, Option.bind_some, isTy, List.any_cons, List.any_nil, Bool.or_false, Bool.false_or, Bool.true_or, Bool.or_true, D.isNon, true_and, Bool.not_true, Bool.not_false, perm, Int.reduceToNat, Nat.reduceLT, Option.map_some, Nat.zero_lt_succ, decide_true, decide_false, Nat.lt_add_left_iff_pos, Nat.lt_add_one]
    rw [if_pos hh]
    exact ⟨rfl, trivial⟩
  · simp only [wp_ok, wp_ex, wp_no, wp_bind, wp_bindS, wp_noX, slp_v, slp_o, rtp_v, rtp_o, kdp_fz, kdp_fl, kdp_fi, intp_i, blp_b, trp_b, trp_i, trp_l, trp_t, trp_n, optp_s, itp_t, itp_f, itp_nd, itp_ne, lsp_l, nbp_fz, nbp_fr, typ_int, typ_bl, typ_str, typ_non, typ_lst, typ_tup, icp_ins, icp_int, icp_bl, icp_str, icp_non, icp_lst, icp_tup, zpp_l, zpp_t, prp_i, w_var, w_cst, fzp_fz, fzp_fr, w_fzd, w_nil, w_cons, w_bin, w_idx, w_neg, o_add, o_sub, o_mul, o_fdiv, o_mod, o_pow, o_shl, o_shr, o_and, o_or, o_xor, o_eq, o_ne, o_neB, o_lt, o_le, o_gt, o_ge, o_ixl, o_ixt, o_addl, w_tup, w_lst, w_sl, w_eno, w_part, o_sll, o_sls, w_fld, o_fld, w_prop, w_call, w_callK, w_fun1, o_lenl, o_lent, o_listl, o_listt, o_tuplel, o_tuplet, o_int, o_intb, o_abs, o_all, o_any, o_sum, w_is, w_isC, w_isN, w_notN, w_chain, w_tval, w_tand, w_tor, w_tnot, w_yes, w_eand, w_eor, w_enot, w_eif, wkp_s, wk_l, wk_t, wk_r, wk_rl, w_ilist, w_irev, w_ienum, w_range1, w_range2, w_zip, w_comp, s_next, flp_nx, flp_bk, flp_ct, flp_rt, flp_xx, s_seq, s_fz, fr_nil, fr_cons, fr_1, fr_o, fr_v, fr_u, s_set, kd_fz, kd_fl, kd_fi, s_ref, s_asgG, s_par, s_par3, s_ret, s_retV, s_retN, s_drop, s_if, s_no, s_bk, s_ct, s_for, plp_o, plp_r, llp_l, ilp_i, p_putu, s_app, s_put, p_putIu, s_attr, endP_nx, endP_rt, endP_xx, endP_bk, endP_ct, f_fn, f_init, at_0, ix_0, at_1, ix_1, at_2, ix_2, at_3, ix_3, at_4, ix_4, at_5, ix_5, at_6, ix_6, at_7, ix_7, at_8, ix_8, at_9, ix_9, at_10, ix_10, at_11, ix_11, rs_ref, rs_non, rs_bl, rs_int, rs_str, rs_tup, rs_scr, rs_lst, rs_dct, rs_ins, isL, atKs, atVs, gName, enS, List.map_cons, List.map_nil, List.length_cons, List.length_nil, List.cons_append, List.nil_append, List.getElem?_cons_succ, List.getElem?_cons_zero, List.set_cons_succ, List.set_cons_zero, List.replicate, Nat.reduceSub, Nat.reduceAdd, List.getD_cons_zero, List.getD_cons_succ, gTup, gAll, Option.bind_some, isTy, List.any_cons, List.any_nil, Bool.or_false, Bool.false_or, Bool.true_or, Bool.or_true, D.isNon, true_and, Bool.not_true, Bool.not_false, perm, Int.reduceToNat, Nat.reduceLT, Option.map_some, Nat.zero_lt_succ, decide_true, decide_false, Nat.lt_add_left_iff_pos, Nat.lt_add_one]
    rw [if_neg hh]
    exact ⟨rfl, trivial⟩
/-! things that are alike -/
def pl : Nat → D → Prop
  | 0, _ => False
  | _ + 1, .int _ => True
  | n + 1, .lst xs => xs.length ≤ maxLen ∧ ∀ x ∈ xs, pl n x
  | n + 1, .tup xs => xs.length ≤ maxLen ∧ ∀ x ∈ xs, pl n x
  | _, _ => False
theorem pairs_same : ∀ xs : List D, pairs xs xs = xs.map fun x => .tup [x, x]
  | [] => rfl
  | x :: xs => by show D.tup [x, x] :: pairs xs xs = _; rw [pairs_same xs]; rfl
theorem all_true {α : Type} : ∀ xs : List α, (xs.map fun _ => D.bl true) = (xs.map fun _ => true).map D.bl
  | [] => rfl
  | x :: xs => by rw [List.map_cons, all_true xs]; rfl
theorem like_same : ∀ (n : Nat) (d : D), pl n d → (w__law_like n [d, d] st).Wp (fun p st' => p = (.bl true, .fz) ∧ st' = st) NX
  | 0, d, h => h.elim
  | n + 1, .int i, h => (like_int n i i).imp fun p st' q => by rw [decide_eq_true rfl] at q; exact q
  | n + 1, .lst xs, h => by
    show R.Wp (fnS 4 (b__law_like (w__law_like n)) [.lst xs, .lst xs] st) _ _
    rw [f_fn]
    unfold b__law_like
    simp only [wp_ok, wp_ex, wp_no, wp_bind, wp_bindS, wp_noX, slp_v, slp_o, rtp_v, rtp_o, kdp_fz, kdp_fl, kdp_fi, intp_i, blp_b, trp_b, trp_i, trp_l, trp_t, trp_n, optp_s, itp_t, itp_f, itp_nd, itp_ne, lsp_l, nbp_fz, nbp_fr, typ_int, typ_bl, typ_str, typ_non, typ_lst, typ_tup, icp_ins, icp_int, icp_bl, icp_str, icp_non, icp_lst, icp_tup, zpp_l, zpp_t, prp_i, w_var, w_cst, fzp_fz, fzp_fr, w_fzd, w_nil, w_cons, w_bin, w_idx, w_neg, o_add, o_sub, o_mul, o_fdiv, o_mod, o_pow, o_shl, o_shr, o_and, o_or, o_xor, o_eq, o_ne, o_neB, o_lt, o_le, o_gt, o_ge, o_ixl, o_ixt, o_addl, w_tup, w_lst, w_sl, w_eno, w_part, o_sll, o_sls, w_fld, o_fld, w_prop, w_call, w_callK, w_fun1, o_lenl, o_lent, o_listl, o_listt, o_tuplel, o_tuplet, o_int, o_intb, o_abs, o_all, o_any, o_sum, w_is, w_isC, w_isN, w_notN, w_chain, w_tval, w_tand, w_tor, w_tnot, w_yes, w_eand, w_eor, w_enot, w_eif, wkp_s, wk_l, wk_t, wk_r, wk_rl, w_ilist, w_irev, w_ienum, w_range1, w_range2, w_zip, w_comp, s_next, flp_nx, flp_bk, flp_ct, flp_rt, flp_xx, s_seq, s_fz, fr_nil, fr_cons, fr_1, fr_o, fr_v, fr_u, s_set, kd_fz, kd_fl, kd_fi, s_ref, s_asgG, s_par, s_par3, s_ret, s_retV, s_retN, s_drop, s_if, s_no, s_bk, s_ct, s_for, plp_o, plp_r, llp_l, ilp_i, p_putu, s_app, s_put, p_putIu, s_attr, endP_nx, endP_rt, endP_xx, endP_bk, endP_ct, f_fn, f_init, at_0, ix_0, at_1, ix_1, at_2, ix_2, at_3, ix_3, at_4, ix_4, at_5, ix_5, at_6, ix_6, at_7, ix_7, at_8, ix_8, at_9, ix_9, at_10, ix_10, at_11, ix_11, rs_ref, rs_non, rs_bl, rs_int, rs_str, rs_tup, rs_scr, rs_lst, rs_dct, rs_ins, isL, atKs, atVs, gName, enS, List.map_cons, List.map_nil, List.length_cons, List.length_nil, List.cons_append, List.nil_append, List.getElem?_cons_succ, List.getElem?_cons_zero, List.set_cons_succ, List.set_cons_zero, List.replicate, Nat.reduceSub, Nat.reduceAdd, List.getD_cons_zero, List.getD_cons_succ, gTup, gAll, Option.bind_some, isTy, List.any_cons, List.any_nil, Bool.or_false, Bool.false_or, Bool.true_or, Bool.or_true, D.isNon, true_and, Bool.not_true, Bool.not_false, perm, Int.reduceToNat, Nat.reduceLT, Option.map_some, Nat.zero_lt_succ, decide_true, decide_false, Nat.lt_add_left_iff_pos, Nat.lt_add_one, decide_true, pairs_same]
    refine comp_map (fun _ => .bl true) (by rw [List.length_map]; exact h.1) (fun d hd => ?_) ?_
    · obtain ⟨x, hx, rfl⟩ := List.mem_map.mp hd
      refine ⟨_, rfl, ?_⟩
      simp only [wp_ok, wp_ex, wp_no, wp_bind, wp_bindS, wp_noX, slp_v, slp_o, rtp_v, rtp_o, kdp_fz, kdp_fl, kdp_fi, intp_i, blp_b, trp_b, trp_i, trp_l, trp_t, trp_n, optp_s, itp_t, itp_f, itp_nd, itp_ne, lsp_l, nbp_fz, nbp_fr, typ_int, typ_bl, typ_str, typ_non, typ_lst, typ_tup, icp_ins, icp_int, icp_bl, icp_str, icp_non, icp_lst, icp_tup, zpp_l, zpp_t, prp_i, w_var, w_cst, fzp_fz, fzp_fr, w_fzd, w_nil, w_cons, w_bin, w_idx, w_neg, o_add, o_sub, o_mul, o_fdiv, o_mod, o_pow, o_shl, o_shr, o_and, o_or, o_xor, o_eq, o_ne, o_neB, o_lt, o_le, o_gt, o_ge, o_ixl, o_ixt, o_addl, w_tup, w_lst, w_sl, w_eno, w_part, o_sll, o_sls, w_fld, o_fld, w_prop, w_call, w_callK, w_fun1, o_lenl, o_lent, o_listl, o_listt, o_tuplel, o_tuplet, o_int, o_intb, o_abs, o_all, o_any, o_sum, w_is, w_isC, w_isN, w_notN, w_chain, w_tval, w_tand, w_tor, w_tnot, w_yes, w_eand, w_eor, w_enot, w_eif, wkp_s, wk_l, wk_t, wk_r, wk_rl, w_ilist, w_irev, w_ienum, w_range1, w_range2, w_zip, w_comp, s_next, flp_nx, flp_bk, flp_ct, flp_rt, flp_xx, s_seq, s_fz, fr_nil, fr_cons, fr_1, fr_o, fr_v, fr_u, s_set, kd_fz, kd_fl, kd_fi, s_ref, s_asgG, s_par, s_par3, s_ret, s_retV, s_retN, s_drop, s_if, s_no, s_bk, s_ct, s_for, plp_o, plp_r, llp_l, ilp_i, p_putu, s_app, s_put, p_putIu, s_attr, endP_nx, endP_rt, endP_xx, endP_bk, endP_ct, f_fn, f_init, at_0, ix_0, at_1, ix_1, at_2, ix_2, at_3, ix_3, at_4, ix_4, at_5, ix_5, at_6, ix_6, at_7, ix_7, at_8, ix_8, at_9, ix_9, at_10, ix_10, at_11, ix_11, rs_ref, rs_non, rs_bl, rs_int, rs_str, rs_tup, rs_scr, rs_lst, rs_dct, rs_ins, isL, atKs, atVs, gName, enS, List.map_cons, List.map_nil, List.length_cons, List.length_nil, List.cons_append, List.nil_append, List.getElem?_cons_succ, List.getElem?_cons_zero, List.set_cons_succ, List.set_cons_zero, List.replicate, Nat.reduceSub, Nat.reduceAdd, List.getD_cons_zero, List.getD_cons_succ, gTup, gAll, Option.bind_some, isTy, List.any_cons, List.any_nil, Bool.or_false, Bool.false_or, Bool.true_or, Bool.or_true, D.isNon, true_and, Bool.not_true, Bool.not_false, perm, Int.reduceToNat, Nat.reduceLT, Option.map_some, Nat.zero_lt_succ, decide_true, decide_false, Nat.lt_add_left_iff_pos, Nat.lt_add_one, wipeE]
      refine (like_same n x (h.2 x hx)).imp0 ?_
      rintro _ st' ⟨rfl, rfl⟩
      exact ⟨rfl, rfl⟩
    · rw [all_true, o_all]
      refine ⟨?_, rfl⟩
      have : ∀ ys : List D, (ys.map fun _ => true).all id = true := fun ys => by
        induction ys with
        | nil => rfl
        | cons y ys ih => rw [List.map_cons, List.all_cons, ih]; rfl
      rw [this]
  | n + 1, .tup xs, h => by
    show R.Wp (fnS 4 (b__law_like (w__law_like n)) [.tup xs, .tup xs] st) _ _
    rw [f_fn]
    unfold b__law_like
    simp only [wp_ok, wp_ex, wp_no, wp_bind, wp_bindS, wp_noX, slp_v, slp_o, rtp_v, rtp_o, kdp_fz, kdp_fl, kdp_fi, intp_i, blp_b, trp_b, trp_i, trp_l, trp_t, trp_n, optp_s, itp_t, itp_f, itp_nd, itp_ne, lsp_l, nbp_fz, nbp_fr, typ_int, typ_bl, typ_str, typ_non, typ_lst, typ_tup, icp_ins, icp_int, icp_bl, icp_str, icp_non, icp_lst, icp_tup, zpp_l, zpp_t, prp_i, w_var, w_cst, fzp_fz, fzp_fr, w_fzd, w_nil, w_cons, w_bin, w_idx, w_neg, o_add, o_sub, o_mul, o_fdiv, o_mod, o_pow, o_shl, o_shr, o_and, o_or, o_xor, o_eq, o_ne, o_neB, o_lt, o_le, o_gt, o_ge, o_ixl, o_ixt, o_addl, w_tup, w_lst, w_sl, w_eno, w_part, o_sll, o_sls, w_fld, o_fld, w_prop, w_call, w_callK, w_fun1, o_lenl, o_lent, o_listl, o_listt, o_tuplel, o_tuplet, o_int, o_intb, o_abs, o_all, o_any, o_sum, w_is, w_isC, w_isN, w_notN, w_chain, w_tval, w_tand, w_tor, w_tnot, w_yes, w_eand, w_eor, w_enot, w_eif, wkp_s, wk_l, wk_t, wk_r, wk_rl, w_ilist, w_irev, w_ienum, w_range1, w_range2, w_zip, w_comp, s_next, flp_nx, flp_bk, flp_ct, flp_rt, flp_xx, s_seq, s_fz, fr_nil, fr_cons, fr_1, fr_o, fr_v, fr_u, s_set, kd_fz, kd_fl, kd_fi, s_ref, s_asgG, s_par, s_par3, s_ret, s_retV, s_retN, s_drop, s_if, s_no, s_bk, s_ct, s_for, plp_o, plp_r, llp_l, ilp_i, p_putu, s_app, s_put, p_putIu, s_attr, endP_nx, endP_rt, endP_xx, endP_bk, endP_ct, f_fn, f_init, at_0, ix_0, at_1, ix_1, at_2, ix_2, at_3, ix_3, at_4, ix_4, at_5, ix_5, at_6, ix_6, at_7, ix_7, at_8, ix_8, at_9, ix_9, at_10, ix_10, at_11, ix_11, rs_ref, rs_non, rs_bl, rs_int, rs_str, rs_tup, rs_scr, rs_lst, rs_dct, rs_ins, isL, atKs, atVs, gName, enS, List.map_cons, List.map_nil, List.length_cons, List.length_nil, List.cons_append, List.nil_append, List.getElem?_cons_succ, List.getElem?_cons_zero, List.set_cons_succ, List.set_cons_zero, List.replicate, Nat.reduceSub, Nat.reduceAdd, List.getD_cons_zero, List.getD_cons_succ, gTup, gAll, Option.bind_some, isTy, List.any_cons, List.any_nil, Bool.or_false, Bool.false_or, Bool.true_or, Bool.or_true, D.isNon, true_and, Bool.not_true, Bool.not_false, perm, Int.reduceToNat, Nat.reduceLT, Option.map_some, Nat.zero_lt_succ, decide_true, decide_false, Nat.lt_add_left_iff_pos, Nat.lt_add_one, decide_true, pairs_same]
    refine comp_map (fun _ => .bl true) (by rw [List.length_map]; exact h.1) (fun d hd => ?_) ?_
    · obtain ⟨x, hx, rfl⟩ := List.mem_map.mp hd
      refine ⟨_, rfl, ?_⟩
      simp only [wp_ok, wp_ex, wp_no, wp_bind, wp_bindS, wp_noX, slp_v, slp_o, rtp_v, rtp_o, kdp_fz, kdp_fl, kdp_fi, intp_i, blp_b, trp_b, trp_i, trp_l, trp_t, trp_n, optp_s, itp_t, itp_f, itp_nd, itp_ne, lsp_l, nbp_fz, nbp_fr, typ_int, typ_bl, typ_str, typ_non, typ_lst, typ_tup, icp_ins, icp_int, icp_bl, icp_str, icp_non, icp_lst, icp_tup, zpp_l, zpp_t, prp_i, w_var, w_cst, fzp_fz, fzp_fr, w_fzd, w_nil, w_cons, w_bin, w_idx, w_neg, o_add, o_sub, o_mul, o_fdiv, o_mod, o_pow, o_shl, o_shr, o_and, o_or, o_xor, o_eq, o_ne, o_neB, o_lt, o_le, o_gt, o_ge, o_ixl, o_ixt, o_addl, w_tup, w_lst, w_sl, w_eno, w_part, o_sll, o_sls, w_fld, o_fld, w_prop, w_call, w_callK, w_fun1, o_lenl, o_lent, o_listl, o_listt, o_tuplel, o_tuplet, o_int, o_intb, o_abs, o_all, o_any, o_sum, w_is, w_isC, w_isN, w_notN, w_chain, w_tval, w_tand, w_tor, w_tnot, w_yes, w_eand, w_eor, w_enot, w_eif, wkp_s, wk_l, wk_t, wk_r, wk_rl, w_ilist, w_irev, w_ienum, w_range1, w_range2, w_zip, w_comp, s_next, flp_nx, flp_bk, flp_ct, flp_rt, flp_xx, s_seq, s_fz, fr_nil, fr_cons, fr_1, fr_o, fr_v, fr_u, s_set, kd_fz, kd_fl, kd_fi, s_ref, s_asgG, s_par, s_par3, s_ret, s_retV, s_retN, s_drop, s_if, s_no, s_bk, s_ct, s_for, plp_o, plp_r, llp_l, ilp_i, p_putu, s_app, s_put, p_putIu, s_attr, endP_nx, endP_rt, endP_xx, endP_bk, endP_ct, f_fn, f_init, at_0, ix_0, at_1, ix_1, at_2, ix_2, at_3, ix_3, at_4, ix_4, at_5, ix_5, at_6, ix_6, at_7, ix_7, at_8, ix_8, at_9, ix_9, at_10, ix_10, at_11, ix_11, rs_ref, rs_non, rs_bl, rs_int, rs_str, rs_tup, rs_scr, rs_lst, rs_dct, rs_ins, isL, atKs, atVs, gName, enS, List.map_cons, List.map_nil, List.length_cons, List.length_nil, List.cons_append, List.nil_append, List.getElem?_cons_succ, List.getElem?_cons_zero, List.set_cons_succ, List.set_cons_zero, List.replicate, Nat.reduceSub, Nat.reduceAdd, List.getD_cons_zero, List.getD_cons_succ, gTup, gAll, Option.bind_some, isTy, List.any_cons, List.any_nil, Bool.or_false, Bool.false_or, Bool.true_or, Bool.or_true, D.isNon, true_and, Bool.not_true, Bool.not_false, perm, Int.reduceToNat, Nat.reduceLT, Option.map_some, Nat.zero_lt_succ, decide_true, decide_false, Nat.lt_add_left_iff_pos, Nat.lt_add_one, wipeE]
      refine (like_same n x (h.2 x hx)).imp0 ?_
      rintro _ st' ⟨rfl, rfl⟩
      exact ⟨rfl, rfl⟩
    · rw [all_true, o_all]
      refine ⟨?_, rfl⟩
      have : ∀ ys : List D, (ys.map fun _ => true).all id = true := fun ys => by
        induction ys with
        | nil => rfl
        | cons y ys ih => rw [List.map_cons, List.all_cons, ih]; rfl
      rw [this]
theorem pl_ints {n : Nat} {xs : List Int} (h : xs.length ≤ maxLen) : pl (n + 2) (.lst (xs.map D.int)) := ⟨by rw [List.length_map]; exact h, fun x hx => by obtain ⟨y, _, rfl⟩ := List.mem_map.mp hx; trivial⟩
end
section
variable {rest st : List D}
theorem of_i {ks : List Int} (hb : Bag rest st) (h0 : ks ≠ []) (h1 : ks.length < 1000) : (w__law_of [.ref 0, .lst (ks.map .int)] st).Wp (fun p st' => ∃ k ∈ ks, p = (.int k, .fz) ∧ Bag rest st') NX := by
  refine (of_ok hb (by simpa using h0) (by simpa using h1)).imp ?_
  rintro _ st' ⟨d, hd, rfl, hb'⟩
  obtain ⟨k, hk, rfl⟩ := List.mem_map.mp hd
  exact ⟨k, hk, rfl, hb'⟩
theorem great_ok (hb : Bag rest st) : (w__law_great [.ref 0] st).Wp (fun p st' => ∃ k : Int, p = (.int k, .fz) ∧ Bag rest st') NX := by
  unfold w__law_great
  rw [f_fn]
  unfold b__law_great
  rw [s_seq]
  simp only [wp_ok, wp_ex, wp_no, wp_bind, wp_bindS, wp_noX, slp_v, slp_o, rtp_v, rtp_o, kdp_fz, kdp_fl, kdp_fi, intp_i, blp_b, trp_b, trp_i, trp_l, trp_t, trp_n, optp_s, itp_t, itp_f, itp_nd, itp_ne, lsp_l, nbp_fz, nbp_fr, typ_int, typ_bl, typ_str, typ_non, typ_lst, typ_tup, icp_ins, icp_int, icp_bl, icp_str, icp_non, icp_lst, icp_tup, zpp_l, zpp_t, prp_i, w_var, w_cst, fzp_fz, fzp_fr, w_fzd, w_nil, w_cons, w_bin, w_idx, w_neg, o_add, o_sub, o_mul, o_fdiv, o_mod, o_pow, o_shl, o_shr, o_and, o_or, o_xor, o_eq, o_ne, o_neB, o_lt, o_le, o_gt, o_ge, o_ixl, o_ixt, o_addl, w_tup, w_lst, w_sl, w_eno, w_part, o_sll, o_sls, w_fld, o_fld, w_prop, w_call, w_callK, w_fun1, o_lenl, o_lent, o_listl, o_listt, o_tuplel, o_tuplet, o_int, o_intb, o_abs, o_all, o_any, o_sum, w_is, w_isC, w_isN, w_notN, w_chain, w_tval, w_tand, w_tor, w_tnot, w_yes, w_eand, w_eor, w_enot, w_eif, wkp_s, wk_l, wk_t, wk_r, wk_rl, w_ilist, w_irev, w_ienum, w_range1, w_range2, w_zip, w_comp, s_next, flp_nx, flp_bk, flp_ct, flp_rt, flp_xx, s_fz, fr_nil, fr_cons, fr_1, fr_o, fr_v, fr_u, s_set, kd_fz, kd_fl, kd_fi, s_ref, s_asgG, s_par, s_par3, s_ret, s_retV, s_retN, s_drop, s_no, s_bk, s_ct, plp_o, plp_r, llp_l, ilp_i, p_putu, s_app, s_put, p_putIu, s_attr, endP_nx, endP_rt, endP_xx, endP_bk, endP_ct, f_fn, f_init, at_0, ix_0, at_1, ix_1, at_2, ix_2, at_3, ix_3, at_4, ix_4, at_5, ix_5, at_6, ix_6, at_7, ix_7, at_8, ix_8, at_9, ix_9, at_10, ix_10, at_11, ix_11, rs_ref, rs_non, rs_bl, rs_int, rs_str, rs_tup, rs_scr, rs_lst, rs_dct, rs_ins, isL, atKs, atVs, gName, enS, List.map_cons, List.map_nil, List.length_cons, List.length_nil, List.cons_append, List.nil_append, List.getElem?_cons_succ, List.getElem?_cons_zero, List.set_cons_succ, List.set_cons_zero, List.replicate, Nat.reduceSub, Nat.reduceAdd, List.getD_cons_zero, List.getD_cons_succ, gTup, gAll, Option.bind_some, isTy, List.any_cons, List.any_nil, Bool.or_false, Bool.false_or, Bool.true_or, Bool.or_true, D.isNon, true_and, Bool.not_true, Bool.not_false, perm, Int.reduceToNat, Nat.reduceLT, Option.map_some, Nat.zero_lt_succ, decide_true, decide_false, Nat.lt_add_left_iff_pos, Nat.lt_add_one]
  rw [s_seq]
  refine R.Wp.imp (P := fun (f : Fl) st1 => ∃ x s2, f = .nx [.val (.ref 0), .val (.int x), s2] ∧ Bag rest st1) ?_ ?_
  · simp only [wp_ok, wp_ex, wp_no, wp_bind, wp_bindS, wp_noX, slp_v, slp_o, rtp_v, rtp_o, kdp_fz, kdp_fl, kdp_fi, intp_i, blp_b, trp_b, trp_i, trp_l, trp_t, trp_n, optp_s, itp_t, itp_f, itp_nd, itp_ne, lsp_l, nbp_fz, nbp_fr, typ_int, typ_bl, typ_str, typ_non, typ_lst, typ_tup, icp_ins, icp_int, icp_bl, icp_str, icp_non, icp_lst, icp_tup, zpp_l, zpp_t, prp_i, w_var, w_cst, fzp_fz, fzp_fr, w_fzd, w_nil, w_cons, w_bin, w_idx, w_neg, o_add, o_sub, o_mul, o_fdiv, o_mod, o_pow, o_shl, o_shr, o_and, o_or, o_xor, o_eq, o_ne, o_neB, o_lt, o_le, o_gt, o_ge, o_ixl, o_ixt, o_addl, w_tup, w_lst, w_sl, w_eno, w_part, o_sll, o_sls, w_fld, o_fld, w_prop, w_call, w_callK, w_fun1, o_lenl, o_lent, o_listl, o_listt, o_tuplel, o_tuplet, o_int, o_intb, o_abs, o_all, o_any, o_sum, w_is, w_isC, w_isN, w_notN, w_chain, w_tval, w_tand, w_tor, w_tnot, w_yes, w_eand, w_eor, w_enot, w_eif, wkp_s, wk_l, wk_t, wk_r, wk_rl, w_ilist, w_irev, w_ienum, w_range1, w_range2, w_zip, w_comp, s_next, flp_nx, flp_bk, flp_ct, flp_rt, flp_xx, s_seq, s_fz, fr_nil, fr_cons, fr_1, fr_o, fr_v, fr_u, s_set, kd_fz, kd_fl, kd_fi, s_ref, s_asgG, s_par, s_par3, s_ret, s_retV, s_retN, s_drop, s_if, s_no, s_bk, s_ct, s_for, plp_o, plp_r, llp_l, ilp_i, p_putu, s_app, s_put, p_putIu, s_attr, endP_nx, endP_rt, endP_xx, endP_bk, endP_ct, f_fn, f_init, at_0, ix_0, at_1, ix_1, at_2, ix_2, at_3, ix_3, at_4, ix_4, at_5, ix_5, at_6, ix_6, at_7, ix_7, at_8, ix_8, at_9, ix_9, at_10, ix_10, at_11, ix_11, rs_ref, rs_non, rs_bl, rs_int, rs_str, rs_tup, rs_scr, rs_lst, rs_dct, rs_ins, isL, atKs, atVs, gName, enS, List.map_cons, List.map_nil, List.length_cons, List.length_nil, List.cons_append, List.nil_append, List.getElem?_cons_succ, List.getElem?_cons_zero, List.set_cons_succ, List.set_cons_zero, List.replicate, Nat.reduceSub, Nat.reduceAdd, List.getD_cons_zero, List.getD_cons_succ, gTup, gAll, Option.bind_some, isTy, List.any_cons, List.any_nil, Bool.or_false, Bool.false_or, Bool.true_or, Bool.or_true, D.isNon, true_and, Bool.not_true, Bool.not_false, perm, Int.reduceToNat, Nat.reduceLT, Option.map_some, Nat.zero_lt_succ, decide_true, decide_false, Nat.lt_add_left_iff_pos, Nat.lt_add_one]
    refine ⟨by show (3 : Nat) ≤ maxLen; decide, (of_i (ks := [1, 2, 7]) hb (by simp) (by decide)).imp0 ?_⟩
    rintro _ st1 ⟨k, hk, rfl, hb1⟩
    simp only [wp_ok, wp_ex, wp_no, wp_bind, wp_bindS, wp_noX, slp_v, slp_o, rtp_v, rtp_o, kdp_fz, kdp_fl, kdp_fi, intp_i, blp_b, trp_b, trp_i, trp_l, trp_t, trp_n, optp_s, itp_t, itp_f, itp_nd, itp_ne, lsp_l, nbp_fz, nbp_fr, typ_int, typ_bl, typ_str, typ_non, typ_lst, typ_tup, icp_ins, icp_int, icp_bl, icp_str, icp_non, icp_lst, icp_tup, zpp_l, zpp_t, prp_i, w_var, w_cst, fzp_fz, fzp_fr, w_fzd, w_nil, w_cons, w_bin, w_idx, w_neg, o_add, o_sub, o_mul, o_fdiv, o_mod, o_pow, o_shl, o_shr, o_and, o_or, o_xor, o_eq, o_ne, o_neB, o_lt, o_le, o_gt, o_ge, o_ixl, o_ixt, o_addl, w_tup, w_lst, w_sl, w_eno, w_part, o_sll, o_sls, w_fld, o_fld, w_prop, w_call, w_callK, w_fun1, o_lenl, o_lent, o_listl, o_listt, o_tuplel, o_tuplet, o_int, o_intb, o_abs, o_all, o_any, o_sum, w_is, w_isC, w_isN, w_notN, w_chain, w_tval, w_tand, w_tor, w_tnot, w_yes, w_eand, w_eor, w_enot, w_eif, wkp_s, wk_l, wk_t, wk_r, wk_rl, w_ilist, w_irev, w_ienum, w_range1, w_range2, w_zip, w_comp, s_next, flp_nx, flp_bk, flp_ct, flp_rt, flp_xx, s_seq, s_fz, fr_nil, fr_cons, fr_1, fr_o, fr_v, fr_u, s_set, kd_fz, kd_fl, kd_fi, s_ref, s_asgG, s_par, s_par3, s_ret, s_retV, s_retN, s_drop, s_if, s_no, s_bk, s_ct, s_for, plp_o, plp_r, llp_l, ilp_i, p_putu, s_app, s_put, p_putIu, s_attr, endP_nx, endP_rt, endP_xx, endP_bk, endP_ct, f_fn, f_init, at_0, ix_0, at_1, ix_1, at_2, ix_2, at_3, ix_3, at_4, ix_4, at_5, ix_5, at_6, ix_6, at_7, ix_7, at_8, ix_8, at_9, ix_9, at_10, ix_10, at_11, ix_11, rs_ref, rs_non, rs_bl, rs_int, rs_str, rs_tup, rs_scr, rs_lst, rs_dct, rs_ins, isL, atKs, atVs, gName, enS, List.map_cons, List.map_nil, List.length_cons, List.length_nil, List.cons_append, List.nil_append, List.getElem?_cons_succ, List.getElem?_cons_zero, List.set_cons_succ, List.set_cons_zero, List.replicate, Nat.reduceSub, Nat.reduceAdd, List.getD_cons_zero, List.getD_cons_succ, gTup, gAll, Option.bind_some, isTy, List.any_cons, List.any_nil, Bool.or_false, Bool.false_or, Bool.true_or, Bool.or_true, D.isNon, true_and, Bool.not_true, Bool.not_false, perm, Int.reduceToNat, Nat.reduceLT, Option.map_some, Nat.zero_lt_succ, decide_true, decide_false, Nat.lt_add_left_iff_pos, Nat.lt_add_one]
    have hs : smallI k = true := by
      simp only [List.mem_cons, List.not_mem_nil, or_false] at hk
      rcases hk with rfl | rfl | rfl <;> decide
    refine ⟨hs, for_ok (J := fun i ρ st' => ∃ x s2, ρ = [.val (.ref 0), .val (.int x), s2] ∧ Bag rest st') ⟨_, _, rfl, hb1⟩ ?_ ?_⟩
    · rintro i d ρ st2 hd ⟨x, s2, rfl, hb2⟩
      refine ⟨_, rfl, ?_⟩
      simp only [wp_ok, wp_ex, wp_no, wp_bind, wp_bindS, wp_noX, slp_v, slp_o, rtp_v, rtp_o, kdp_fz, kdp_fl, kdp_fi, intp_i, blp_b, trp_b, trp_i, trp_l, trp_t, trp_n, optp_s, itp_t, itp_f, itp_nd, itp_ne, lsp_l, nbp_fz, nbp_fr, typ_int, typ_bl, typ_str, typ_non, typ_lst, typ_tup, icp_ins, icp_int, icp_bl, icp_str, icp_non, icp_lst, icp_tup, zpp_l, zpp_t, prp_i, w_var, w_cst, fzp_fz, fzp_fr, w_fzd, w_nil, w_cons, w_bin, w_idx, w_neg, o_add, o_sub, o_mul, o_fdiv, o_mod, o_pow, o_shl, o_shr, o_and, o_or, o_xor, o_eq, o_ne, o_neB, o_lt, o_le, o_gt, o_ge, o_ixl, o_ixt, o_addl, w_tup, w_lst, w_sl, w_eno, w_part, o_sll, o_sls, w_fld, o_fld, w_prop, w_call, w_callK, w_fun1, o_lenl, o_lent, o_listl, o_listt, o_tuplel, o_tuplet, o_int, o_intb, o_abs, o_all, o_any, o_sum, w_is, w_isC, w_isN, w_notN, w_chain, w_tval, w_tand, w_tor, w_tnot, w_yes, w_eand, w_eor, w_enot, w_eif, wkp_s, wk_l, wk_t, wk_r, wk_rl, w_ilist, w_irev, w_ienum, w_range1, w_range2, w_zip, w_comp, s_next, flp_nx, flp_bk, flp_ct, flp_rt, flp_xx, s_seq, s_fz, fr_nil, fr_cons, fr_1, fr_o, fr_v, fr_u, s_set, kd_fz, kd_fl, kd_fi, s_ref, s_asgG, s_par, s_par3, s_ret, s_retV, s_retN, s_drop, s_if, s_no, s_bk, s_ct, s_for, plp_o, plp_r, llp_l, ilp_i, p_putu, s_app, s_put, p_putIu, s_attr, endP_nx, endP_rt, endP_xx, endP_bk, endP_ct, f_fn, f_init, at_0, ix_0, at_1, ix_1, at_2, ix_2, at_3, ix_3, at_4, ix_4, at_5, ix_5, at_6, ix_6, at_7, ix_7, at_8, ix_8, at_9, ix_9, at_10, ix_10, at_11, ix_11, rs_ref, rs_non, rs_bl, rs_int, rs_str, rs_tup, rs_scr, rs_lst, rs_dct, rs_ins, isL, atKs, atVs, gName, enS, List.map_cons, List.map_nil, List.length_cons, List.length_nil, List.cons_append, List.nil_append, List.getElem?_cons_succ, List.getElem?_cons_zero, List.set_cons_succ, List.set_cons_zero, List.replicate, Nat.reduceSub, Nat.reduceAdd, List.getD_cons_zero, List.getD_cons_succ, gTup, gAll, Option.bind_some, isTy, List.any_cons, List.any_nil, Bool.or_false, Bool.false_or, Bool.true_or, Bool.or_true, D.isNon, true_and, Bool.not_true, Bool.not_false, perm, Int.reduceToNat, Nat.reduceLT, Option.map_some, Nat.zero_lt_succ, decide_true, decide_false, Nat.lt_add_left_iff_pos, Nat.lt_add_one]
      refine ⟨⟨by decide, by decide, by decide⟩, mulOk_r (by decide) (by decide), ⟨by decide, by decide, by decide⟩, (draw_ok hb2 (by decide) (big_of (by decide))).imp0 ?_⟩
      rintro _ st3 ⟨r, rfl, _, _, hb3⟩
      simp only [wp_ok, wp_ex, wp_no, wp_bind, wp_bindS, wp_noX, slp_v, slp_o, rtp_v, rtp_o, kdp_fz, kdp_fl, kdp_fi, intp_i, blp_b, trp_b, trp_i, trp_l, trp_t, trp_n, optp_s, itp_t, itp_f, itp_nd, itp_ne, lsp_l, nbp_fz, nbp_fr, typ_int, typ_bl, typ_str, typ_non, typ_lst, typ_tup, icp_ins, icp_int, icp_bl, icp_str, icp_non, icp_lst, icp_tup, zpp_l, zpp_t, prp_i, w_var, w_cst, fzp_fz, fzp_fr, w_fzd, w_nil, w_cons, w_bin, w_idx, w_neg, o_add, o_sub, o_mul, o_fdiv, o_mod, o_pow, o_shl, o_shr, o_and, o_or, o_xor, o_eq, o_ne, o_neB, o_lt, o_le, o_gt, o_ge, o_ixl, o_ixt, o_addl, w_tup, w_lst, w_sl, w_eno, w_part, o_sll, o_sls, w_fld, o_fld, w_prop, w_call, w_callK, w_fun1, o_lenl, o_lent, o_listl, o_listt, o_tuplel, o_tuplet, o_int, o_intb, o_abs, o_all, o_any, o_sum, w_is, w_isC, w_isN, w_notN, w_chain, w_tval, w_tand, w_tor, w_tnot, w_yes, w_eand, w_eor, w_enot, w_eif, wkp_s, wk_l, wk_t, wk_r, wk_rl, w_ilist, w_irev, w_ienum, w_range1, w_range2, w_zip, w_comp, s_next, flp_nx, flp_bk, flp_ct, flp_rt, flp_xx, s_seq, s_fz, fr_nil, fr_cons, fr_1, fr_o, fr_v, fr_u, s_set, kd_fz, kd_fl, kd_fi, s_ref, s_asgG, s_par, s_par3, s_ret, s_retV, s_retN, s_drop, s_if, s_no, s_bk, s_ct, s_for, plp_o, plp_r, llp_l, ilp_i, p_putu, s_app, s_put, p_putIu, s_attr, endP_nx, endP_rt, endP_xx, endP_bk, endP_ct, f_fn, f_init, at_0, ix_0, at_1, ix_1, at_2, ix_2, at_3, ix_3, at_4, ix_4, at_5, ix_5, at_6, ix_6, at_7, ix_7, at_8, ix_8, at_9, ix_9, at_10, ix_10, at_11, ix_11, rs_ref, rs_non, rs_bl, rs_int, rs_str, rs_tup, rs_scr, rs_lst, rs_dct, rs_ins, isL, atKs, atVs, gName, enS, List.map_cons, List.map_nil, List.length_cons, List.length_nil, List.cons_append, List.nil_append, List.getElem?_cons_succ, List.getElem?_cons_zero, List.set_cons_succ, List.set_cons_zero, List.replicate, Nat.reduceSub, Nat.reduceAdd, List.getD_cons_zero, List.getD_cons_succ, gTup, gAll, Option.bind_some, isTy, List.any_cons, List.any_nil, Bool.or_false, Bool.false_or, Bool.true_or, Bool.or_true, D.isNon, true_and, Bool.not_true, Bool.not_false, perm, Int.reduceToNat, Nat.reduceLT, Option.map_some, Nat.zero_lt_succ, decide_true, decide_false, Nat.lt_add_left_iff_pos, Nat.lt_add_one]
      exact ⟨_, _, rfl, hb3⟩
    · rintro ρ st2 ⟨x, s2, rfl, hb2⟩
      exact ⟨_, _, rfl, hb2⟩
  · rintro _ st1 ⟨x, s2, rfl, hb1⟩
    simp only [wp_ok, wp_ex, wp_no, wp_bind, wp_bindS, wp_noX, slp_v, slp_o, rtp_v, rtp_o, kdp_fz, kdp_fl, kdp_fi, intp_i, blp_b, trp_b, trp_i, trp_l, trp_t, trp_n, optp_s, itp_t, itp_f, itp_nd, itp_ne, lsp_l, nbp_fz, nbp_fr, typ_int, typ_bl, typ_str, typ_non, typ_lst, typ_tup, icp_ins, icp_int, icp_bl, icp_str, icp_non, icp_lst, icp_tup, zpp_l, zpp_t, prp_i, w_var, w_cst, fzp_fz, fzp_fr, w_fzd, w_nil, w_cons, w_bin, w_idx, w_neg, o_add, o_sub, o_mul, o_fdiv, o_mod, o_pow, o_shl, o_shr, o_and, o_or, o_xor, o_eq, o_ne, o_neB, o_lt, o_le, o_gt, o_ge, o_ixl, o_ixt, o_addl, w_tup, w_lst, w_sl, w_eno, w_part, o_sll, o_sls, w_fld, o_fld, w_prop, w_call, w_callK, w_fun1, o_lenl, o_lent, o_listl, o_listt, o_tuplel, o_tuplet, o_int, o_intb, o_abs, o_all, o_any, o_sum, w_is, w_isC, w_isN, w_notN, w_chain, w_tval, w_tand, w_tor, w_tnot, w_yes, w_eand, w_eor, w_enot, w_eif, wkp_s, wk_l, wk_t, wk_r, wk_rl, w_ilist, w_irev, w_ienum, w_range1, w_range2, w_zip, w_comp, s_next, flp_nx, flp_bk, flp_ct, flp_rt, flp_xx, s_seq, s_fz, fr_nil, fr_cons, fr_1, fr_o, fr_v, fr_u, s_set, kd_fz, kd_fl, kd_fi, s_ref, s_asgG, s_par, s_par3, s_ret, s_retV, s_retN, s_drop, s_if, s_no, s_bk, s_ct, s_for, plp_o, plp_r, llp_l, ilp_i, p_putu, s_app, s_put, p_putIu, s_attr, endP_nx, endP_rt, endP_xx, endP_bk, endP_ct, f_fn, f_init, at_0, ix_0, at_1, ix_1, at_2, ix_2, at_3, ix_3, at_4, ix_4, at_5, ix_5, at_6, ix_6, at_7, ix_7, at_8, ix_8, at_9, ix_9, at_10, ix_10, at_11, ix_11, rs_ref, rs_non, rs_bl, rs_int, rs_str, rs_tup, rs_scr, rs_lst, rs_dct, rs_ins, isL, atKs, atVs, gName, enS, List.map_cons, List.map_nil, List.length_cons, List.length_nil, List.cons_append, List.nil_append, List.getElem?_cons_succ, List.getElem?_cons_zero, List.set_cons_succ, List.set_cons_zero, List.replicate, Nat.reduceSub, Nat.reduceAdd, List.getD_cons_zero, List.getD_cons_succ, gTup, gAll, Option.bind_some, isTy, List.any_cons, List.any_nil, Bool.or_false, Bool.false_or, Bool.true_or, Bool.or_true, D.isNon, true_and, Bool.not_true, Bool.not_false, perm, Int.reduceToNat, Nat.reduceLT, Option.map_some, Nat.zero_lt_succ, decide_true, decide_false, Nat.lt_add_left_iff_pos, Nat.lt_add_one]
    refine (draw_ok hb1 (by decide) (big_of (by decide))).imp0 ?_
    rintro _ st2 ⟨r, rfl, _, _, hb2⟩
    simp only [wp_ok, wp_ex, wp_no, wp_bind, wp_bindS, wp_noX, slp_v, slp_o, rtp_v, rtp_o, kdp_fz, kdp_fl, kdp_fi, intp_i, blp_b, trp_b, trp_i, trp_l, trp_t, trp_n, optp_s, itp_t, itp_f, itp_nd, itp_ne, lsp_l, nbp_fz, nbp_fr, typ_int, typ_bl, typ_str, typ_non, typ_lst, typ_tup, icp_ins, icp_int, icp_bl, icp_str, icp_non, icp_lst, icp_tup, zpp_l, zpp_t, prp_i, w_var, w_cst, fzp_fz, fzp_fr, w_fzd, w_nil, w_cons, w_bin, w_idx, w_neg, o_add, o_sub, o_mul, o_fdiv, o_mod, o_pow, o_shl, o_shr, o_and, o_or, o_xor, o_eq, o_ne, o_neB, o_lt, o_le, o_gt, o_ge, o_ixl, o_ixt, o_addl, w_tup, w_lst, w_sl, w_eno, w_part, o_sll, o_sls, w_fld, o_fld, w_prop, w_call, w_callK, w_fun1, o_lenl, o_lent, o_listl, o_listt, o_tuplel, o_tuplet, o_int, o_intb, o_abs, o_all, o_any, o_sum, w_is, w_isC, w_isN, w_notN, w_chain, w_tval, w_tand, w_tor, w_tnot, w_yes, w_eand, w_eor, w_enot, w_eif, wkp_s, wk_l, wk_t, wk_r, wk_rl, w_ilist, w_irev, w_ienum, w_range1, w_range2, w_zip, w_comp, s_next, flp_nx, flp_bk, flp_ct, flp_rt, flp_xx, s_seq, s_fz, fr_nil, fr_cons, fr_1, fr_o, fr_v, fr_u, s_set, kd_fz, kd_fl, kd_fi, s_ref, s_asgG, s_par, s_par3, s_ret, s_retV, s_retN, s_drop, s_if, s_no, s_bk, s_ct, s_for, plp_o, plp_r, llp_l, ilp_i, p_putu, s_app, s_put, p_putIu, s_attr, endP_nx, endP_rt, endP_xx, endP_bk, endP_ct, f_fn, f_init, at_0, ix_0, at_1, ix_1, at_2, ix_2, at_3, ix_3, at_4, ix_4, at_5, ix_5, at_6, ix_6, at_7, ix_7, at_8, ix_8, at_9, ix_9, at_10, ix_10, at_11, ix_11, rs_ref, rs_non, rs_bl, rs_int, rs_str, rs_tup, rs_scr, rs_lst, rs_dct, rs_ins, isL, atKs, atVs, gName, enS, List.map_cons, List.map_nil, List.length_cons, List.length_nil, List.cons_append, List.nil_append, List.getElem?_cons_succ, List.getElem?_cons_zero, List.set_cons_succ, List.set_cons_zero, List.replicate, Nat.reduceSub, Nat.reduceAdd, List.getD_cons_zero, List.getD_cons_succ, gTup, gAll, Option.bind_some, isTy, List.any_cons, List.any_nil, Bool.or_false, Bool.false_or, Bool.true_or, Bool.or_true, D.isNon, true_and, Bool.not_true, Bool.not_false, perm, Int.reduceToNat, Nat.reduceLT, Option.map_some, Nat.zero_lt_succ, decide_true, decide_false, Nat.lt_add_left_iff_pos, Nat.lt_add_one]
    refine itp_d (fun _ => ?_) fun _ => ?_
    · simp only [wp_ok, wp_ex, wp_no, wp_bind, wp_bindS, wp_noX, slp_v, slp_o, rtp_v, rtp_o, kdp_fz, kdp_fl, kdp_fi, intp_i, blp_b, trp_b, trp_i, trp_l, trp_t, trp_n, optp_s, itp_t, itp_f, itp_nd, itp_ne, lsp_l, nbp_fz, nbp_fr, typ_int, typ_bl, typ_str, typ_non, typ_lst, typ_tup, icp_ins, icp_int, icp_bl, icp_str, icp_non, icp_lst, icp_tup, zpp_l, zpp_t, prp_i, w_var, w_cst, fzp_fz, fzp_fr, w_fzd, w_nil, w_cons, w_bin, w_idx, w_neg, o_add, o_sub, o_mul, o_fdiv, o_mod, o_pow, o_shl, o_shr, o_and, o_or, o_xor, o_eq, o_ne, o_neB, o_lt, o_le, o_gt, o_ge, o_ixl, o_ixt, o_addl, w_tup, w_lst, w_sl, w_eno, w_part, o_sll, o_sls, w_fld, o_fld, w_prop, w_call, w_callK, w_fun1, o_lenl, o_lent, o_listl, o_listt, o_tuplel, o_tuplet, o_int, o_intb, o_abs, o_all, o_any, o_sum, w_is, w_isC, w_isN, w_notN, w_chain, w_tval, w_tand, w_tor, w_tnot, w_yes, w_eand, w_eor, w_enot, w_eif, wkp_s, wk_l, wk_t, wk_r, wk_rl, w_ilist, w_irev, w_ienum, w_range1, w_range2, w_zip, w_comp, s_next, flp_nx, flp_bk, flp_ct, flp_rt, flp_xx, s_seq, s_fz, fr_nil, fr_cons, fr_1, fr_o, fr_v, fr_u, s_set, kd_fz, kd_fl, kd_fi, s_ref, s_asgG, s_par, s_par3, s_ret, s_retV, s_retN, s_drop, s_if, s_no, s_bk, s_ct, s_for, plp_o, plp_r, llp_l, ilp_i, p_putu, s_app, s_put, p_putIu, s_attr, endP_nx, endP_rt, endP_xx, endP_bk, endP_ct, f_fn, f_init, at_0, ix_0, at_1, ix_1, at_2, ix_2, at_3, ix_3, at_4, ix_4, at_5, ix_5, at_6, ix_6, at_7, ix_7, at_8, ix_8, at_9, ix_9, at_10, ix_10, at_11, ix_11, rs_ref, rs_non, rs_bl, rs_int, rs_str, rs_tup, rs_scr, rs_lst, rs_dct, rs_ins, isL, atKs, atVs, gName, enS, List.map_cons, List.map_nil, List.length_cons, List.length_nil, List.cons_append, List.nil_append, List.getElem?_cons_succ, List.getElem?_cons_zero, List.set_cons_succ, List.set_cons_zero, List.replicate, Nat.reduceSub, Nat.reduceAdd, List.getD_cons_zero, List.getD_cons_succ, gTup, gAll, Option.bind_some, isTy, List.any_cons, List.any_nil, Bool.or_false, Bool.false_or, Bool.true_or, Bool.or_true, D.isNon, true_and, Bool.not_true, Bool.not_false, perm, Int.reduceToNat, Nat.reduceLT, Option.map_some, Nat.zero_lt_succ, decide_true, decide_false, Nat.lt_add_left_iff_pos, Nat.lt_add_one]
      exact ⟨_, rfl, hb2⟩
    · simp only [wp_ok, wp_ex, wp_no, wp_bind, wp_bindS, wp_noX, slp_v, slp_o, rtp_v, rtp_o, kdp_fz, kdp_fl, kdp_fi, intp_i, blp_b, trp_b, trp_i, trp_l, trp_t, trp_n, optp_s, itp_t, itp_f, itp_nd, itp_ne, lsp_l, nbp_fz, nbp_fr, typ_int, typ_bl, typ_str, typ_non, typ_lst, typ_tup, icp_ins, icp_int, icp_bl, icp_str, icp_non, icp_lst, icp_tup, zpp_l, zpp_t, prp_i, w_var, w_cst, fzp_fz, fzp_fr, w_fzd, w_nil, w_cons, w_bin, w_idx, w_neg, o_add, o_sub, o_mul, o_fdiv, o_mod, o_pow, o_shl, o_shr, o_and, o_or, o_xor, o_eq, o_ne, o_neB, o_lt, o_le, o_gt, o_ge, o_ixl, o_ixt, o_addl, w_tup, w_lst, w_sl, w_eno, w_part, o_sll, o_sls, w_fld, o_fld, w_prop, w_call, w_callK, w_fun1, o_lenl, o_lent, o_listl, o_listt, o_tuplel, o_tuplet, o_int, o_intb, o_abs, o_all, o_any, o_sum, w_is, w_isC, w_isN, w_notN, w_chain, w_tval, w_tand, w_tor, w_tnot, w_yes, w_eand, w_eor, w_enot, w_eif, wkp_s, wk_l, wk_t, wk_r, wk_rl, w_ilist, w_irev, w_ienum, w_range1, w_range2, w_zip, w_comp, s_next, flp_nx, flp_bk, flp_ct, flp_rt, flp_xx, s_seq, s_fz, fr_nil, fr_cons, fr_1, fr_o, fr_v, fr_u, s_set, kd_fz, kd_fl, kd_fi, s_ref, s_asgG, s_par, s_par3, s_ret, s_retV, s_retN, s_drop, s_if, s_no, s_bk, s_ct, s_for, plp_o, plp_r, llp_l, ilp_i, p_putu, s_app, s_put, p_putIu, s_attr, endP_nx, endP_rt, endP_xx, endP_bk, endP_ct, f_fn, f_init, at_0, ix_0, at_1, ix_1, at_2, ix_2, at_3, ix_3, at_4, ix_4, at_5, ix_5, at_6, ix_6, at_7, ix_7, at_8, ix_8, at_9, ix_9, at_10, ix_10, at_11, ix_11, rs_ref, rs_non, rs_bl, rs_int, rs_str, rs_tup, rs_scr, rs_lst, rs_dct, rs_ins, isL, atKs, atVs, gName, enS, List.map_cons, List.map_nil, List.length_cons, List.length_nil, List.cons_append, List.nil_append, List.getElem?_cons_succ, List.getElem?_cons_zero, List.set_cons_succ, List.set_cons_zero, List.replicate, Nat.reduceSub, Nat.reduceAdd, List.getD_cons_zero, List.getD_cons_succ, gTup, gAll, Option.bind_some, isTy, List.any_cons, List.any_nil, Bool.or_false, Bool.false_or, Bool.true_or, Bool.or_true, D.isNon, true_and, Bool.not_true, Bool.not_false, perm, Int.reduceToNat, Nat.reduceLT, Option.map_some, Nat.zero_lt_succ, decide_true, decide_false, Nat.lt_add_left_iff_pos, Nat.lt_add_one]
      exact ⟨_, rfl, hb2⟩
theorem residue_ok (hb : Bag rest st) {q : Int} (h0 : 0 < q) : (w__law_residue [.ref 0, .int q] st).Wp (fun p st' => ∃ k : Int, p = (.int k, .fz) ∧ Bag rest st') NX := by
  unfold w__law_residue
  rw [f_fn]
  unfold b__law_residue
  rw [s_seq]
  simp only [wp_ok, wp_ex, wp_no, wp_bind, wp_bindS, wp_noX, slp_v, slp_o, rtp_v, rtp_o, kdp_fz, kdp_fl, kdp_fi, intp_i, blp_b, trp_b, trp_i, trp_l, trp_t, trp_n, optp_s, itp_t, itp_f, itp_nd, itp_ne, lsp_l, nbp_fz, nbp_fr, typ_int, typ_bl, typ_str, typ_non, typ_lst, typ_tup, icp_ins, icp_int, icp_bl, icp_str, icp_non, icp_lst, icp_tup, zpp_l, zpp_t, prp_i, w_var, w_cst, fzp_fz, fzp_fr, w_fzd, w_nil, w_cons, w_bin, w_idx, w_neg, o_add, o_sub, o_mul, o_fdiv, o_mod, o_pow, o_shl, o_shr, o_and, o_or, o_xor, o_eq, o_ne, o_neB, o_lt, o_le, o_gt, o_ge, o_ixl, o_ixt, o_addl, w_tup, w_lst, w_sl, w_eno, w_part, o_sll, o_sls, w_fld, o_fld, w_prop, w_call, w_callK, w_fun1, o_lenl, o_lent, o_listl, o_listt, o_tuplel, o_tuplet, o_int, o_intb, o_abs, o_all, o_any, o_sum, w_is, w_isC, w_isN, w_notN, w_chain, w_tval, w_tand, w_tor, w_tnot, w_yes, w_eand, w_eor, w_enot, w_eif, wkp_s, wk_l, wk_t, wk_r, wk_rl, w_ilist, w_irev, w_ienum, w_range1, w_range2, w_zip, w_comp, s_next, flp_nx, flp_bk, flp_ct, flp_rt, flp_xx, s_fz, fr_nil, fr_cons, fr_1, fr_o, fr_v, fr_u, s_set, kd_fz, kd_fl, kd_fi, s_ref, s_asgG, s_par, s_par3, s_ret, s_retV, s_retN, s_drop, s_no, s_bk, s_ct, plp_o, plp_r, llp_l, ilp_i, p_putu, s_app, s_put, p_putIu, s_attr, endP_nx, endP_rt, endP_xx, endP_bk, endP_ct, f_fn, f_init, at_0, ix_0, at_1, ix_1, at_2, ix_2, at_3, ix_3, at_4, ix_4, at_5, ix_5, at_6, ix_6, at_7, ix_7, at_8, ix_8, at_9, ix_9, at_10, ix_10, at_11, ix_11, rs_ref, rs_non, rs_bl, rs_int, rs_str, rs_tup, rs_scr, rs_lst, rs_dct, rs_ins, isL, atKs, atVs, gName, enS, List.map_cons, List.map_nil, List.length_cons, List.length_nil, List.cons_append, List.nil_append, List.getElem?_cons_succ, List.getElem?_cons_zero, List.set_cons_succ, List.set_cons_zero, List.replicate, Nat.reduceSub, Nat.reduceAdd, List.getD_cons_zero, List.getD_cons_succ, gTup, gAll, Option.bind_some, isTy, List.any_cons, List.any_nil, Bool.or_false, Bool.false_or, Bool.true_or, Bool.or_true, D.isNon, true_and, Bool.not_true, Bool.not_false, perm, Int.reduceToNat, Nat.reduceLT, Option.map_some, Nat.zero_lt_succ, decide_true, decide_false, Nat.lt_add_left_iff_pos, Nat.lt_add_one]
  refine (draw_ok hb (by decide) (big_of (by decide))).imp0 ?_
  rintro _ st1 ⟨r, rfl, r0, r1, hb1⟩
  simp only [wp_ok, wp_ex, wp_no, wp_bind, wp_bindS, wp_noX, slp_v, slp_o, rtp_v, rtp_o, kdp_fz, kdp_fl, kdp_fi, intp_i, blp_b, trp_b, trp_i, trp_l, trp_t, trp_n, optp_s, itp_t, itp_f, itp_nd, itp_ne, lsp_l, nbp_fz, nbp_fr, typ_int, typ_bl, typ_str, typ_non, typ_lst, typ_tup, icp_ins, icp_int, icp_bl, icp_str, icp_non, icp_lst, icp_tup, zpp_l, zpp_t, prp_i, w_var, w_cst, fzp_fz, fzp_fr, w_fzd, w_nil, w_cons, w_bin, w_idx, w_neg, o_add, o_sub, o_mul, o_fdiv, o_mod, o_pow, o_shl, o_shr, o_and, o_or, o_xor, o_eq, o_ne, o_neB, o_lt, o_le, o_gt, o_ge, o_ixl, o_ixt, o_addl, w_tup, w_lst, w_sl, w_eno, w_part, o_sll, o_sls, w_fld, o_fld, w_prop, w_call, w_callK, w_fun1, o_lenl, o_lent, o_listl, o_listt, o_tuplel, o_tuplet, o_int, o_intb, o_abs, o_all, o_any, o_sum, w_is, w_isC, w_isN, w_notN, w_chain, w_tval, w_tand, w_tor, w_tnot, w_yes, w_eand, w_eor, w_enot, w_eif, wkp_s, wk_l, wk_t, wk_r, wk_rl, w_ilist, w_irev, w_ienum, w_range1, w_range2, w_zip, w_comp, s_next, flp_nx, flp_bk, flp_ct, flp_rt, flp_xx, s_seq, s_fz, fr_nil, fr_cons, fr_1, fr_o, fr_v, fr_u, s_set, kd_fz, kd_fl, kd_fi, s_ref, s_asgG, s_par, s_par3, s_ret, s_retV, s_retN, s_drop, s_if, s_no, s_bk, s_ct, s_for, plp_o, plp_r, llp_l, ilp_i, p_putu, s_app, s_put, p_putIu, s_attr, endP_nx, endP_rt, endP_xx, endP_bk, endP_ct, f_fn, f_init, at_0, ix_0, at_1, ix_1, at_2, ix_2, at_3, ix_3, at_4, ix_4, at_5, ix_5, at_6, ix_6, at_7, ix_7, at_8, ix_8, at_9, ix_9, at_10, ix_10, at_11, ix_11, rs_ref, rs_non, rs_bl, rs_int, rs_str, rs_tup, rs_scr, rs_lst, rs_dct, rs_ins, isL, atKs, atVs, gName, enS, List.map_cons, List.map_nil, List.length_cons, List.length_nil, List.cons_append, List.nil_append, List.getElem?_cons_succ, List.getElem?_cons_zero, List.set_cons_succ, List.set_cons_zero, List.replicate, Nat.reduceSub, Nat.reduceAdd, List.getD_cons_zero, List.getD_cons_succ, gTup, gAll, Option.bind_some, isTy, List.any_cons, List.any_nil, Bool.or_false, Bool.false_or, Bool.true_or, Bool.or_true, D.isNon, true_and, Bool.not_true, Bool.not_false, perm, Int.reduceToNat, Nat.reduceLT, Option.map_some, Nat.zero_lt_succ, decide_true, decide_false, Nat.lt_add_left_iff_pos, Nat.lt_add_one]
  refine itp_d (fun hr => ?_) fun hr => ?_
  · simp only [wp_ok, wp_ex, wp_no, wp_bind, wp_bindS, wp_noX, slp_v, slp_o, rtp_v, rtp_o, kdp_fz, kdp_fl, kdp_fi, intp_i, blp_b, trp_b, trp_i, trp_l, trp_t, trp_n, optp_s, itp_t, itp_f, itp_nd, itp_ne, lsp_l, nbp_fz, nbp_fr, typ_int, typ_bl, typ_str, typ_non, typ_lst, typ_tup, icp_ins, icp_int, icp_bl, icp_str, icp_non, icp_lst, icp_tup, zpp_l, zpp_t, prp_i, w_var, w_cst, fzp_fz, fzp_fr, w_fzd, w_nil, w_cons, w_bin, w_idx, w_neg, o_add, o_sub, o_mul, o_fdiv, o_mod, o_pow, o_shl, o_shr, o_and, o_or, o_xor, o_eq, o_ne, o_neB, o_lt, o_le, o_gt, o_ge, o_ixl, o_ixt, o_addl, w_tup, w_lst, w_sl, w_eno, w_part, o_sll, o_sls, w_fld, o_fld, w_prop, w_call, w_callK, w_fun1, o_lenl, o_lent, o_listl, o_listt, o_tuplel, o_tuplet, o_int, o_intb, o_abs, o_all, o_any, o_sum, w_is, w_isC, w_isN, w_notN, w_chain, w_tval, w_tand, w_tor, w_tnot, w_yes, w_eand, w_eor, w_enot, w_eif, wkp_s, wk_l, wk_t, wk_r, wk_rl, w_ilist, w_irev, w_ienum, w_range1, w_range2, w_zip, w_comp, s_next, flp_nx, flp_bk, flp_ct, flp_rt, flp_xx, s_seq, s_fz, fr_nil, fr_cons, fr_1, fr_o, fr_v, fr_u, s_set, kd_fz, kd_fl, kd_fi, s_ref, s_asgG, s_par, s_par3, s_ret, s_retV, s_retN, s_drop, s_if, s_no, s_bk, s_ct, s_for, plp_o, plp_r, llp_l, ilp_i, p_putu, s_app, s_put, p_putIu, s_attr, endP_nx, endP_rt, endP_xx, endP_bk, endP_ct, f_fn, f_init, at_0, ix_0, at_1, ix_1, at_2, ix_2, at_3, ix_3, at_4, ix_4, at_5, ix_5, at_6, ix_6, at_7, ix_7, at_8, ix_8, at_9, ix_9, at_10, ix_10, at_11, ix_11, rs_ref, rs_non, rs_bl, rs_int, rs_str, rs_tup, rs_scr, rs_lst, rs_dct, rs_ins, isL, atKs, atVs, gName, enS, List.map_cons, List.map_nil, List.length_cons, List.length_nil, List.cons_append, List.nil_append, List.getElem?_cons_succ, List.getElem?_cons_zero, List.set_cons_succ, List.set_cons_zero, List.replicate, Nat.reduceSub, Nat.reduceAdd, List.getD_cons_zero, List.getD_cons_succ, gTup, gAll, Option.bind_some, isTy, List.any_cons, List.any_nil, Bool.or_false, Bool.false_or, Bool.true_or, Bool.or_true, D.isNon, true_and, Bool.not_true, Bool.not_false, perm, Int.reduceToNat, Nat.reduceLT, Option.map_some, Nat.zero_lt_succ, decide_true, decide_false, Nat.lt_add_left_iff_pos, Nat.lt_add_one]
    refine ⟨⟨by decide, by decide⟩, ⟨by decide, by decide⟩, by show (5 : Nat) ≤ maxLen; decide, ?_⟩
    obtain ⟨n, rfl⟩ := Int.eq_ofNat_of_zero_le r0
    have hn : n < 5 := by exact_mod_cast hr
    show optp (atI ([0, q - 1, q / 2, q / 2 - 1, 1].map D.int) ((n : Nat) : Int)) _
    rw [atI_of, List.getElem?_map, List.getElem?_eq_getElem (by simpa using hn)]
    simp only [wp_ok, wp_ex, wp_no, wp_bind, wp_bindS, wp_noX, slp_v, slp_o, rtp_v, rtp_o, kdp_fz, kdp_fl, kdp_fi, intp_i, blp_b, trp_b, trp_i, trp_l, trp_t, trp_n, optp_s, itp_t, itp_f, itp_nd, itp_ne, lsp_l, nbp_fz, nbp_fr, typ_int, typ_bl, typ_str, typ_non, typ_lst, typ_tup, icp_ins, icp_int, icp_bl, icp_str, icp_non, icp_lst, icp_tup, zpp_l, zpp_t, prp_i, w_var, w_cst, fzp_fz, fzp_fr, w_fzd, w_nil, w_cons, w_bin, w_idx, w_neg, o_add, o_sub, o_mul, o_fdiv, o_mod, o_pow, o_shl, o_shr, o_and, o_or, o_xor, o_eq, o_ne, o_neB, o_lt, o_le, o_gt, o_ge, o_ixl, o_ixt, o_addl, w_tup, w_lst, w_sl, w_eno, w_part, o_sll, o_sls, w_fld, o_fld, w_prop, w_call, w_callK, w_fun1, o_lenl, o_lent, o_listl, o_listt, o_tuplel, o_tuplet, o_int, o_intb, o_abs, o_all, o_any, o_sum, w_is, w_isC, w_isN, w_notN, w_chain, w_tval, w_tand, w_tor, w_tnot, w_yes, w_eand, w_eor, w_enot, w_eif, wkp_s, wk_l, wk_t, wk_r, wk_rl, w_ilist, w_irev, w_ienum, w_range1, w_range2, w_zip, w_comp, s_next, flp_nx, flp_bk, flp_ct, flp_rt, flp_xx, s_seq, s_fz, fr_nil, fr_cons, fr_1, fr_o, fr_v, fr_u, s_set, kd_fz, kd_fl, kd_fi, s_ref, s_asgG, s_par, s_par3, s_ret, s_retV, s_retN, s_drop, s_if, s_no, s_bk, s_ct, s_for, plp_o, plp_r, llp_l, ilp_i, p_putu, s_app, s_put, p_putIu, s_attr, endP_nx, endP_rt, endP_xx, endP_bk, endP_ct, f_fn, f_init, at_0, ix_0, at_1, ix_1, at_2, ix_2, at_3, ix_3, at_4, ix_4, at_5, ix_5, at_6, ix_6, at_7, ix_7, at_8, ix_8, at_9, ix_9, at_10, ix_10, at_11, ix_11, rs_ref, rs_non, rs_bl, rs_int, rs_str, rs_tup, rs_scr, rs_lst, rs_dct, rs_ins, isL, atKs, atVs, gName, enS, List.map_cons, List.map_nil, List.length_cons, List.length_nil, List.cons_append, List.nil_append, List.getElem?_cons_succ, List.getElem?_cons_zero, List.set_cons_succ, List.set_cons_zero, List.replicate, Nat.reduceSub, Nat.reduceAdd, List.getD_cons_zero, List.getD_cons_succ, gTup, gAll, Option.bind_some, isTy, List.any_cons, List.any_nil, Bool.or_false, Bool.false_or, Bool.true_or, Bool.or_true, D.isNon, true_and, Bool.not_true, Bool.not_false, perm, Int.reduceToNat, Nat.reduceLT, Option.map_some, Nat.zero_lt_succ, decide_true, decide_false, Nat.lt_add_left_iff_pos, Nat.lt_add_one]
    exact ⟨_, rfl, hb1⟩
  · simp only [s_next, flp_nx]
    rw [s_seq]
    simp only [wp_ok, wp_ex, wp_no, wp_bind, wp_bindS, wp_noX, slp_v, slp_o, rtp_v, rtp_o, kdp_fz, kdp_fl, kdp_fi, intp_i, blp_b, trp_b, trp_i, trp_l, trp_t, trp_n, optp_s, itp_t, itp_f, itp_nd, itp_ne, lsp_l, nbp_fz, nbp_fr, typ_int, typ_bl, typ_str, typ_non, typ_lst, typ_tup, icp_ins, icp_int, icp_bl, icp_str, icp_non, icp_lst, icp_tup, zpp_l, zpp_t, prp_i, w_var, w_cst, fzp_fz, fzp_fr, w_fzd, w_nil, w_cons, w_bin, w_idx, w_neg, o_add, o_sub, o_mul, o_fdiv, o_mod, o_pow, o_shl, o_shr, o_and, o_or, o_xor, o_eq, o_ne, o_neB, o_lt, o_le, o_gt, o_ge, o_ixl, o_ixt, o_addl, w_tup, w_lst, w_sl, w_eno, w_part, o_sll, o_sls, w_fld, o_fld, w_prop, w_call, w_callK, w_fun1, o_lenl, o_lent, o_listl, o_listt, o_tuplel, o_tuplet, o_int, o_intb, o_abs, o_all, o_any, o_sum, w_is, w_isC, w_isN, w_notN, w_chain, w_tval, w_tand, w_tor, w_tnot, w_yes, w_eand, w_eor, w_enot, w_eif, wkp_s, wk_l, wk_t, wk_r, wk_rl, w_ilist, w_irev, w_ienum, w_range1, w_range2, w_zip, w_comp, s_next, flp_nx, flp_bk, flp_ct, flp_rt, flp_xx, s_seq, s_fz, fr_nil, fr_cons, fr_1, fr_o, fr_v, fr_u, s_set, kd_fz, kd_fl, kd_fi, s_ref, s_asgG, s_par, s_par3, s_ret, s_retV, s_retN, s_drop, s_if, s_no, s_bk, s_ct, s_for, plp_o, plp_r, llp_l, ilp_i, p_putu, s_app, s_put, p_putIu, s_attr, endP_nx, endP_rt, endP_xx, endP_bk, endP_ct, f_fn, f_init, at_0, ix_0, at_1, ix_1, at_2, ix_2, at_3, ix_3, at_4, ix_4, at_5, ix_5, at_6, ix_6, at_7, ix_7, at_8, ix_8, at_9, ix_9, at_10, ix_10, at_11, ix_11, rs_ref, rs_non, rs_bl, rs_int, rs_str, rs_tup, rs_scr, rs_lst, rs_dct, rs_ins, isL, atKs, atVs, gName, enS, List.map_cons, List.map_nil, List.length_cons, List.length_nil, List.cons_append, List.nil_append, List.getElem?_cons_succ, List.getElem?_cons_zero, List.set_cons_succ, List.set_cons_zero, List.replicate, Nat.reduceSub, Nat.reduceAdd, List.getD_cons_zero, List.getD_cons_succ, gTup, gAll, Option.bind_some, isTy, List.any_cons, List.any_nil, Bool.or_false, Bool.false_or, Bool.true_or, Bool.or_true, D.isNon, true_and, Bool.not_true, Bool.not_false, perm, Int.reduceToNat, Nat.reduceLT, Option.map_some, Nat.zero_lt_succ, decide_true, decide_false, Nat.lt_add_left_iff_pos, Nat.lt_add_one]
    refine itp_d (fun hr5 => ?_) fun hr5 => ?_
    · simp only [wp_ok, wp_ex, wp_no, wp_bind, wp_bindS, wp_noX, slp_v, slp_o, rtp_v, rtp_o, kdp_fz, kdp_fl, kdp_fi, intp_i, blp_b, trp_b, trp_i, trp_l, trp_t, trp_n, optp_s, itp_t, itp_f, itp_nd, itp_ne, lsp_l, nbp_fz, nbp_fr, typ_int, typ_bl, typ_str, typ_non, typ_lst, typ_tup, icp_ins, icp_int, icp_bl, icp_str, icp_non, icp_lst, icp_tup, zpp_l, zpp_t, prp_i, w_var, w_cst, fzp_fz, fzp_fr, w_fzd, w_nil, w_cons, w_bin, w_idx, w_neg, o_add, o_sub, o_mul, o_fdiv, o_mod, o_pow, o_shl, o_shr, o_and, o_or, o_xor, o_eq, o_ne, o_neB, o_lt, o_le, o_gt, o_ge, o_ixl, o_ixt, o_addl, w_tup, w_lst, w_sl, w_eno, w_part, o_sll, o_sls, w_fld, o_fld, w_prop, w_call, w_callK, w_fun1, o_lenl, o_lent, o_listl, o_listt, o_tuplel, o_tuplet, o_int, o_intb, o_abs, o_all, o_any, o_sum, w_is, w_isC, w_isN, w_notN, w_chain, w_tval, w_tand, w_tor, w_tnot, w_yes, w_eand, w_eor, w_enot, w_eif, wkp_s, wk_l, wk_t, wk_r, wk_rl, w_ilist, w_irev, w_ienum, w_range1, w_range2, w_zip, w_comp, s_next, flp_nx, flp_bk, flp_ct, flp_rt, flp_xx, s_seq, s_fz, fr_nil, fr_cons, fr_1, fr_o, fr_v, fr_u, s_set, kd_fz, kd_fl, kd_fi, s_ref, s_asgG, s_par, s_par3, s_ret, s_retV, s_retN, s_drop, s_if, s_no, s_bk, s_ct, s_for, plp_o, plp_r, llp_l, ilp_i, p_putu, s_app, s_put, p_putIu, s_attr, endP_nx, endP_rt, endP_xx, endP_bk, endP_ct, f_fn, f_init, at_0, ix_0, at_1, ix_1, at_2, ix_2, at_3, ix_3, at_4, ix_4, at_5, ix_5, at_6, ix_6, at_7, ix_7, at_8, ix_8, at_9, ix_9, at_10, ix_10, at_11, ix_11, rs_ref, rs_non, rs_bl, rs_int, rs_str, rs_tup, rs_scr, rs_lst, rs_dct, rs_ins, isL, atKs, atVs, gName, enS, List.map_cons, List.map_nil, List.length_cons, List.length_nil, List.cons_append, List.nil_append, List.getElem?_cons_succ, List.getElem?_cons_zero, List.set_cons_succ, List.set_cons_zero, List.replicate, Nat.reduceSub, Nat.reduceAdd, List.getD_cons_zero, List.getD_cons_succ, gTup, gAll, Option.bind_some, isTy, List.any_cons, List.any_nil, Bool.or_false, Bool.false_or, Bool.true_or, Bool.or_true, D.isNon, true_and, Bool.not_true, Bool.not_false, perm, Int.reduceToNat, Nat.reduceLT, Option.map_some, Nat.zero_lt_succ, decide_true, decide_false, Nat.lt_add_left_iff_pos, Nat.lt_add_one]
      refine (draw_ok hb1 (by decide) (big_of (by decide))).imp0 ?_
      rintro _ st2 ⟨r', rfl, _, _, hb2⟩
      simp only [wp_ok, wp_ex, wp_no, wp_bind, wp_bindS, wp_noX, slp_v, slp_o, rtp_v, rtp_o, kdp_fz, kdp_fl, kdp_fi, intp_i, blp_b, trp_b, trp_i, trp_l, trp_t, trp_n, optp_s, itp_t, itp_f, itp_nd, itp_ne, lsp_l, nbp_fz, nbp_fr, typ_int, typ_bl, typ_str, typ_non, typ_lst, typ_tup, icp_ins, icp_int, icp_bl, icp_str, icp_non, icp_lst, icp_tup, zpp_l, zpp_t, prp_i, w_var, w_cst, fzp_fz, fzp_fr, w_fzd, w_nil, w_cons, w_bin, w_idx, w_neg, o_add, o_sub, o_mul, o_fdiv, o_mod, o_pow, o_shl, o_shr, o_and, o_or, o_xor, o_eq, o_ne, o_neB, o_lt, o_le, o_gt, o_ge, o_ixl, o_ixt, o_addl, w_tup, w_lst, w_sl, w_eno, w_part, o_sll, o_sls, w_fld, o_fld, w_prop, w_call, w_callK, w_fun1, o_lenl, o_lent, o_listl, o_listt, o_tuplel, o_tuplet, o_int, o_intb, o_abs, o_all, o_any, o_sum, w_is, w_isC, w_isN, w_notN, w_chain, w_tval, w_tand, w_tor, w_tnot, w_yes, w_eand, w_eor, w_enot, w_eif, wkp_s, wk_l, wk_t, wk_r, wk_rl, w_ilist, w_irev, w_ienum, w_range1, w_range2, w_zip, w_comp, s_next, flp_nx, flp_bk, flp_ct, flp_rt, flp_xx, s_seq, s_fz, fr_nil, fr_cons, fr_1, fr_o, fr_v, fr_u, s_set, kd_fz, kd_fl, kd_fi, s_ref, s_asgG, s_par, s_par3, s_ret, s_retV, s_retN, s_drop, s_if, s_no, s_bk, s_ct, s_for, plp_o, plp_r, llp_l, ilp_i, p_putu, s_app, s_put, p_putIu, s_attr, endP_nx, endP_rt, endP_xx, endP_bk, endP_ct, f_fn, f_init, at_0, ix_0, at_1, ix_1, at_2, ix_2, at_3, ix_3, at_4, ix_4, at_5, ix_5, at_6, ix_6, at_7, ix_7, at_8, ix_8, at_9, ix_9, at_10, ix_10, at_11, ix_11, rs_ref, rs_non, rs_bl, rs_int, rs_str, rs_tup, rs_scr, rs_lst, rs_dct, rs_ins, isL, atKs, atVs, gName, enS, List.map_cons, List.map_nil, List.length_cons, List.length_nil, List.cons_append, List.nil_append, List.getElem?_cons_succ, List.getElem?_cons_zero, List.set_cons_succ, List.set_cons_zero, List.replicate, Nat.reduceSub, Nat.reduceAdd, List.getD_cons_zero, List.getD_cons_succ, gTup, gAll, Option.bind_some, isTy, List.any_cons, List.any_nil, Bool.or_false, Bool.false_or, Bool.true_or, Bool.or_true, D.isNon, true_and, Bool.not_true, Bool.not_false, perm, Int.reduceToNat, Nat.reduceLT, Option.map_some, Nat.zero_lt_succ, decide_true, decide_false, Nat.lt_add_left_iff_pos, Nat.lt_add_one]
      exact ⟨_, rfl, hb2⟩
    · simp only [s_next, flp_nx]
      rw [s_seq]
      simp only [wp_ok, wp_ex, wp_no, wp_bind, wp_bindS, wp_noX, slp_v, slp_o, rtp_v, rtp_o, kdp_fz, kdp_fl, kdp_fi, intp_i, blp_b, trp_b, trp_i, trp_l, trp_t, trp_n, optp_s, itp_t, itp_f, itp_nd, itp_ne, lsp_l, nbp_fz, nbp_fr, typ_int, typ_bl, typ_str, typ_non, typ_lst, typ_tup, icp_ins, icp_int, icp_bl, icp_str, icp_non, icp_lst, icp_tup, zpp_l, zpp_t, prp_i, w_var, w_cst, fzp_fz, fzp_fr, w_fzd, w_nil, w_cons, w_bin, w_idx, w_neg, o_add, o_sub, o_mul, o_fdiv, o_mod, o_pow, o_shl, o_shr, o_and, o_or, o_xor, o_eq, o_ne, o_neB, o_lt, o_le, o_gt, o_ge, o_ixl, o_ixt, o_addl, w_tup, w_lst, w_sl, w_eno, w_part, o_sll, o_sls, w_fld, o_fld, w_prop, w_call, w_callK, w_fun1, o_lenl, o_lent, o_listl, o_listt, o_tuplel, o_tuplet, o_int, o_intb, o_abs, o_all, o_any, o_sum, w_is, w_isC, w_isN, w_notN, w_chain, w_tval, w_tand, w_tor, w_tnot, w_yes, w_eand, w_eor, w_enot, w_eif, wkp_s, wk_l, wk_t, wk_r, wk_rl, w_ilist, w_irev, w_ienum, w_range1, w_range2, w_zip, w_comp, s_next, flp_nx, flp_bk, flp_ct, flp_rt, flp_xx, s_fz, fr_nil, fr_cons, fr_1, fr_o, fr_v, fr_u, s_set, kd_fz, kd_fl, kd_fi, s_ref, s_asgG, s_par, s_par3, s_ret, s_retV, s_retN, s_drop, s_no, s_bk, s_ct, plp_o, plp_r, llp_l, ilp_i, p_putu, s_app, s_put, p_putIu, s_attr, endP_nx, endP_rt, endP_xx, endP_bk, endP_ct, f_fn, f_init, at_0, ix_0, at_1, ix_1, at_2, ix_2, at_3, ix_3, at_4, ix_4, at_5, ix_5, at_6, ix_6, at_7, ix_7, at_8, ix_8, at_9, ix_9, at_10, ix_10, at_11, ix_11, rs_ref, rs_non, rs_bl, rs_int, rs_str, rs_tup, rs_scr, rs_lst, rs_dct, rs_ins, isL, atKs, atVs, gName, enS, List.map_cons, List.map_nil, List.length_cons, List.length_nil, List.cons_append, List.nil_append, List.getElem?_cons_succ, List.getElem?_cons_zero, List.set_cons_succ, List.set_cons_zero, List.replicate, Nat.reduceSub, Nat.reduceAdd, List.getD_cons_zero, List.getD_cons_succ, gTup, gAll, Option.bind_some, isTy, List.any_cons, List.any_nil, Bool.or_false, Bool.false_or, Bool.true_or, Bool.or_true, D.isNon, true_and, Bool.not_true, Bool.not_false, perm, Int.reduceToNat, Nat.reduceLT, Option.map_some, Nat.zero_lt_succ, decide_true, decide_false, Nat.lt_add_left_iff_pos, Nat.lt_add_one]
      refine ⟨by show (2 : Nat) ≤ maxLen; decide, ?_⟩
      rw [s_seq]
      refine R.Wp.imp (P := fun (f : Fl) st1 => ∃ x y s5, f = .nx [.val (.ref 0), .val (.int q), .val (.int r), .val (.int x), .val (.int y), s5] ∧ Bag rest st1) ?_ ?_
      · simp only [wp_ok, wp_ex, wp_no, wp_bind, wp_bindS, wp_noX, slp_v, slp_o, rtp_v, rtp_o, kdp_fz, kdp_fl, kdp_fi, intp_i, blp_b, trp_b, trp_i, trp_l, trp_t, trp_n, optp_s, itp_t, itp_f, itp_nd, itp_ne, lsp_l, nbp_fz, nbp_fr, typ_int, typ_bl, typ_str, typ_non, typ_lst, typ_tup, icp_ins, icp_int, icp_bl, icp_str, icp_non, icp_lst, icp_tup, zpp_l, zpp_t, prp_i, w_var, w_cst, fzp_fz, fzp_fr, w_fzd, w_nil, w_cons, w_bin, w_idx, w_neg, o_add, o_sub, o_mul, o_fdiv, o_mod, o_pow, o_shl, o_shr, o_and, o_or, o_xor, o_eq, o_ne, o_neB, o_lt, o_le, o_gt, o_ge, o_ixl, o_ixt, o_addl, w_tup, w_lst, w_sl, w_eno, w_part, o_sll, o_sls, w_fld, o_fld, w_prop, w_call, w_callK, w_fun1, o_lenl, o_lent, o_listl, o_listt, o_tuplel, o_tuplet, o_int, o_intb, o_abs, o_all, o_any, o_sum, w_is, w_isC, w_isN, w_notN, w_chain, w_tval, w_tand, w_tor, w_tnot, w_yes, w_eand, w_eor, w_enot, w_eif, wkp_s, wk_l, wk_t, wk_r, wk_rl, w_ilist, w_irev, w_ienum, w_range1, w_range2, w_zip, w_comp, s_next, flp_nx, flp_bk, flp_ct, flp_rt, flp_xx, s_seq, s_fz, fr_nil, fr_cons, fr_1, fr_o, fr_v, fr_u, s_set, kd_fz, kd_fl, kd_fi, s_ref, s_asgG, s_par, s_par3, s_ret, s_retV, s_retN, s_drop, s_if, s_no, s_bk, s_ct, s_for, plp_o, plp_r, llp_l, ilp_i, p_putu, s_app, s_put, p_putIu, s_attr, endP_nx, endP_rt, endP_xx, endP_bk, endP_ct, f_fn, f_init, at_0, ix_0, at_1, ix_1, at_2, ix_2, at_3, ix_3, at_4, ix_4, at_5, ix_5, at_6, ix_6, at_7, ix_7, at_8, ix_8, at_9, ix_9, at_10, ix_10, at_11, ix_11, rs_ref, rs_non, rs_bl, rs_int, rs_str, rs_tup, rs_scr, rs_lst, rs_dct, rs_ins, isL, atKs, atVs, gName, enS, List.map_cons, List.map_nil, List.length_cons, List.length_nil, List.cons_append, List.nil_append, List.getElem?_cons_succ, List.getElem?_cons_zero, List.set_cons_succ, List.set_cons_zero, List.replicate, Nat.reduceSub, Nat.reduceAdd, List.getD_cons_zero, List.getD_cons_succ, gTup, gAll, Option.bind_some, isTy, List.any_cons, List.any_nil, Bool.or_false, Bool.false_or, Bool.true_or, Bool.or_true, D.isNon, true_and, Bool.not_true, Bool.not_false, perm, Int.reduceToNat, Nat.reduceLT, Option.map_some, Nat.zero_lt_succ, decide_true, decide_false, Nat.lt_add_left_iff_pos, Nat.lt_add_one]
        refine ⟨by decide, for_ok (J := fun i ρ st' => ∃ x y s5, ρ = [.val (.ref 0), .val (.int q), .val (.int r), .val (.int x), .val (.int y), s5] ∧ Bag rest st') ⟨_, _, _, rfl, hb1⟩ ?_ ?_⟩
        · rintro i d ρ st2 hd ⟨x, y, s5, rfl, hb2⟩
          refine ⟨_, rfl, ?_⟩
          simp only [wp_ok, wp_ex, wp_no, wp_bind, wp_bindS, wp_noX, slp_v, slp_o, rtp_v, rtp_o, kdp_fz, kdp_fl, kdp_fi, intp_i, blp_b, trp_b, trp_i, trp_l, trp_t, trp_n, optp_s, itp_t, itp_f, itp_nd, itp_ne, lsp_l, nbp_fz, nbp_fr, typ_int, typ_bl, typ_str, typ_non, typ_lst, typ_tup, icp_ins, icp_int, icp_bl, icp_str, icp_non, icp_lst, icp_tup, zpp_l, zpp_t, prp_i, w_var, w_cst, fzp_fz, fzp_fr, w_fzd, w_nil, w_cons, w_bin, w_idx, w_neg, o_add, o_sub, o_mul, o_fdiv, o_mod, o_pow, o_shl, o_shr, o_and, o_or, o_xor, o_eq, o_ne, o_neB, o_lt, o_le, o_gt, o_ge, o_ixl, o_ixt, o_addl, w_tup, w_lst, w_sl, w_eno, w_part, o_sll, o_sls, w_fld, o_fld, w_prop, w_call, w_callK, w_fun1, o_lenl, o_lent, o_listl, o_listt, o_tuplel, o_tuplet, o_int, o_intb, o_abs, o_all, o_any, o_sum, w_is, w_isC, w_isN, w_notN, w_chain, w_tval, w_tand, w_tor, w_tnot, w_yes, w_eand, w_eor, w_enot, w_eif, wkp_s, wk_l, wk_t, wk_r, wk_rl, w_ilist, w_irev, w_ienum, w_range1, w_range2, w_zip, w_comp, s_next, flp_nx, flp_bk, flp_ct, flp_rt, flp_xx, s_seq, s_fz, fr_nil, fr_cons, fr_1, fr_o, fr_v, fr_u, s_set, kd_fz, kd_fl, kd_fi, s_ref, s_asgG, s_par, s_par3, s_ret, s_retV, s_retN, s_drop, s_if, s_no, s_bk, s_ct, s_for, plp_o, plp_r, llp_l, ilp_i, p_putu, s_app, s_put, p_putIu, s_attr, endP_nx, endP_rt, endP_xx, endP_bk, endP_ct, f_fn, f_init, at_0, ix_0, at_1, ix_1, at_2, ix_2, at_3, ix_3, at_4, ix_4, at_5, ix_5, at_6, ix_6, at_7, ix_7, at_8, ix_8, at_9, ix_9, at_10, ix_10, at_11, ix_11, rs_ref, rs_non, rs_bl, rs_int, rs_str, rs_tup, rs_scr, rs_lst, rs_dct, rs_ins, isL, atKs, atVs, gName, enS, List.map_cons, List.map_nil, List.length_cons, List.length_nil, List.cons_append, List.nil_append, List.getElem?_cons_succ, List.getElem?_cons_zero, List.set_cons_succ, List.set_cons_zero, List.replicate, Nat.reduceSub, Nat.reduceAdd, List.getD_cons_zero, List.getD_cons_succ, gTup, gAll, Option.bind_some, isTy, List.any_cons, List.any_nil, Bool.or_false, Bool.false_or, Bool.true_or, Bool.or_true, D.isNon, true_and, Bool.not_true, Bool.not_false, perm, Int.reduceToNat, Nat.reduceLT, Option.map_some, Nat.zero_lt_succ, decide_true, decide_false, Nat.lt_add_left_iff_pos, Nat.lt_add_one]
          refine itp_d (fun _ => ?_) fun _ => ?_
          · exact ⟨_, _, _, rfl, hb2⟩
          · simp only [wp_ok, wp_ex, wp_no, wp_bind, wp_bindS, wp_noX, slp_v, slp_o, rtp_v, rtp_o, kdp_fz, kdp_fl, kdp_fi, intp_i, blp_b, trp_b, trp_i, trp_l, trp_t, trp_n, optp_s, itp_t, itp_f, itp_nd, itp_ne, lsp_l, nbp_fz, nbp_fr, typ_int, typ_bl, typ_str, typ_non, typ_lst, typ_tup, icp_ins, icp_int, icp_bl, icp_str, icp_non, icp_lst, icp_tup, zpp_l, zpp_t, prp_i, w_var, w_cst, fzp_fz, fzp_fr, w_fzd, w_nil, w_cons, w_bin, w_idx, w_neg, o_add, o_sub, o_mul, o_fdiv, o_mod, o_pow, o_shl, o_shr, o_and, o_or, o_xor, o_eq, o_ne, o_neB, o_lt, o_le, o_gt, o_ge, o_ixl, o_ixt, o_addl, w_tup, w_lst, w_sl, w_eno, w_part, o_sll, o_sls, w_fld, o_fld, w_prop, w_call, w_callK, w_fun1, o_lenl, o_lent, o_listl, o_listt, o_tuplel, o_tuplet, o_int, o_intb, o_abs, o_all, o_any, o_sum, w_is, w_isC, w_isN, w_notN, w_chain, w_tval, w_tand, w_tor, w_tnot, w_yes, w_eand, w_eor, w_enot, w_eif, wkp_s, wk_l, wk_t, wk_r, wk_rl, w_ilist, w_irev, w_ienum, w_range1, w_range2, w_zip, w_comp, s_next, flp_nx, flp_bk, flp_ct, flp_rt, flp_xx, s_seq, s_fz, fr_nil, fr_cons, fr_1, fr_o, fr_v, fr_u, s_set, kd_fz, kd_fl, kd_fi, s_ref, s_asgG, s_par, s_par3, s_ret, s_retV, s_retN, s_drop, s_if, s_no, s_bk, s_ct, s_for, plp_o, plp_r, llp_l, ilp_i, p_putu, s_app, s_put, p_putIu, s_attr, endP_nx, endP_rt, endP_xx, endP_bk, endP_ct, f_fn, f_init, at_0, ix_0, at_1, ix_1, at_2, ix_2, at_3, ix_3, at_4, ix_4, at_5, ix_5, at_6, ix_6, at_7, ix_7, at_8, ix_8, at_9, ix_9, at_10, ix_10, at_11, ix_11, rs_ref, rs_non, rs_bl, rs_int, rs_str, rs_tup, rs_scr, rs_lst, rs_dct, rs_ins, isL, atKs, atVs, gName, enS, List.map_cons, List.map_nil, List.length_cons, List.length_nil, List.cons_append, List.nil_append, List.getElem?_cons_succ, List.getElem?_cons_zero, List.set_cons_succ, List.set_cons_zero, List.replicate, Nat.reduceSub, Nat.reduceAdd, List.getD_cons_zero, List.getD_cons_succ, gTup, gAll, Option.bind_some, isTy, List.any_cons, List.any_nil, Bool.or_false, Bool.false_or, Bool.true_or, Bool.or_true, D.isNon, true_and, Bool.not_true, Bool.not_false, perm, Int.reduceToNat, Nat.reduceLT, Option.map_some, Nat.zero_lt_succ, decide_true, decide_false, Nat.lt_add_left_iff_pos, Nat.lt_add_one]
            refine ⟨mulOk_r (by decide) (by decide), (draw_ok hb2 (by decide) (big_of (by decide))).imp0 ?_⟩
            rintro _ st3 ⟨r', rfl, _, _, hb3⟩
            simp only [wp_ok, wp_ex, wp_no, wp_bind, wp_bindS, wp_noX, slp_v, slp_o, rtp_v, rtp_o, kdp_fz, kdp_fl, kdp_fi, intp_i, blp_b, trp_b, trp_i, trp_l, trp_t, trp_n, optp_s, itp_t, itp_f, itp_nd, itp_ne, lsp_l, nbp_fz, nbp_fr, typ_int, typ_bl, typ_str, typ_non, typ_lst, typ_tup, icp_ins, icp_int, icp_bl, icp_str, icp_non, icp_lst, icp_tup, zpp_l, zpp_t, prp_i, w_var, w_cst, fzp_fz, fzp_fr, w_fzd, w_nil, w_cons, w_bin, w_idx, w_neg, o_add, o_sub, o_mul, o_fdiv, o_mod, o_pow, o_shl, o_shr, o_and, o_or, o_xor, o_eq, o_ne, o_neB, o_lt, o_le, o_gt, o_ge, o_ixl, o_ixt, o_addl, w_tup, w_lst, w_sl, w_eno, w_part, o_sll, o_sls, w_fld, o_fld, w_prop, w_call, w_callK, w_fun1, o_lenl, o_lent, o_listl, o_listt, o_tuplel, o_tuplet, o_int, o_intb, o_abs, o_all, o_any, o_sum, w_is, w_isC, w_isN, w_notN, w_chain, w_tval, w_tand, w_tor, w_tnot, w_yes, w_eand, w_eor, w_enot, w_eif, wkp_s, wk_l, wk_t, wk_r, wk_rl, w_ilist, w_irev, w_ienum, w_range1, w_range2, w_zip, w_comp, s_next, flp_nx, flp_bk, flp_ct, flp_rt, flp_xx, s_seq, s_fz, fr_nil, fr_cons, fr_1, fr_o, fr_v, fr_u, s_set, kd_fz, kd_fl, kd_fi, s_ref, s_asgG, s_par, s_par3, s_ret, s_retV, s_retN, s_drop, s_if, s_no, s_bk, s_ct, s_for, plp_o, plp_r, llp_l, ilp_i, p_putu, s_app, s_put, p_putIu, s_attr, endP_nx, endP_rt, endP_xx, endP_bk, endP_ct, f_fn, f_init, at_0, ix_0, at_1, ix_1, at_2, ix_2, at_3, ix_3, at_4, ix_4, at_5, ix_5, at_6, ix_6, at_7, ix_7, at_8, ix_8, at_9, ix_9, at_10, ix_10, at_11, ix_11, rs_ref, rs_non, rs_bl, rs_int, rs_str, rs_tup, rs_scr, rs_lst, rs_dct, rs_ins, isL, atKs, atVs, gName, enS, List.map_cons, List.map_nil, List.length_cons, List.length_nil, List.cons_append, List.nil_append, List.getElem?_cons_succ, List.getElem?_cons_zero, List.set_cons_succ, List.set_cons_zero, List.replicate, Nat.reduceSub, Nat.reduceAdd, List.getD_cons_zero, List.getD_cons_succ, gTup, gAll, Option.bind_some, isTy, List.any_cons, List.any_nil, Bool.or_false, Bool.false_or, Bool.true_or, Bool.or_true, D.isNon, true_and, Bool.not_true, Bool.not_false, perm, Int.reduceToNat, Nat.reduceLT, Option.map_some, Nat.zero_lt_succ, decide_true, decide_false, Nat.lt_add_left_iff_pos, Nat.lt_add_one]
            exact ⟨mulOk_r (by decide) (by decide), _, _, _, rfl, hb3⟩
        · rintro ρ st2 ⟨x, y, s5, rfl, hb2⟩
          exact ⟨_, _, _, rfl, hb2⟩
      · rintro _ st2 ⟨x, y, s5, rfl, hb2⟩
        simp only [wp_ok, wp_ex, wp_no, wp_bind, wp_bindS, wp_noX, slp_v, slp_o, rtp_v, rtp_o, kdp_fz, kdp_fl, kdp_fi, intp_i, blp_b, trp_b, trp_i, trp_l, trp_t, trp_n, optp_s, itp_t, itp_f, itp_nd, itp_ne, lsp_l, nbp_fz, nbp_fr, typ_int, typ_bl, typ_str, typ_non, typ_lst, typ_tup, icp_ins, icp_int, icp_bl, icp_str, icp_non, icp_lst, icp_tup, zpp_l, zpp_t, prp_i, w_var, w_cst, fzp_fz, fzp_fr, w_fzd, w_nil, w_cons, w_bin, w_idx, w_neg, o_add, o_sub, o_mul, o_fdiv, o_mod, o_pow, o_shl, o_shr, o_and, o_or, o_xor, o_eq, o_ne, o_neB, o_lt, o_le, o_gt, o_ge, o_ixl, o_ixt, o_addl, w_tup, w_lst, w_sl, w_eno, w_part, o_sll, o_sls, w_fld, o_fld, w_prop, w_call, w_callK, w_fun1, o_lenl, o_lent, o_listl, o_listt, o_tuplel, o_tuplet, o_int, o_intb, o_abs, o_all, o_any, o_sum, w_is, w_isC, w_isN, w_notN, w_chain, w_tval, w_tand, w_tor, w_tnot, w_yes, w_eand, w_eor, w_enot, w_eif, wkp_s, wk_l, wk_t, wk_r, wk_rl, w_ilist, w_irev, w_ienum, w_range1, w_range2, w_zip, w_comp, s_next, flp_nx, flp_bk, flp_ct, flp_rt, flp_xx, s_seq, s_fz, fr_nil, fr_cons, fr_1, fr_o, fr_v, fr_u, s_set, kd_fz, kd_fl, kd_fi, s_ref, s_asgG, s_par, s_par3, s_ret, s_retV, s_retN, s_drop, s_if, s_no, s_bk, s_ct, s_for, plp_o, plp_r, llp_l, ilp_i, p_putu, s_app, s_put, p_putIu, s_attr, endP_nx, endP_rt, endP_xx, endP_bk, endP_ct, f_fn, f_init, at_0, ix_0, at_1, ix_1, at_2, ix_2, at_3, ix_3, at_4, ix_4, at_5, ix_5, at_6, ix_6, at_7, ix_7, at_8, ix_8, at_9, ix_9, at_10, ix_10, at_11, ix_11, rs_ref, rs_non, rs_bl, rs_int, rs_str, rs_tup, rs_scr, rs_lst, rs_dct, rs_ins, isL, atKs, atVs, gName, enS, List.map_cons, List.map_nil, List.length_cons, List.length_nil, List.cons_append, List.nil_append, List.getElem?_cons_succ, List.getElem?_cons_zero, List.set_cons_succ, List.set_cons_zero, List.replicate, Nat.reduceSub, Nat.reduceAdd, List.getD_cons_zero, List.getD_cons_succ, gTup, gAll, Option.bind_some, isTy, List.any_cons, List.any_nil, Bool.or_false, Bool.false_or, Bool.true_or, Bool.or_true, D.isNon, true_and, Bool.not_true, Bool.not_false, perm, Int.reduceToNat, Nat.reduceLT, Option.map_some, Nat.zero_lt_succ, decide_true, decide_false, Nat.lt_add_left_iff_pos, Nat.lt_add_one]
        exact ⟨h0, _, rfl, hb2⟩
theorem loose_ok (hb : Bag rest st) {q : Int} (h0 : 0 < q) : (w__law_loose [.ref 0, .int q] st).Wp (fun p st' => ∃ k : Int, p = (.int k, .fz) ∧ Bag rest st') NX := by
  unfold w__law_loose
  rw [f_fn]
  unfold b__law_loose
  simp only [wp_ok, wp_ex, wp_no, wp_bind, wp_bindS, wp_noX, slp_v, slp_o, rtp_v, rtp_o, kdp_fz, kdp_fl, kdp_fi, intp_i, blp_b, trp_b, trp_i, trp_l, trp_t, trp_n, optp_s, itp_t, itp_f, itp_nd, itp_ne, lsp_l, nbp_fz, nbp_fr, typ_int, typ_bl, typ_str, typ_non, typ_lst, typ_tup, icp_ins, icp_int, icp_bl, icp_str, icp_non, icp_lst, icp_tup, zpp_l, zpp_t, prp_i, w_var, w_cst, fzp_fz, fzp_fr, w_fzd, w_nil, w_cons, w_bin, w_idx, w_neg, o_add, o_sub, o_mul, o_fdiv, o_mod, o_pow, o_shl, o_shr, o_and, o_or, o_xor, o_eq, o_ne, o_neB, o_lt, o_le, o_gt, o_ge, o_ixl, o_ixt, o_addl, w_tup, w_lst, w_sl, w_eno, w_part, o_sll, o_sls, w_fld, o_fld, w_prop, w_call, w_callK, w_fun1, o_lenl, o_lent, o_listl, o_listt, o_tuplel, o_tuplet, o_int, o_intb, o_abs, o_all, o_any, o_sum, w_is, w_isC, w_isN, w_notN, w_chain, w_tval, w_tand, w_tor, w_tnot, w_yes, w_eand, w_eor, w_enot, w_eif, wkp_s, wk_l, wk_t, wk_r, wk_rl, w_ilist, w_irev, w_ienum, w_range1, w_range2, w_zip, w_comp, s_next, flp_nx, flp_bk, flp_ct, flp_rt, flp_xx, s_seq, s_fz, fr_nil, fr_cons, fr_1, fr_o, fr_v, fr_u, s_set, kd_fz, kd_fl, kd_fi, s_ref, s_asgG, s_par, s_par3, s_ret, s_retV, s_retN, s_drop, s_if, s_no, s_bk, s_ct, s_for, plp_o, plp_r, llp_l, ilp_i, p_putu, s_app, s_put, p_putIu, s_attr, endP_nx, endP_rt, endP_xx, endP_bk, endP_ct, f_fn, f_init, at_0, ix_0, at_1, ix_1, at_2, ix_2, at_3, ix_3, at_4, ix_4, at_5, ix_5, at_6, ix_6, at_7, ix_7, at_8, ix_8, at_9, ix_9, at_10, ix_10, at_11, ix_11, rs_ref, rs_non, rs_bl, rs_int, rs_str, rs_tup, rs_scr, rs_lst, rs_dct, rs_ins, isL, atKs, atVs, gName, enS, List.map_cons, List.map_nil, List.length_cons, List.length_nil, List.cons_append, List.nil_append, List.getElem?_cons_succ, List.getElem?_cons_zero, List.set_cons_succ, List.set_cons_zero, List.replicate, Nat.reduceSub, Nat.reduceAdd, List.getD_cons_zero, List.getD_cons_succ, gTup, gAll, Option.bind_some, isTy, List.any_cons, List.any_nil, Bool.or_false, Bool.false_or, Bool.true_or, Bool.or_true, D.isNon, true_and, Bool.not_true, Bool.not_false, perm, Int.reduceToNat, Nat.reduceLT, Option.map_some, Nat.zero_lt_succ, decide_true, decide_false, Nat.lt_add_left_iff_pos, Nat.lt_add_one]
  refine (draw_ok hb (by decide) (big_of (by decide))).imp0 ?_
  rintro _ st1 ⟨r, rfl, r0, r1, hb1⟩
  simp only [wp_ok, wp_ex, wp_no, wp_bind, wp_bindS, wp_noX, slp_v, slp_o, rtp_v, rtp_o, kdp_fz, kdp_fl, kdp_fi, intp_i, blp_b, trp_b, trp_i, trp_l, trp_t, trp_n, optp_s, itp_t, itp_f, itp_nd, itp_ne, lsp_l, nbp_fz, nbp_fr, typ_int, typ_bl, typ_str, typ_non, typ_lst, typ_tup, icp_ins, icp_int, icp_bl, icp_str, icp_non, icp_lst, icp_tup, zpp_l, zpp_t, prp_i, w_var, w_cst, fzp_fz, fzp_fr, w_fzd, w_nil, w_cons, w_bin, w_idx, w_neg, o_add, o_sub, o_mul, o_fdiv, o_mod, o_pow, o_shl, o_shr, o_and, o_or, o_xor, o_eq, o_ne, o_neB, o_lt, o_le, o_gt, o_ge, o_ixl, o_ixt, o_addl, w_tup, w_lst, w_sl, w_eno, w_part, o_sll, o_sls, w_fld, o_fld, w_prop, w_call, w_callK, w_fun1, o_lenl, o_lent, o_listl, o_listt, o_tuplel, o_tuplet, o_int, o_intb, o_abs, o_all, o_any, o_sum, w_is, w_isC, w_isN, w_notN, w_chain, w_tval, w_tand, w_tor, w_tnot, w_yes, w_eand, w_eor, w_enot, w_eif, wkp_s, wk_l, wk_t, wk_r, wk_rl, w_ilist, w_irev, w_ienum, w_range1, w_range2, w_zip, w_comp, s_next, flp_nx, flp_bk, flp_ct, flp_rt, flp_xx, s_seq, s_fz, fr_nil, fr_cons, fr_1, fr_o, fr_v, fr_u, s_set, kd_fz, kd_fl, kd_fi, s_ref, s_asgG, s_par, s_par3, s_ret, s_retV, s_retN, s_drop, s_if, s_no, s_bk, s_ct, s_for, plp_o, plp_r, llp_l, ilp_i, p_putu, s_app, s_put, p_putIu, s_attr, endP_nx, endP_rt, endP_xx, endP_bk, endP_ct, f_fn, f_init, at_0, ix_0, at_1, ix_1, at_2, ix_2, at_3, ix_3, at_4, ix_4, at_5, ix_5, at_6, ix_6, at_7, ix_7, at_8, ix_8, at_9, ix_9, at_10, ix_10, at_11, ix_11, rs_ref, rs_non, rs_bl, rs_int, rs_str, rs_tup, rs_scr, rs_lst, rs_dct, rs_ins, isL, atKs, atVs, gName, enS, List.map_cons, List.map_nil, List.length_cons, List.length_nil, List.cons_append, List.nil_append, List.getElem?_cons_succ, List.getElem?_cons_zero, List.set_cons_succ, List.set_cons_zero, List.replicate, Nat.reduceSub, Nat.reduceAdd, List.getD_cons_zero, List.getD_cons_succ, gTup, gAll, Option.bind_some, isTy, List.any_cons, List.any_nil, Bool.or_false, Bool.false_or, Bool.true_or, Bool.or_true, D.isNon, true_and, Bool.not_true, Bool.not_false, perm, Int.reduceToNat, Nat.reduceLT, Option.map_some, Nat.zero_lt_succ, decide_true, decide_false, Nat.lt_add_left_iff_pos, Nat.lt_add_one]
  refine itp_d (fun hr => ?_) fun hr => ?_
  · simp only [wp_ok, wp_ex, wp_no, wp_bind, wp_bindS, wp_noX, slp_v, slp_o, rtp_v, rtp_o, kdp_fz, kdp_fl, kdp_fi, intp_i, blp_b, trp_b, trp_i, trp_l, trp_t, trp_n, optp_s, itp_t, itp_f, itp_nd, itp_ne, lsp_l, nbp_fz, nbp_fr, typ_int, typ_bl, typ_str, typ_non, typ_lst, typ_tup, icp_ins, icp_int, icp_bl, icp_str, icp_non, icp_lst, icp_tup, zpp_l, zpp_t, prp_i, w_var, w_cst, fzp_fz, fzp_fr, w_fzd, w_nil, w_cons, w_bin, w_idx, w_neg, o_add, o_sub, o_mul, o_fdiv, o_mod, o_pow, o_shl, o_shr, o_and, o_or, o_xor, o_eq, o_ne, o_neB, o_lt, o_le, o_gt, o_ge, o_ixl, o_ixt, o_addl, w_tup, w_lst, w_sl, w_eno, w_part, o_sll, o_sls, w_fld, o_fld, w_prop, w_call, w_callK, w_fun1, o_lenl, o_lent, o_listl, o_listt, o_tuplel, o_tuplet, o_int, o_intb, o_abs, o_all, o_any, o_sum, w_is, w_isC, w_isN, w_notN, w_chain, w_tval, w_tand, w_tor, w_tnot, w_yes, w_eand, w_eor, w_enot, w_eif, wkp_s, wk_l, wk_t, wk_r, wk_rl, w_ilist, w_irev, w_ienum, w_range1, w_range2, w_zip, w_comp, s_next, flp_nx, flp_bk, flp_ct, flp_rt, flp_xx, s_seq, s_fz, fr_nil, fr_cons, fr_1, fr_o, fr_v, fr_u, s_set, kd_fz, kd_fl, kd_fi, s_ref, s_asgG, s_par, s_par3, s_ret, s_retV, s_retN, s_drop, s_if, s_no, s_bk, s_ct, s_for, plp_o, plp_r, llp_l, ilp_i, p_putu, s_app, s_put, p_putIu, s_attr, endP_nx, endP_rt, endP_xx, endP_bk, endP_ct, f_fn, f_init, at_0, ix_0, at_1, ix_1, at_2, ix_2, at_3, ix_3, at_4, ix_4, at_5, ix_5, at_6, ix_6, at_7, ix_7, at_8, ix_8, at_9, ix_9, at_10, ix_10, at_11, ix_11, rs_ref, rs_non, rs_bl, rs_int, rs_str, rs_tup, rs_scr, rs_lst, rs_dct, rs_ins, isL, atKs, atVs, gName, enS, List.map_cons, List.map_nil, List.length_cons, List.length_nil, List.cons_append, List.nil_append, List.getElem?_cons_succ, List.getElem?_cons_zero, List.set_cons_succ, List.set_cons_zero, List.replicate, Nat.reduceSub, Nat.reduceAdd, List.getD_cons_zero, List.getD_cons_succ, gTup, gAll, Option.bind_some, isTy, List.any_cons, List.any_nil, Bool.or_false, Bool.false_or, Bool.true_or, Bool.or_true, D.isNon, true_and, Bool.not_true, Bool.not_false, perm, Int.reduceToNat, Nat.reduceLT, Option.map_some, Nat.zero_lt_succ, decide_true, decide_false, Nat.lt_add_left_iff_pos, Nat.lt_add_one]
    refine (great_ok hb1).imp0 ?_
    rintro _ st2 ⟨k, rfl, hb2⟩
    simp only [wp_ok, wp_ex, wp_no, wp_bind, wp_bindS, wp_noX, slp_v, slp_o, rtp_v, rtp_o, kdp_fz, kdp_fl, kdp_fi, intp_i, blp_b, trp_b, trp_i, trp_l, trp_t, trp_n, optp_s, itp_t, itp_f, itp_nd, itp_ne, lsp_l, nbp_fz, nbp_fr, typ_int, typ_bl, typ_str, typ_non, typ_lst, typ_tup, icp_ins, icp_int, icp_bl, icp_str, icp_non, icp_lst, icp_tup, zpp_l, zpp_t, prp_i, w_var, w_cst, fzp_fz, fzp_fr, w_fzd, w_nil, w_cons, w_bin, w_idx, w_neg, o_add, o_sub, o_mul, o_fdiv, o_mod, o_pow, o_shl, o_shr, o_and, o_or, o_xor, o_eq, o_ne, o_neB, o_lt, o_le, o_gt, o_ge, o_ixl, o_ixt, o_addl, w_tup, w_lst, w_sl, w_eno, w_part, o_sll, o_sls, w_fld, o_fld, w_prop, w_call, w_callK, w_fun1, o_lenl, o_lent, o_listl, o_listt, o_tuplel, o_tuplet, o_int, o_intb, o_abs, o_all, o_any, o_sum, w_is, w_isC, w_isN, w_notN, w_chain, w_tval, w_tand, w_tor, w_tnot, w_yes, w_eand, w_eor, w_enot, w_eif, wkp_s, wk_l, wk_t, wk_r, wk_rl, w_ilist, w_irev, w_ienum, w_range1, w_range2, w_zip, w_comp, s_next, flp_nx, flp_bk, flp_ct, flp_rt, flp_xx, s_seq, s_fz, fr_nil, fr_cons, fr_1, fr_o, fr_v, fr_u, s_set, kd_fz, kd_fl, kd_fi, s_ref, s_asgG, s_par, s_par3, s_ret, s_retV, s_retN, s_drop, s_if, s_no, s_bk, s_ct, s_for, plp_o, plp_r, llp_l, ilp_i, p_putu, s_app, s_put, p_putIu, s_attr, endP_nx, endP_rt, endP_xx, endP_bk, endP_ct, f_fn, f_init, at_0, ix_0, at_1, ix_1, at_2, ix_2, at_3, ix_3, at_4, ix_4, at_5, ix_5, at_6, ix_6, at_7, ix_7, at_8, ix_8, at_9, ix_9, at_10, ix_10, at_11, ix_11, rs_ref, rs_non, rs_bl, rs_int, rs_str, rs_tup, rs_scr, rs_lst, rs_dct, rs_ins, isL, atKs, atVs, gName, enS, List.map_cons, List.map_nil, List.length_cons, List.length_nil, List.cons_append, List.nil_append, List.getElem?_cons_succ, List.getElem?_cons_zero, List.set_cons_succ, List.set_cons_zero, List.replicate, Nat.reduceSub, Nat.reduceAdd, List.getD_cons_zero, List.getD_cons_succ, gTup, gAll, Option.bind_some, isTy, List.any_cons, List.any_nil, Bool.or_false, Bool.false_or, Bool.true_or, Bool.or_true, D.isNon, true_and, Bool.not_true, Bool.not_false, perm, Int.reduceToNat, Nat.reduceLT, Option.map_some, Nat.zero_lt_succ, decide_true, decide_false, Nat.lt_add_left_iff_pos, Nat.lt_add_one]
    exact ⟨_, rfl, hb2⟩
  · simp only [wp_ok, wp_ex, wp_no, wp_bind, wp_bindS, wp_noX, slp_v, slp_o, rtp_v, rtp_o, kdp_fz, kdp_fl, kdp_fi, intp_i, blp_b, trp_b, trp_i, trp_l, trp_t, trp_n, optp_s, itp_t, itp_f, itp_nd, itp_ne, lsp_l, nbp_fz, nbp_fr, typ_int, typ_bl, typ_str, typ_non, typ_lst, typ_tup, icp_ins, icp_int, icp_bl, icp_str, icp_non, icp_lst, icp_tup, zpp_l, zpp_t, prp_i, w_var, w_cst, fzp_fz, fzp_fr, w_fzd, w_nil, w_cons, w_bin, w_idx, w_neg, o_add, o_sub, o_mul, o_fdiv, o_mod, o_pow, o_shl, o_shr, o_and, o_or, o_xor, o_eq, o_ne, o_neB, o_lt, o_le, o_gt, o_ge, o_ixl, o_ixt, o_addl, w_tup, w_lst, w_sl, w_eno, w_part, o_sll, o_sls, w_fld, o_fld, w_prop, w_call, w_callK, w_fun1, o_lenl, o_lent, o_listl, o_listt, o_tuplel, o_tuplet, o_int, o_intb, o_abs, o_all, o_any, o_sum, w_is, w_isC, w_isN, w_notN, w_chain, w_tval, w_tand, w_tor, w_tnot, w_yes, w_eand, w_eor, w_enot, w_eif, wkp_s, wk_l, wk_t, wk_r, wk_rl, w_ilist, w_irev, w_ienum, w_range1, w_range2, w_zip, w_comp, s_next, flp_nx, flp_bk, flp_ct, flp_rt, flp_xx, s_seq, s_fz, fr_nil, fr_cons, fr_1, fr_o, fr_v, fr_u, s_set, kd_fz, kd_fl, kd_fi, s_ref, s_asgG, s_par, s_par3, s_ret, s_retV, s_retN, s_drop, s_if, s_no, s_bk, s_ct, s_for, plp_o, plp_r, llp_l, ilp_i, p_putu, s_app, s_put, p_putIu, s_attr, endP_nx, endP_rt, endP_xx, endP_bk, endP_ct, f_fn, f_init, at_0, ix_0, at_1, ix_1, at_2, ix_2, at_3, ix_3, at_4, ix_4, at_5, ix_5, at_6, ix_6, at_7, ix_7, at_8, ix_8, at_9, ix_9, at_10, ix_10, at_11, ix_11, rs_ref, rs_non, rs_bl, rs_int, rs_str, rs_tup, rs_scr, rs_lst, rs_dct, rs_ins, isL, atKs, atVs, gName, enS, List.map_cons, List.map_nil, List.length_cons, List.length_nil, List.cons_append, List.nil_append, List.getElem?_cons_succ, List.getElem?_cons_zero, List.set_cons_succ, List.set_cons_zero, List.replicate, Nat.reduceSub, Nat.reduceAdd, List.getD_cons_zero, List.getD_cons_succ, gTup, gAll, Option.bind_some, isTy, List.any_cons, List.any_nil, Bool.or_false, Bool.false_or, Bool.true_or, Bool.or_true, D.isNon, true_and, Bool.not_true, Bool.not_false, perm, Int.reduceToNat, Nat.reduceLT, Option.map_some, Nat.zero_lt_succ, decide_true, decide_false, Nat.lt_add_left_iff_pos, Nat.lt_add_one]
    refine (residue_ok hb1 h0).imp0 ?_
    rintro _ st2 ⟨k, rfl, hb2⟩
    simp only [wp_ok, wp_ex, wp_no, wp_bind, wp_bindS, wp_noX, slp_v, slp_o, rtp_v, rtp_o, kdp_fz, kdp_fl, kdp_fi, intp_i, blp_b, trp_b, trp_i, trp_l, trp_t, trp_n, optp_s, itp_t, itp_f, itp_nd, itp_ne, lsp_l, nbp_fz, nbp_fr, typ_int, typ_bl, typ_str, typ_non, typ_lst, typ_tup, icp_ins, icp_int, icp_bl, icp_str, icp_non, icp_lst, icp_tup, zpp_l, zpp_t, prp_i, w_var, w_cst, fzp_fz, fzp_fr, w_fzd, w_nil, w_cons, w_bin, w_idx, w_neg, o_add, o_sub, o_mul, o_fdiv, o_mod, o_pow, o_shl, o_shr, o_and, o_or, o_xor, o_eq, o_ne, o_neB, o_lt, o_le, o_gt, o_ge, o_ixl, o_ixt, o_addl, w_tup, w_lst, w_sl, w_eno, w_part, o_sll, o_sls, w_fld, o_fld, w_prop, w_call, w_callK, w_fun1, o_lenl, o_lent, o_listl, o_listt, o_tuplel, o_tuplet, o_int, o_intb, o_abs, o_all, o_any, o_sum, w_is, w_isC, w_isN, w_notN, w_chain, w_tval, w_tand, w_tor, w_tnot, w_yes, w_eand, w_eor, w_enot, w_eif, wkp_s, wk_l, wk_t, wk_r, wk_rl, w_ilist, w_irev, w_ienum, w_range1, w_range2, w_zip, w_comp, s_next, flp_nx, flp_bk, flp_ct, flp_rt, flp_xx, s_seq, s_fz, fr_nil, fr_cons, fr_1, fr_o, fr_v, fr_u, s_set, kd_fz, kd_fl, kd_fi, s_ref, s_asgG, s_par, s_par3, s_ret, s_retV, s_retN, s_drop, s_if, s_no, s_bk, s_ct, s_for, plp_o, plp_r, llp_l, ilp_i, p_putu, s_app, s_put, p_putIu, s_attr, endP_nx, endP_rt, endP_xx, endP_bk, endP_ct, f_fn, f_init, at_0, ix_0, at_1, ix_1, at_2, ix_2, at_3, ix_3, at_4, ix_4, at_5, ix_5, at_6, ix_6, at_7, ix_7, at_8, ix_8, at_9, ix_9, at_10, ix_10, at_11, ix_11, rs_ref, rs_non, rs_bl, rs_int, rs_str, rs_tup, rs_scr, rs_lst, rs_dct, rs_ins, isL, atKs, atVs, gName, enS, List.map_cons, List.map_nil, List.length_cons, List.length_nil, List.cons_append, List.nil_append, List.getElem?_cons_succ, List.getElem?_cons_zero, List.set_cons_succ, List.set_cons_zero, List.replicate, Nat.reduceSub, Nat.reduceAdd, List.getD_cons_zero, List.getD_cons_succ, gTup, gAll, Option.bind_some, isTy, List.any_cons, List.any_nil, Bool.or_false, Bool.false_or, Bool.true_or, Bool.or_true, D.isNon, true_and, Bool.not_true, Bool.not_false, perm, Int.reduceToNat, Nat.reduceLT, Option.map_some, Nat.zero_lt_succ, decide_true, decide_false, Nat.lt_add_left_iff_pos, Nat.lt_add_one]
    refine ⟨by show (5 : Nat) ≤ maxLen; decide, ?_⟩
    obtain ⟨n, rfl⟩ := Int.eq_ofNat_of_zero_le r0
    have hn : n < 5 := by omega
    show optp (atI (([0, 0, 1, 0 - 1, 0 - 7] : List Int).map D.int) ((n : Nat) : Int)) _
    have hx : ∀ m : Fin 5, -(2 ^ 64) < ([0, 0, 1, 0 - 1, 0 - 7] : List Int)[m] ∧ ([0, 0, 1, 0 - 1, 0 - 7] : List Int)[m] < 2 ^ 64 := by decide
    have := hx ⟨n, hn⟩
    rw [atI_of, List.getElem?_map, List.getElem?_eq_getElem (by simpa using hn)]
    simp only [wp_ok, wp_ex, wp_no, wp_bind, wp_bindS, wp_noX, slp_v, slp_o, rtp_v, rtp_o, kdp_fz, kdp_fl, kdp_fi, intp_i, blp_b, trp_b, trp_i, trp_l, trp_t, trp_n, optp_s, itp_t, itp_f, itp_nd, itp_ne, lsp_l, nbp_fz, nbp_fr, typ_int, typ_bl, typ_str, typ_non, typ_lst, typ_tup, icp_ins, icp_int, icp_bl, icp_str, icp_non, icp_lst, icp_tup, zpp_l, zpp_t, prp_i, w_var, w_cst, fzp_fz, fzp_fr, w_fzd, w_nil, w_cons, w_bin, w_idx, w_neg, o_add, o_sub, o_mul, o_fdiv, o_mod, o_pow, o_shl, o_shr, o_and, o_or, o_xor, o_eq, o_ne, o_neB, o_lt, o_le, o_gt, o_ge, o_ixl, o_ixt, o_addl, w_tup, w_lst, w_sl, w_eno, w_part, o_sll, o_sls, w_fld, o_fld, w_prop, w_call, w_callK, w_fun1, o_lenl, o_lent, o_listl, o_listt, o_tuplel, o_tuplet, o_int, o_intb, o_abs, o_all, o_any, o_sum, w_is, w_isC, w_isN, w_notN, w_chain, w_tval, w_tand, w_tor, w_tnot, w_yes, w_eand, w_eor, w_enot, w_eif, wkp_s, wk_l, wk_t, wk_r, wk_rl, w_ilist, w_irev, w_ienum, w_range1, w_range2, w_zip, w_comp, s_next, flp_nx, flp_bk, flp_ct, flp_rt, flp_xx, s_seq, s_fz, fr_nil, fr_cons, fr_1, fr_o, fr_v, fr_u, s_set, kd_fz, kd_fl, kd_fi, s_ref, s_asgG, s_par, s_par3, s_ret, s_retV, s_retN, s_drop, s_if, s_no, s_bk, s_ct, s_for, plp_o, plp_r, llp_l, ilp_i, p_putu, s_app, s_put, p_putIu, s_attr, endP_nx, endP_rt, endP_xx, endP_bk, endP_ct, f_fn, f_init, at_0, ix_0, at_1, ix_1, at_2, ix_2, at_3, ix_3, at_4, ix_4, at_5, ix_5, at_6, ix_6, at_7, ix_7, at_8, ix_8, at_9, ix_9, at_10, ix_10, at_11, ix_11, rs_ref, rs_non, rs_bl, rs_int, rs_str, rs_tup, rs_scr, rs_lst, rs_dct, rs_ins, isL, atKs, atVs, gName, enS, List.map_cons, List.map_nil, List.length_cons, List.length_nil, List.cons_append, List.nil_append, List.getElem?_cons_succ, List.getElem?_cons_zero, List.set_cons_succ, List.set_cons_zero, List.replicate, Nat.reduceSub, Nat.reduceAdd, List.getD_cons_zero, List.getD_cons_succ, gTup, gAll, Option.bind_some, isTy, List.any_cons, List.any_nil, Bool.or_false, Bool.false_or, Bool.true_or, Bool.or_true, D.isNon, true_and, Bool.not_true, Bool.not_false, perm, Int.reduceToNat, Nat.reduceLT, Option.map_some, Nat.zero_lt_succ, decide_true, decide_false, Nat.lt_add_left_iff_pos, Nat.lt_add_one]
    exact ⟨mulOk_r this.1 this.2, _, rfl, hb2⟩
end
section
variable {rest st : List D} {l N B s w q g : Int}
theorem isn_ok (a b c : Int) : (w_is_number [.int a, .int b, .int c] st).Wp (fun p st' => p = (.bl (decide (b ≤ a) && decide (a ≤ c)), .fz) ∧ st' = st) NX := by
  unfold w_is_number
  rw [f_fn]
  unfold b_is_number
  simp only [wp_ok, wp_ex, wp_no, wp_bind, wp_bindS, wp_noX, slp_v, slp_o, rtp_v, rtp_o, kdp_fz, kdp_fl, kdp_fi, intp_i, blp_b, trp_b, trp_i, trp_l, trp_t, trp_n, optp_s, itp_t, itp_f, itp_nd, itp_ne, lsp_l, nbp_fz, nbp_fr, typ_int, typ_bl, typ_str, typ_non, typ_lst, typ_tup, icp_ins, icp_int, icp_bl, icp_str, icp_non, icp_lst, icp_tup, zpp_l, zpp_t, prp_i, w_var, w_cst, fzp_fz, fzp_fr, w_fzd, w_nil, w_cons, w_bin, w_idx, w_neg, o_add, o_sub, o_mul, o_fdiv, o_mod, o_pow, o_shl, o_shr, o_and, o_or, o_xor, o_eq, o_ne, o_neB, o_lt, o_le, o_gt, o_ge, o_ixl, o_ixt, o_addl, w_tup, w_lst, w_sl, w_eno, w_part, o_sll, o_sls, w_fld, o_fld, w_prop, w_call, w_callK, w_fun1, o_lenl, o_lent, o_listl, o_listt, o_tuplel, o_tuplet, o_int, o_intb, o_abs, o_all, o_any, o_sum, w_is, w_isC, w_isN, w_notN, w_chain, w_tval, w_tand, w_tor, w_tnot, w_yes, w_eand, w_eor, w_enot, w_eif, wkp_s, wk_l, wk_t, wk_r, wk_rl, w_ilist, w_irev, w_ienum, w_range1, w_range2, w_zip, w_comp, s_next, flp_nx, flp_bk, flp_ct, flp_rt, flp_xx, s_seq, s_fz, fr_nil, fr_cons, fr_1, fr_o, fr_v, fr_u, s_set, kd_fz, kd_fl, kd_fi, s_ref, s_asgG, s_par, s_par3, s_ret, s_retV, s_retN, s_drop, s_if, s_no, s_bk, s_ct, s_for, plp_o, plp_r, llp_l, ilp_i, p_putu, s_app, s_put, p_putIu, s_attr, endP_nx, endP_rt, endP_xx, endP_bk, endP_ct, f_fn, f_init, at_0, ix_0, at_1, ix_1, at_2, ix_2, at_3, ix_3, at_4, ix_4, at_5, ix_5, at_6, ix_6, at_7, ix_7, at_8, ix_8, at_9, ix_9, at_10, ix_10, at_11, ix_11, rs_ref, rs_non, rs_bl, rs_int, rs_str, rs_tup, rs_scr, rs_lst, rs_dct, rs_ins, isL, atKs, atVs, gName, enS, List.map_cons, List.map_nil, List.length_cons, List.length_nil, List.cons_append, List.nil_append, List.getElem?_cons_succ, List.getElem?_cons_zero, List.set_cons_succ, List.set_cons_zero, List.replicate, Nat.reduceSub, Nat.reduceAdd, List.getD_cons_zero, List.getD_cons_succ, gTup, gAll, Option.bind_some, isTy, List.any_cons, List.any_nil, Bool.or_false, Bool.false_or, Bool.true_or, Bool.or_true, D.isNon, true_and, Bool.not_true, Bool.not_false, perm, Int.reduceToNat, Nat.reduceLT, Option.map_some, Nat.zero_lt_succ, decide_true, decide_false, Nat.lt_add_left_iff_pos, Nat.lt_add_one]
  have any : (w_any_number [.int a] st).Wp (fun p st' => p = (.bl true, .fz) ∧ st' = st) NX := by
    unfold w_any_number
    rw [f_fn]
    unfold b_any_number
    simp only [wp_ok, wp_ex, wp_no, wp_bind, wp_bindS, wp_noX, slp_v, slp_o, rtp_v, rtp_o, kdp_fz, kdp_fl, kdp_fi, intp_i, blp_b, trp_b, trp_i, trp_l, trp_t, trp_n, optp_s, itp_t, itp_f, itp_nd, itp_ne, lsp_l, nbp_fz, nbp_fr, typ_int, typ_bl, typ_str, typ_non, typ_lst, typ_tup, icp_ins, icp_int, icp_bl, icp_str, icp_non, icp_lst, icp_tup, zpp_l, zpp_t, prp_i, w_var, w_cst, fzp_fz, fzp_fr, w_fzd, w_nil, w_cons, w_bin, w_idx, w_neg, o_add, o_sub, o_mul, o_fdiv, o_mod, o_pow, o_shl, o_shr, o_and, o_or, o_xor, o_eq, o_ne, o_neB, o_lt, o_le, o_gt, o_ge, o_ixl, o_ixt, o_addl, w_tup, w_lst, w_sl, w_eno, w_part, o_sll, o_sls, w_fld, o_fld, w_prop, w_call, w_callK, w_fun1, o_lenl, o_lent, o_listl, o_listt, o_tuplel, o_tuplet, o_int, o_intb, o_abs, o_all, o_any, o_sum, w_is, w_isC, w_isN, w_notN, w_chain, w_tval, w_tand, w_tor, w_tnot, w_yes, w_eand, w_eor, w_enot, w_eif, wkp_s, wk_l, wk_t, wk_r, wk_rl, w_ilist, w_irev, w_ienum, w_range1, w_range2, w_zip, w_comp, s_next, flp_nx, flp_bk, flp_ct, flp_rt, flp_xx, s_seq, s_fz, fr_nil, fr_cons, fr_1, fr_o, fr_v, fr_u, s_set, kd_fz, kd_fl, kd_fi, s_ref, s_asgG, s_par, s_par3, s_ret, s_retV, s_retN, s_drop, s_if, s_no, s_bk, s_ct, s_for, plp_o, plp_r, llp_l, ilp_i, p_putu, s_app, s_put, p_putIu, s_attr, endP_nx, endP_rt, endP_xx, endP_bk, endP_ct, f_fn, f_init, at_0, ix_0, at_1, ix_1, at_2, ix_2, at_3, ix_3, at_4, ix_4, at_5, ix_5, at_6, ix_6, at_7, ix_7, at_8, ix_8, at_9, ix_9, at_10, ix_10, at_11, ix_11, rs_ref, rs_non, rs_bl, rs_int, rs_str, rs_tup, rs_scr, rs_lst, rs_dct, rs_ins, isL, atKs, atVs, gName, enS, List.map_cons, List.map_nil, List.length_cons, List.length_nil, List.cons_append, List.nil_append, List.getElem?_cons_succ, List.getElem?_cons_zero, List.set_cons_succ, List.set_cons_zero, List.replicate, Nat.reduceSub, Nat.reduceAdd, List.getD_cons_zero, List.getD_cons_succ, gTup, gAll, Option.bind_some, isTy, List.any_cons, List.any_nil, Bool.or_false, Bool.false_or, Bool.true_or, Bool.or_true, D.isNon, true_and, Bool.not_true, Bool.not_false, perm, Int.reduceToNat, Nat.reduceLT, Option.map_some, Nat.zero_lt_succ, decide_true, decide_false, Nat.lt_add_left_iff_pos, Nat.lt_add_one]
  refine any.imp0 ?_
  rintro _ st' ⟨rfl, rfl⟩
  simp only [wp_ok, wp_ex, wp_no, wp_bind, wp_bindS, wp_noX, slp_v, slp_o, rtp_v, rtp_o, kdp_fz, kdp_fl, kdp_fi, intp_i, blp_b, trp_b, trp_i, trp_l, trp_t, trp_n, optp_s, itp_t, itp_f, itp_nd, itp_ne, lsp_l, nbp_fz, nbp_fr, typ_int, typ_bl, typ_str, typ_non, typ_lst, typ_tup, icp_ins, icp_int, icp_bl, icp_str, icp_non, icp_lst, icp_tup, zpp_l, zpp_t, prp_i, w_var, w_cst, fzp_fz, fzp_fr, w_fzd, w_nil, w_cons, w_bin, w_idx, w_neg, o_add, o_sub, o_mul, o_fdiv, o_mod, o_pow, o_shl, o_shr, o_and, o_or, o_xor, o_eq, o_ne, o_neB, o_lt, o_le, o_gt, o_ge, o_ixl, o_ixt, o_addl, w_tup, w_lst, w_sl, w_eno, w_part, o_sll, o_sls, w_fld, o_fld, w_prop, w_call, w_callK, w_fun1, o_lenl, o_lent, o_listl, o_listt, o_tuplel, o_tuplet, o_int, o_intb, o_abs, o_all, o_any, o_sum, w_is, w_isC, w_isN, w_notN, w_chain, w_tval, w_tand, w_tor, w_tnot, w_yes, w_eand, w_eor, w_enot, w_eif, wkp_s, wk_l, wk_t, wk_r, wk_rl, w_ilist, w_irev, w_ienum, w_range1, w_range2, w_zip, w_comp, s_next, flp_nx, flp_bk, flp_ct, flp_rt, flp_xx, s_seq, s_fz, fr_nil, fr_cons, fr_1, fr_o, fr_v, fr_u, s_set, kd_fz, kd_fl, kd_fi, s_ref, s_asgG, s_par, s_par3, s_ret, s_retV, s_retN, s_drop, s_if, s_no, s_bk, s_ct, s_for, plp_o, plp_r, llp_l, ilp_i, p_putu, s_app, s_put, p_putIu, s_attr, endP_nx, endP_rt, endP_xx, endP_bk, endP_ct, f_fn, f_init, at_0, ix_0, at_1, ix_1, at_2, ix_2, at_3, ix_3, at_4, ix_4, at_5, ix_5, at_6, ix_6, at_7, ix_7, at_8, ix_8, at_9, ix_9, at_10, ix_10, at_11, ix_11, rs_ref, rs_non, rs_bl, rs_int, rs_str, rs_tup, rs_scr, rs_lst, rs_dct, rs_ins, isL, atKs, atVs, gName, enS, List.map_cons, List.map_nil, List.length_cons, List.length_nil, List.cons_append, List.nil_append, List.getElem?_cons_succ, List.getElem?_cons_zero, List.set_cons_succ, List.set_cons_zero, List.replicate, Nat.reduceSub, Nat.reduceAdd, List.getD_cons_zero, List.getD_cons_succ, gTup, gAll, Option.bind_some, isTy, List.any_cons, List.any_nil, Bool.or_false, Bool.false_or, Bool.true_or, Bool.or_true, D.isNon, true_and, Bool.not_true, Bool.not_false, perm, Int.reduceToNat, Nat.reduceLT, Option.map_some, Nat.zero_lt_succ, decide_true, decide_false, Nat.lt_add_left_iff_pos, Nat.lt_add_one]
  refine itp_d (fun hh => ?_) fun hh => ?_
  · simp only [wp_ok, wp_ex, wp_no, wp_bind, wp_bindS, wp_noX, slp_v, slp_o, rtp_v, rtp_o, kdp_fz, kdp_fl, kdp_fi, intp_i, blp_b, trp_b, trp_i, trp_l, trp_t, trp_n, optp_s, itp_t, itp_f, itp_nd, itp_ne, lsp_l, nbp_fz, nbp_fr, typ_int, typ_bl, typ_str, typ_non, typ_lst, typ_tup, icp_ins, icp_int, icp_bl, icp_str, icp_non, icp_lst, icp_tup, zpp_l, zpp_t, prp_i, w_var, w_cst, fzp_fz, fzp_fr, w_fzd, w_nil, w_cons, w_bin, w_idx, w_neg, o_add, o_sub, o_mul, o_fdiv, o_mod, o_pow, o_shl, o_shr, o_and, o_or, o_xor, o_eq, o_ne, o_neB, o_lt, o_le, o_gt, o_ge, o_ixl, o_ixt, o_addl, w_tup, w_lst, w_sl, w_eno, w_part, o_sll, o_sls, w_fld, o_fld, w_prop, w_call, w_callK, w_fun1, o_lenl, o_lent, o_listl, o_listt, o_tuplel, o_tuplet, o_int, o_intb, o_abs, o_all, o_any, o_sum, w_is, w_isC, w_isN, w_notN, w_chain, w_tval, w_tand, w_tor, w_tnot, w_yes, w_eand, w_eor, w_enot, w_eif, wkp_s, wk_l, wk_t, wk_r, wk_rl, w_ilist, w_irev, w_ienum, w_range1, w_range2, w_zip, w_comp, s_next, flp_nx, flp_bk, flp_ct, flp_rt, flp_xx, s_seq, s_fz, fr_nil, fr_cons, fr_1, fr_o, fr_v, fr_u, s_set, kd_fz, kd_fl, kd_fi, s_ref, s_asgG, s_par, s_par3, s_ret, s_retV, s_retN, s_drop, s_if, s_no, s_bk, s_ct, s_for, plp_o, plp_r, llp_l, ilp_i, p_putu, s_app, s_put, p_putIu, s_attr, endP_nx, endP_rt, endP_xx, endP_bk, endP_ct, f_fn, f_init, at_0, ix_0, at_1, ix_1, at_2, ix_2, at_3, ix_3, at_4, ix_4, at_5, ix_5, at_6, ix_6, at_7, ix_7, at_8, ix_8, at_9, ix_9, at_10, ix_10, at_11, ix_11, rs_ref, rs_non, rs_bl, rs_int, rs_str, rs_tup, rs_scr, rs_lst, rs_dct, rs_ins, isL, atKs, atVs, gName, enS, List.map_cons, List.map_nil, List.length_cons, List.length_nil, List.cons_append, List.nil_append, List.getElem?_cons_succ, List.getElem?_cons_zero, List.set_cons_succ, List.set_cons_zero, List.replicate, Nat.reduceSub, Nat.reduceAdd, List.getD_cons_zero, List.getD_cons_succ, gTup, gAll, Option.bind_some, isTy, List.any_cons, List.any_nil, Bool.or_false, Bool.false_or, Bool.true_or, Bool.or_true, D.isNon, true_and, Bool.not_true, Bool.not_false, perm, Int.reduceToNat, Nat.reduceLT, Option.map_some, Nat.zero_lt_succ, decide_true, decide_false, Nat.lt_add_left_iff_pos, Nat.lt_add_one]
    rw [decide_eq_true hh]; exact ⟨rfl, trivial⟩
  · simp only [wp_ok, wp_ex, wp_no, wp_bind, wp_bindS, wp_noX, slp_v, slp_o, rtp_v, rtp_o, kdp_fz, kdp_fl, kdp_fi, intp_i, blp_b, trp_b, trp_i, trp_l, trp_t, trp_n, optp_s, itp_t, itp_f, itp_nd, itp_ne, lsp_l, nbp_fz, nbp_fr, typ_int, typ_bl, typ_str, typ_non, typ_lst, typ_tup, icp_ins, icp_int, icp_bl, icp_str, icp_non, icp_lst, icp_tup, zpp_l, zpp_t, prp_i, w_var, w_cst, fzp_fz, fzp_fr, w_fzd, w_nil, w_cons, w_bin, w_idx, w_neg, o_add, o_sub, o_mul, o_fdiv, o_mod, o_pow, o_shl, o_shr, o_and, o_or, o_xor, o_eq, o_ne, o_neB, o_lt, o_le, o_gt, o_ge, o_ixl, o_ixt, o_addl, w_tup, w_lst, w_sl, w_eno, w_part, o_sll, o_sls, w_fld, o_fld, w_prop, w_call, w_callK, w_fun1, o_lenl, o_lent, o_listl, o_listt, o_tuplel, o_tuplet, o_int, o_intb, o_abs, o_all, o_any, o_sum, w_is, w_isC, w_isN, w_notN, w_chain, w_tval, w_tand, w_tor, w_tnot, w_yes, w_eand, w_eor, w_enot, w_eif, wkp_s, wk_l, wk_t, wk_r, wk_rl, w_ilist, w_irev, w_ienum, w_range1, w_range2, w_zip, w_comp, s_next, flp_nx, flp_bk, flp_ct, flp_rt, flp_xx, s_seq, s_fz, fr_nil, fr_cons, fr_1, fr_o, fr_v, fr_u, s_set, kd_fz, kd_fl, kd_fi, s_ref, s_asgG, s_par, s_par3, s_ret, s_retV, s_retN, s_drop, s_if, s_no, s_bk, s_ct, s_for, plp_o, plp_r, llp_l, ilp_i, p_putu, s_app, s_put, p_putIu, s_attr, endP_nx, endP_rt, endP_xx, endP_bk, endP_ct, f_fn, f_init, at_0, ix_0, at_1, ix_1, at_2, ix_2, at_3, ix_3, at_4, ix_4, at_5, ix_5, at_6, ix_6, at_7, ix_7, at_8, ix_8, at_9, ix_9, at_10, ix_10, at_11, ix_11, rs_ref, rs_non, rs_bl, rs_int, rs_str, rs_tup, rs_scr, rs_lst, rs_dct, rs_ins, isL, atKs, atVs, gName, enS, List.map_cons, List.map_nil, List.length_cons, List.length_nil, List.cons_append, List.nil_append, List.getElem?_cons_succ, List.getElem?_cons_zero, List.set_cons_succ, List.set_cons_zero, List.replicate, Nat.reduceSub, Nat.reduceAdd, List.getD_cons_zero, List.getD_cons_succ, gTup, gAll, Option.bind_some, isTy, List.any_cons, List.any_nil, Bool.or_false, Bool.false_or, Bool.true_or, Bool.or_true, D.isNon, true_and, Bool.not_true, Bool.not_false, perm, Int.reduceToNat, Nat.reduceLT, Option.map_some, Nat.zero_lt_succ, decide_true, decide_false, Nat.lt_add_left_iff_pos, Nat.lt_add_one]
    rw [decide_eq_false hh]; exact ⟨rfl, trivial⟩
theorem mod_loop {b : SS} : True := trivial
theorem lmod_ok (h : Par l N B s w q g) : (w__law_modulus [five l N B s w] st).Wp (fun p st' => p = (.int q, .fz) ∧ st' = st) NX := by
  have hB := h.B4; have hB2 := h.B6; have hs := h.s1; have hs8 := h.s8
  unfold w__law_modulus
  rw [f_fn]
  unfold b__law_modulus
  simp only [wp_ok, wp_ex, wp_no, wp_bind, wp_bindS, wp_noX, slp_v, slp_o, rtp_v, rtp_o, kdp_fz, kdp_fl, kdp_fi, intp_i, blp_b, trp_b, trp_i, trp_l, trp_t, trp_n, optp_s, itp_t, itp_f, itp_nd, itp_ne, lsp_l, nbp_fz, nbp_fr, typ_int, typ_bl, typ_str, typ_non, typ_lst, typ_tup, icp_ins, icp_int, icp_bl, icp_str, icp_non, icp_lst, icp_tup, zpp_l, zpp_t, prp_i, w_var, w_cst, fzp_fz, fzp_fr, w_fzd, w_nil, w_cons, w_bin, w_idx, w_neg, o_add, o_sub, o_mul, o_fdiv, o_mod, o_pow, o_shl, o_shr, o_and, o_or, o_xor, o_eq, o_ne, o_neB, o_lt, o_le, o_gt, o_ge, o_ixl, o_ixt, o_addl, w_tup, w_lst, w_sl, w_eno, w_part, o_sll, o_sls, w_fld, o_fld, w_prop, w_call, w_callK, w_fun1, o_lenl, o_lent, o_listl, o_listt, o_tuplel, o_tuplet, o_int, o_intb, o_abs, o_all, o_any, o_sum, w_is, w_isC, w_isN, w_notN, w_chain, w_tval, w_tand, w_tor, w_tnot, w_yes, w_eand, w_eor, w_enot, w_eif, wkp_s, wk_l, wk_t, wk_r, wk_rl, w_ilist, w_irev, w_ienum, w_range1, w_range2, w_zip, w_comp, s_next, flp_nx, flp_bk, flp_ct, flp_rt, flp_xx, s_seq, s_fz, fr_nil, fr_cons, fr_1, fr_o, fr_v, fr_u, s_set, kd_fz, kd_fl, kd_fi, s_ref, s_asgG, s_par, s_par3, s_ret, s_retV, s_retN, s_drop, s_if, s_no, s_bk, s_ct, s_for, plp_o, plp_r, llp_l, ilp_i, p_putu, s_app, s_put, p_putIu, s_attr, endP_nx, endP_rt, endP_xx, endP_bk, endP_ct, f_fn, f_init, at_0, ix_0, at_1, ix_1, at_2, ix_2, at_3, ix_3, at_4, ix_4, at_5, ix_5, at_6, ix_6, at_7, ix_7, at_8, ix_8, at_9, ix_9, at_10, ix_10, at_11, ix_11, rs_ref, rs_non, rs_bl, rs_int, rs_str, rs_tup, rs_scr, rs_lst, rs_dct, rs_ins, isL, atKs, atVs, gName, enS, List.map_cons, List.map_nil, List.length_cons, List.length_nil, List.cons_append, List.nil_append, List.getElem?_cons_succ, List.getElem?_cons_zero, List.set_cons_succ, List.set_cons_zero, List.replicate, Nat.reduceSub, Nat.reduceAdd, List.getD_cons_zero, List.getD_cons_succ, gTup, gAll, Option.bind_some, isTy, List.any_cons, List.any_nil, Bool.or_false, Bool.false_or, Bool.true_or, Bool.or_true, D.isNon, true_and, Bool.not_true, Bool.not_false, perm, Int.reduceToNat, Nat.reduceLT, Option.map_some, Nat.zero_lt_succ, decide_true, decide_false, Nat.lt_add_left_iff_pos, Nat.lt_add_one, rs_five, five_3]
  refine ⟨decide_eq_true ⟨by omega, by omega⟩, for_ok (J := fun i ρ st' => ∃ s2, ρ = [.val (five l N B s w), .val (.int (B ^ i)), s2] ∧ st' = st) ⟨.un, by rw [Int.pow_zero], rfl⟩ ?_ ?_⟩
  · rintro i d ρ st2 hd ⟨s2, rfl, rfl⟩
    refine ⟨_, rfl, ?_⟩
    simp only [wp_ok, wp_ex, wp_no, wp_bind, wp_bindS, wp_noX, slp_v, slp_o, rtp_v, rtp_o, kdp_fz, kdp_fl, kdp_fi, intp_i, blp_b, trp_b, trp_i, trp_l, trp_t, trp_n, optp_s, itp_t, itp_f, itp_nd, itp_ne, lsp_l, nbp_fz, nbp_fr, typ_int, typ_bl, typ_str, typ_non, typ_lst, typ_tup, icp_ins, icp_int, icp_bl, icp_str, icp_non, icp_lst, icp_tup, zpp_l, zpp_t, prp_i, w_var, w_cst, fzp_fz, fzp_fr, w_fzd, w_nil, w_cons, w_bin, w_idx, w_neg, o_add, o_sub, o_mul, o_fdiv, o_mod, o_pow, o_shl, o_shr, o_and, o_or, o_xor, o_eq, o_ne, o_neB, o_lt, o_le, o_gt, o_ge, o_ixl, o_ixt, o_addl, w_tup, w_lst, w_sl, w_eno, w_part, o_sll, o_sls, w_fld, o_fld, w_prop, w_call, w_callK, w_fun1, o_lenl, o_lent, o_listl, o_listt, o_tuplel, o_tuplet, o_int, o_intb, o_abs, o_all, o_any, o_sum, w_is, w_isC, w_isN, w_notN, w_chain, w_tval, w_tand, w_tor, w_tnot, w_yes, w_eand, w_eor, w_enot, w_eif, wkp_s, wk_l, wk_t, wk_r, wk_rl, w_ilist, w_irev, w_ienum, w_range1, w_range2, w_zip, w_comp, s_next, flp_nx, flp_bk, flp_ct, flp_rt, flp_xx, s_seq, s_fz, fr_nil, fr_cons, fr_1, fr_o, fr_v, fr_u, s_set, kd_fz, kd_fl, kd_fi, s_ref, s_asgG, s_par, s_par3, s_ret, s_retV, s_retN, s_drop, s_if, s_no, s_bk, s_ct, s_for, plp_o, plp_r, llp_l, ilp_i, p_putu, s_app, s_put, p_putIu, s_attr, endP_nx, endP_rt, endP_xx, endP_bk, endP_ct, f_fn, f_init, at_0, ix_0, at_1, ix_1, at_2, ix_2, at_3, ix_3, at_4, ix_4, at_5, ix_5, at_6, ix_6, at_7, ix_7, at_8, ix_8, at_9, ix_9, at_10, ix_10, at_11, ix_11, rs_ref, rs_non, rs_bl, rs_int, rs_str, rs_tup, rs_scr, rs_lst, rs_dct, rs_ins, isL, atKs, atVs, gName, enS, List.map_cons, List.map_nil, List.length_cons, List.length_nil, List.cons_append, List.nil_append, List.getElem?_cons_succ, List.getElem?_cons_zero, List.set_cons_succ, List.set_cons_zero, List.replicate, Nat.reduceSub, Nat.reduceAdd, List.getD_cons_zero, List.getD_cons_succ, gTup, gAll, Option.bind_some, isTy, List.any_cons, List.any_nil, Bool.or_false, Bool.false_or, Bool.true_or, Bool.or_true, D.isNon, true_and, Bool.not_true, Bool.not_false, perm, Int.reduceToNat, Nat.reduceLT, Option.map_some, Nat.zero_lt_succ, decide_true, decide_false, Nat.lt_add_left_iff_pos, Nat.lt_add_one, rs_five, five_2]
    exact ⟨mulOk_r (by omega) (by omega), _, by rw [Int.pow_succ], trivial⟩
  · rintro ρ st2 ⟨s2, rfl, rfl⟩
    rw [rangeL_len]
    simp only [wp_ok, wp_ex, wp_no, wp_bind, wp_bindS, wp_noX, slp_v, slp_o, rtp_v, rtp_o, kdp_fz, kdp_fl, kdp_fi, intp_i, blp_b, trp_b, trp_i, trp_l, trp_t, trp_n, optp_s, itp_t, itp_f, itp_nd, itp_ne, lsp_l, nbp_fz, nbp_fr, typ_int, typ_bl, typ_str, typ_non, typ_lst, typ_tup, icp_ins, icp_int, icp_bl, icp_str, icp_non, icp_lst, icp_tup, zpp_l, zpp_t, prp_i, w_var, w_cst, fzp_fz, fzp_fr, w_fzd, w_nil, w_cons, w_bin, w_idx, w_neg, o_add, o_sub, o_mul, o_fdiv, o_mod, o_pow, o_shl, o_shr, o_and, o_or, o_xor, o_eq, o_ne, o_neB, o_lt, o_le, o_gt, o_ge, o_ixl, o_ixt, o_addl, w_tup, w_lst, w_sl, w_eno, w_part, o_sll, o_sls, w_fld, o_fld, w_prop, w_call, w_callK, w_fun1, o_lenl, o_lent, o_listl, o_listt, o_tuplel, o_tuplet, o_int, o_intb, o_abs, o_all, o_any, o_sum, w_is, w_isC, w_isN, w_notN, w_chain, w_tval, w_tand, w_tor, w_tnot, w_yes, w_eand, w_eor, w_enot, w_eif, wkp_s, wk_l, wk_t, wk_r, wk_rl, w_ilist, w_irev, w_ienum, w_range1, w_range2, w_zip, w_comp, s_next, flp_nx, flp_bk, flp_ct, flp_rt, flp_xx, s_seq, s_fz, fr_nil, fr_cons, fr_1, fr_o, fr_v, fr_u, s_set, kd_fz, kd_fl, kd_fi, s_ref, s_asgG, s_par, s_par3, s_ret, s_retV, s_retN, s_drop, s_if, s_no, s_bk, s_ct, s_for, plp_o, plp_r, llp_l, ilp_i, p_putu, s_app, s_put, p_putIu, s_attr, endP_nx, endP_rt, endP_xx, endP_bk, endP_ct, f_fn, f_init, at_0, ix_0, at_1, ix_1, at_2, ix_2, at_3, ix_3, at_4, ix_4, at_5, ix_5, at_6, ix_6, at_7, ix_7, at_8, ix_8, at_9, ix_9, at_10, ix_10, at_11, ix_11, rs_ref, rs_non, rs_bl, rs_int, rs_str, rs_tup, rs_scr, rs_lst, rs_dct, rs_ins, isL, atKs, atVs, gName, enS, List.map_cons, List.map_nil, List.length_cons, List.length_nil, List.cons_append, List.nil_append, List.getElem?_cons_succ, List.getElem?_cons_zero, List.set_cons_succ, List.set_cons_zero, List.replicate, Nat.reduceSub, Nat.reduceAdd, List.getD_cons_zero, List.getD_cons_succ, gTup, gAll, Option.bind_some, isTy, List.any_cons, List.any_nil, Bool.or_false, Bool.false_or, Bool.true_or, Bool.or_true, D.isNon, true_and, Bool.not_true, Bool.not_false, perm, Int.reduceToNat, Nat.reduceLT, Option.map_some, Nat.zero_lt_succ, decide_true, decide_false, Nat.lt_add_left_iff_pos, Nat.lt_add_one]
    rw [h.qe]
    exact ⟨rfl, trivial⟩
theorem frame_ok (h : Par l N B s w q g) : (w__law_frame [five l N B s w] st).Wp (fun p st' => p = (frame l N B s w q, .fr) ∧ st' = st) NX := by
  have hB := h.B4; have hB2 := h.B6; have hs := h.s1; have hs8 := h.s8
  unfold w__law_frame
  rw [f_fn]
  unfold b__law_frame
  simp only [wp_ok, wp_ex, wp_no, wp_bind, wp_bindS, wp_noX, slp_v, slp_o, rtp_v, rtp_o, kdp_fz, kdp_fl, kdp_fi, intp_i, blp_b, trp_b, trp_i, trp_l, trp_t, trp_n, optp_s, itp_t, itp_f, itp_nd, itp_ne, lsp_l, nbp_fz, nbp_fr, typ_int, typ_bl, typ_str, typ_non, typ_lst, typ_tup, icp_ins, icp_int, icp_bl, icp_str, icp_non, icp_lst, icp_tup, zpp_l, zpp_t, prp_i, w_var, w_cst, fzp_fz, fzp_fr, w_fzd, w_nil, w_cons, w_bin, w_idx, w_neg, o_add, o_sub, o_mul, o_fdiv, o_mod, o_pow, o_shl, o_shr, o_and, o_or, o_xor, o_eq, o_ne, o_neB, o_lt, o_le, o_gt, o_ge, o_ixl, o_ixt, o_addl, w_tup, w_lst, w_sl, w_eno, w_part, o_sll, o_sls, w_fld, o_fld, w_prop, w_call, w_callK, w_fun1, o_lenl, o_lent, o_listl, o_listt, o_tuplel, o_tuplet, o_int, o_intb, o_abs, o_all, o_any, o_sum, w_is, w_isC, w_isN, w_notN, w_chain, w_tval, w_tand, w_tor, w_tnot, w_yes, w_eand, w_eor, w_enot, w_eif, wkp_s, wk_l, wk_t, wk_r, wk_rl, w_ilist, w_irev, w_ienum, w_range1, w_range2, w_zip, w_comp, s_next, flp_nx, flp_bk, flp_ct, flp_rt, flp_xx, s_seq, s_fz, fr_nil, fr_cons, fr_1, fr_o, fr_v, fr_u, s_set, kd_fz, kd_fl, kd_fi, s_ref, s_asgG, s_par, s_par3, s_ret, s_retV, s_retN, s_drop, s_if, s_no, s_bk, s_ct, s_for, plp_o, plp_r, llp_l, ilp_i, p_putu, s_app, s_put, p_putIu, s_attr, endP_nx, endP_rt, endP_xx, endP_bk, endP_ct, f_fn, f_init, at_0, ix_0, at_1, ix_1, at_2, ix_2, at_3, ix_3, at_4, ix_4, at_5, ix_5, at_6, ix_6, at_7, ix_7, at_8, ix_8, at_9, ix_9, at_10, ix_10, at_11, ix_11, rs_ref, rs_non, rs_bl, rs_int, rs_str, rs_tup, rs_scr, rs_lst, rs_dct, rs_ins, isL, atKs, atVs, gName, enS, List.map_cons, List.map_nil, List.length_cons, List.length_nil, List.cons_append, List.nil_append, List.getElem?_cons_succ, List.getElem?_cons_zero, List.set_cons_succ, List.set_cons_zero, List.replicate, Nat.reduceSub, Nat.reduceAdd, List.getD_cons_zero, List.getD_cons_succ, gTup, gAll, Option.bind_some, isTy, List.any_cons, List.any_nil, Bool.or_false, Bool.false_or, Bool.true_or, Bool.or_true, D.isNon, true_and, Bool.not_true, Bool.not_false, perm, Int.reduceToNat, Nat.reduceLT, Option.map_some, Nat.zero_lt_succ, decide_true, decide_false, Nat.lt_add_left_iff_pos, Nat.lt_add_one, rs_five, five_0, five_1, five_2, five_3, five_4]
  unfold w_Sizes___init__
  rw [f_init]
  unfold b_Sizes___init__
  simp only [wp_ok, wp_ex, wp_no, wp_bind, wp_bindS, wp_noX, slp_v, slp_o, rtp_v, rtp_o, kdp_fz, kdp_fl, kdp_fi, intp_i, blp_b, trp_b, trp_i, trp_l, trp_t, trp_n, optp_s, itp_t, itp_f, itp_nd, itp_ne, lsp_l, nbp_fz, nbp_fr, typ_int, typ_bl, typ_str, typ_non, typ_lst, typ_tup, icp_ins, icp_int, icp_bl, icp_str, icp_non, icp_lst, icp_tup, zpp_l, zpp_t, prp_i, w_var, w_cst, fzp_fz, fzp_fr, w_fzd, w_nil, w_cons, w_bin, w_idx, w_neg, o_add, o_sub, o_mul, o_fdiv, o_mod, o_pow, o_shl, o_shr, o_and, o_or, o_xor, o_eq, o_ne, o_neB, o_lt, o_le, o_gt, o_ge, o_ixl, o_ixt, o_addl, w_tup, w_lst, w_sl, w_eno, w_part, o_sll, o_sls, w_fld, o_fld, w_prop, w_call, w_callK, w_fun1, o_lenl, o_lent, o_listl, o_listt, o_tuplel, o_tuplet, o_int, o_intb, o_abs, o_all, o_any, o_sum, w_is, w_isC, w_isN, w_notN, w_chain, w_tval, w_tand, w_tor, w_tnot, w_yes, w_eand, w_eor, w_enot, w_eif, wkp_s, wk_l, wk_t, wk_r, wk_rl, w_ilist, w_irev, w_ienum, w_range1, w_range2, w_zip, w_comp, s_next, flp_nx, flp_bk, flp_ct, flp_rt, flp_xx, s_seq, s_fz, fr_nil, fr_cons, fr_1, fr_o, fr_v, fr_u, s_set, kd_fz, kd_fl, kd_fi, s_ref, s_asgG, s_par, s_par3, s_ret, s_retV, s_retN, s_drop, s_if, s_no, s_bk, s_ct, s_for, plp_o, plp_r, llp_l, ilp_i, p_putu, s_app, s_put, p_putIu, s_attr, endP_nx, endP_rt, endP_xx, endP_bk, endP_ct, f_fn, f_init, at_0, ix_0, at_1, ix_1, at_2, ix_2, at_3, ix_3, at_4, ix_4, at_5, ix_5, at_6, ix_6, at_7, ix_7, at_8, ix_8, at_9, ix_9, at_10, ix_10, at_11, ix_11, rs_ref, rs_non, rs_bl, rs_int, rs_str, rs_tup, rs_scr, rs_lst, rs_dct, rs_ins, isL, atKs, atVs, gName, enS, List.map_cons, List.map_nil, List.length_cons, List.length_nil, List.cons_append, List.nil_append, List.getElem?_cons_succ, List.getElem?_cons_zero, List.set_cons_succ, List.set_cons_zero, List.replicate, Nat.reduceSub, Nat.reduceAdd, List.getD_cons_zero, List.getD_cons_succ, gTup, gAll, Option.bind_some, isTy, List.any_cons, List.any_nil, Bool.or_false, Bool.false_or, Bool.true_or, Bool.or_true, D.isNon, true_and, Bool.not_true, Bool.not_false, perm, Int.reduceToNat, Nat.reduceLT, Option.map_some, Nat.zero_lt_succ, decide_true, decide_false, Nat.lt_add_left_iff_pos, Nat.lt_add_one]
  refine (isn_ok _ _ _).imp0 ?_
  rintro _ st1 ⟨rfl, rfl⟩
  rw [decide_eq_true h.l1, decide_eq_true h.l8]
  simp only [wp_ok, wp_ex, wp_no, wp_bind, wp_bindS, wp_noX, slp_v, slp_o, rtp_v, rtp_o, kdp_fz, kdp_fl, kdp_fi, intp_i, blp_b, trp_b, trp_i, trp_l, trp_t, trp_n, optp_s, itp_t, itp_f, itp_nd, itp_ne, lsp_l, nbp_fz, nbp_fr, typ_int, typ_bl, typ_str, typ_non, typ_lst, typ_tup, icp_ins, icp_int, icp_bl, icp_str, icp_non, icp_lst, icp_tup, zpp_l, zpp_t, prp_i, w_var, w_cst, fzp_fz, fzp_fr, w_fzd, w_nil, w_cons, w_bin, w_idx, w_neg, o_add, o_sub, o_mul, o_fdiv, o_mod, o_pow, o_shl, o_shr, o_and, o_or, o_xor, o_eq, o_ne, o_neB, o_lt, o_le, o_gt, o_ge, o_ixl, o_ixt, o_addl, w_tup, w_lst, w_sl, w_eno, w_part, o_sll, o_sls, w_fld, o_fld, w_prop, w_call, w_callK, w_fun1, o_lenl, o_lent, o_listl, o_listt, o_tuplel, o_tuplet, o_int, o_intb, o_abs, o_all, o_any, o_sum, w_is, w_isC, w_isN, w_notN, w_chain, w_tval, w_tand, w_tor, w_tnot, w_yes, w_eand, w_eor, w_enot, w_eif, wkp_s, wk_l, wk_t, wk_r, wk_rl, w_ilist, w_irev, w_ienum, w_range1, w_range2, w_zip, w_comp, s_next, flp_nx, flp_bk, flp_ct, flp_rt, flp_xx, s_seq, s_fz, fr_nil, fr_cons, fr_1, fr_o, fr_v, fr_u, s_set, kd_fz, kd_fl, kd_fi, s_ref, s_asgG, s_par, s_par3, s_ret, s_retV, s_retN, s_drop, s_if, s_no, s_bk, s_ct, s_for, plp_o, plp_r, llp_l, ilp_i, p_putu, s_app, s_put, p_putIu, s_attr, endP_nx, endP_rt, endP_xx, endP_bk, endP_ct, f_fn, f_init, at_0, ix_0, at_1, ix_1, at_2, ix_2, at_3, ix_3, at_4, ix_4, at_5, ix_5, at_6, ix_6, at_7, ix_7, at_8, ix_8, at_9, ix_9, at_10, ix_10, at_11, ix_11, rs_ref, rs_non, rs_bl, rs_int, rs_str, rs_tup, rs_scr, rs_lst, rs_dct, rs_ins, isL, atKs, atVs, gName, enS, List.map_cons, List.map_nil, List.length_cons, List.length_nil, List.cons_append, List.nil_append, List.getElem?_cons_succ, List.getElem?_cons_zero, List.set_cons_succ, List.set_cons_zero, List.replicate, Nat.reduceSub, Nat.reduceAdd, List.getD_cons_zero, List.getD_cons_succ, gTup, gAll, Option.bind_some, isTy, List.any_cons, List.any_nil, Bool.or_false, Bool.false_or, Bool.true_or, Bool.or_true, D.isNon, true_and, Bool.not_true, Bool.not_false, perm, Int.reduceToNat, Nat.reduceLT, Option.map_some, Nat.zero_lt_succ, decide_true, decide_false, Nat.lt_add_left_iff_pos, Nat.lt_add_one, Bool.and_self]
  refine (isn_ok _ _ _).imp0 ?_
  rintro _ st1 ⟨rfl, rfl⟩
  rw [decide_eq_true h.N4, decide_eq_true h.N32]
  simp only [wp_ok, wp_ex, wp_no, wp_bind, wp_bindS, wp_noX, slp_v, slp_o, rtp_v, rtp_o, kdp_fz, kdp_fl, kdp_fi, intp_i, blp_b, trp_b, trp_i, trp_l, trp_t, trp_n, optp_s, itp_t, itp_f, itp_nd, itp_ne, lsp_l, nbp_fz, nbp_fr, typ_int, typ_bl, typ_str, typ_non, typ_lst, typ_tup, icp_ins, icp_int, icp_bl, icp_str, icp_non, icp_lst, icp_tup, zpp_l, zpp_t, prp_i, w_var, w_cst, fzp_fz, fzp_fr, w_fzd, w_nil, w_cons, w_bin, w_idx, w_neg, o_add, o_sub, o_mul, o_fdiv, o_mod, o_pow, o_shl, o_shr, o_and, o_or, o_xor, o_eq, o_ne, o_neB, o_lt, o_le, o_gt, o_ge, o_ixl, o_ixt, o_addl, w_tup, w_lst, w_sl, w_eno, w_part, o_sll, o_sls, w_fld, o_fld, w_prop, w_call, w_callK, w_fun1, o_lenl, o_lent, o_listl, o_listt, o_tuplel, o_tuplet, o_int, o_intb, o_abs, o_all, o_any, o_sum, w_is, w_isC, w_isN, w_notN, w_chain, w_tval, w_tand, w_tor, w_tnot, w_yes, w_eand, w_eor, w_enot, w_eif, wkp_s, wk_l, wk_t, wk_r, wk_rl, w_ilist, w_irev, w_ienum, w_range1, w_range2, w_zip, w_comp, s_next, flp_nx, flp_bk, flp_ct, flp_rt, flp_xx, s_seq, s_fz, fr_nil, fr_cons, fr_1, fr_o, fr_v, fr_u, s_set, kd_fz, kd_fl, kd_fi, s_ref, s_asgG, s_par, s_par3, s_ret, s_retV, s_retN, s_drop, s_if, s_no, s_bk, s_ct, s_for, plp_o, plp_r, llp_l, ilp_i, p_putu, s_app, s_put, p_putIu, s_attr, endP_nx, endP_rt, endP_xx, endP_bk, endP_ct, f_fn, f_init, at_0, ix_0, at_1, ix_1, at_2, ix_2, at_3, ix_3, at_4, ix_4, at_5, ix_5, at_6, ix_6, at_7, ix_7, at_8, ix_8, at_9, ix_9, at_10, ix_10, at_11, ix_11, rs_ref, rs_non, rs_bl, rs_int, rs_str, rs_tup, rs_scr, rs_lst, rs_dct, rs_ins, isL, atKs, atVs, gName, enS, List.map_cons, List.map_nil, List.length_cons, List.length_nil, List.cons_append, List.nil_append, List.getElem?_cons_succ, List.getElem?_cons_zero, List.set_cons_succ, List.set_cons_zero, List.replicate, Nat.reduceSub, Nat.reduceAdd, List.getD_cons_zero, List.getD_cons_succ, gTup, gAll, Option.bind_some, isTy, List.any_cons, List.any_nil, Bool.or_false, Bool.false_or, Bool.true_or, Bool.or_true, D.isNon, true_and, Bool.not_true, Bool.not_false, perm, Int.reduceToNat, Nat.reduceLT, Option.map_some, Nat.zero_lt_succ, decide_true, decide_false, Nat.lt_add_left_iff_pos, Nat.lt_add_one, Bool.and_self]
  rw [h.Np]
  simp only [wp_ok, wp_ex, wp_no, wp_bind, wp_bindS, wp_noX, slp_v, slp_o, rtp_v, rtp_o, kdp_fz, kdp_fl, kdp_fi, intp_i, blp_b, trp_b, trp_i, trp_l, trp_t, trp_n, optp_s, itp_t, itp_f, itp_nd, itp_ne, lsp_l, nbp_fz, nbp_fr, typ_int, typ_bl, typ_str, typ_non, typ_lst, typ_tup, icp_ins, icp_int, icp_bl, icp_str, icp_non, icp_lst, icp_tup, zpp_l, zpp_t, prp_i, w_var, w_cst, fzp_fz, fzp_fr, w_fzd, w_nil, w_cons, w_bin, w_idx, w_neg, o_add, o_sub, o_mul, o_fdiv, o_mod, o_pow, o_shl, o_shr, o_and, o_or, o_xor, o_eq, o_ne, o_neB, o_lt, o_le, o_gt, o_ge, o_ixl, o_ixt, o_addl, w_tup, w_lst, w_sl, w_eno, w_part, o_sll, o_sls, w_fld, o_fld, w_prop, w_call, w_callK, w_fun1, o_lenl, o_lent, o_listl, o_listt, o_tuplel, o_tuplet, o_int, o_intb, o_abs, o_all, o_any, o_sum, w_is, w_isC, w_isN, w_notN, w_chain, w_tval, w_tand, w_tor, w_tnot, w_yes, w_eand, w_eor, w_enot, w_eif, wkp_s, wk_l, wk_t, wk_r, wk_rl, w_ilist, w_irev, w_ienum, w_range1, w_range2, w_zip, w_comp, s_next, flp_nx, flp_bk, flp_ct, flp_rt, flp_xx, s_seq, s_fz, fr_nil, fr_cons, fr_1, fr_o, fr_v, fr_u, s_set, kd_fz, kd_fl, kd_fi, s_ref, s_asgG, s_par, s_par3, s_ret, s_retV, s_retN, s_drop, s_if, s_no, s_bk, s_ct, s_for, plp_o, plp_r, llp_l, ilp_i, p_putu, s_app, s_put, p_putIu, s_attr, endP_nx, endP_rt, endP_xx, endP_bk, endP_ct, f_fn, f_init, at_0, ix_0, at_1, ix_1, at_2, ix_2, at_3, ix_3, at_4, ix_4, at_5, ix_5, at_6, ix_6, at_7, ix_7, at_8, ix_8, at_9, ix_9, at_10, ix_10, at_11, ix_11, rs_ref, rs_non, rs_bl, rs_int, rs_str, rs_tup, rs_scr, rs_lst, rs_dct, rs_ins, isL, atKs, atVs, gName, enS, List.map_cons, List.map_nil, List.length_cons, List.length_nil, List.cons_append, List.nil_append, List.getElem?_cons_succ, List.getElem?_cons_zero, List.set_cons_succ, List.set_cons_zero, List.replicate, Nat.reduceSub, Nat.reduceAdd, List.getD_cons_zero, List.getD_cons_succ, gTup, gAll, Option.bind_some, isTy, List.any_cons, List.any_nil, Bool.or_false, Bool.false_or, Bool.true_or, Bool.or_true, D.isNon, true_and, Bool.not_true, Bool.not_false, perm, Int.reduceToNat, Nat.reduceLT, Option.map_some, Nat.zero_lt_succ, decide_true, decide_false, Nat.lt_add_left_iff_pos, Nat.lt_add_one, decide_true]
  refine (isn_ok _ _ _).imp0 ?_
  rintro _ st1 ⟨rfl, rfl⟩
  rw [decide_eq_true h.B4, decide_eq_true h.B6]
  simp only [wp_ok, wp_ex, wp_no, wp_bind, wp_bindS, wp_noX, slp_v, slp_o, rtp_v, rtp_o, kdp_fz, kdp_fl, kdp_fi, intp_i, blp_b, trp_b, trp_i, trp_l, trp_t, trp_n, optp_s, itp_t, itp_f, itp_nd, itp_ne, lsp_l, nbp_fz, nbp_fr, typ_int, typ_bl, typ_str, typ_non, typ_lst, typ_tup, icp_ins, icp_int, icp_bl, icp_str, icp_non, icp_lst, icp_tup, zpp_l, zpp_t, prp_i, w_var, w_cst, fzp_fz, fzp_fr, w_fzd, w_nil, w_cons, w_bin, w_idx, w_neg, o_add, o_sub, o_mul, o_fdiv, o_mod, o_pow, o_shl, o_shr, o_and, o_or, o_xor, o_eq, o_ne, o_neB, o_lt, o_le, o_gt, o_ge, o_ixl, o_ixt, o_addl, w_tup, w_lst, w_sl, w_eno, w_part, o_sll, o_sls, w_fld, o_fld, w_prop, w_call, w_callK, w_fun1, o_lenl, o_lent, o_listl, o_listt, o_tuplel, o_tuplet, o_int, o_intb, o_abs, o_all, o_any, o_sum, w_is, w_isC, w_isN, w_notN, w_chain, w_tval, w_tand, w_tor, w_tnot, w_yes, w_eand, w_eor, w_enot, w_eif, wkp_s, wk_l, wk_t, wk_r, wk_rl, w_ilist, w_irev, w_ienum, w_range1, w_range2, w_zip, w_comp, s_next, flp_nx, flp_bk, flp_ct, flp_rt, flp_xx, s_seq, s_fz, fr_nil, fr_cons, fr_1, fr_o, fr_v, fr_u, s_set, kd_fz, kd_fl, kd_fi, s_ref, s_asgG, s_par, s_par3, s_ret, s_retV, s_retN, s_drop, s_if, s_no, s_bk, s_ct, s_for, plp_o, plp_r, llp_l, ilp_i, p_putu, s_app, s_put, p_putIu, s_attr, endP_nx, endP_rt, endP_xx, endP_bk, endP_ct, f_fn, f_init, at_0, ix_0, at_1, ix_1, at_2, ix_2, at_3, ix_3, at_4, ix_4, at_5, ix_5, at_6, ix_6, at_7, ix_7, at_8, ix_8, at_9, ix_9, at_10, ix_10, at_11, ix_11, rs_ref, rs_non, rs_bl, rs_int, rs_str, rs_tup, rs_scr, rs_lst, rs_dct, rs_ins, isL, atKs, atVs, gName, enS, List.map_cons, List.map_nil, List.length_cons, List.length_nil, List.cons_append, List.nil_append, List.getElem?_cons_succ, List.getElem?_cons_zero, List.set_cons_succ, List.set_cons_zero, List.replicate, Nat.reduceSub, Nat.reduceAdd, List.getD_cons_zero, List.getD_cons_succ, gTup, gAll, Option.bind_some, isTy, List.any_cons, List.any_nil, Bool.or_false, Bool.false_or, Bool.true_or, Bool.or_true, D.isNon, true_and, Bool.not_true, Bool.not_false, perm, Int.reduceToNat, Nat.reduceLT, Option.map_some, Nat.zero_lt_succ, decide_true, decide_false, Nat.lt_add_left_iff_pos, Nat.lt_add_one, Bool.and_self]
  rw [h.Bp]
  simp only [wp_ok, wp_ex, wp_no, wp_bind, wp_bindS, wp_noX, slp_v, slp_o, rtp_v, rtp_o, kdp_fz, kdp_fl, kdp_fi, intp_i, blp_b, trp_b, trp_i, trp_l, trp_t, trp_n, optp_s, itp_t, itp_f, itp_nd, itp_ne, lsp_l, nbp_fz, nbp_fr, typ_int, typ_bl, typ_str, typ_non, typ_lst, typ_tup, icp_ins, icp_int, icp_bl, icp_str, icp_non, icp_lst, icp_tup, zpp_l, zpp_t, prp_i, w_var, w_cst, fzp_fz, fzp_fr, w_fzd, w_nil, w_cons, w_bin, w_idx, w_neg, o_add, o_sub, o_mul, o_fdiv, o_mod, o_pow, o_shl, o_shr, o_and, o_or, o_xor, o_eq, o_ne, o_neB, o_lt, o_le, o_gt, o_ge, o_ixl, o_ixt, o_addl, w_tup, w_lst, w_sl, w_eno, w_part, o_sll, o_sls, w_fld, o_fld, w_prop, w_call, w_callK, w_fun1, o_lenl, o_lent, o_listl, o_listt, o_tuplel, o_tuplet, o_int, o_intb, o_abs, o_all, o_any, o_sum, w_is, w_isC, w_isN, w_notN, w_chain, w_tval, w_tand, w_tor, w_tnot, w_yes, w_eand, w_eor, w_enot, w_eif, wkp_s, wk_l, wk_t, wk_r, wk_rl, w_ilist, w_irev, w_ienum, w_range1, w_range2, w_zip, w_comp, s_next, flp_nx, flp_bk, flp_ct, flp_rt, flp_xx, s_seq, s_fz, fr_nil, fr_cons, fr_1, fr_o, fr_v, fr_u, s_set, kd_fz, kd_fl, kd_fi, s_ref, s_asgG, s_par, s_par3, s_ret, s_retV, s_retN, s_drop, s_if, s_no, s_bk, s_ct, s_for, plp_o, plp_r, llp_l, ilp_i, p_putu, s_app, s_put, p_putIu, s_attr, endP_nx, endP_rt, endP_xx, endP_bk, endP_ct, f_fn, f_init, at_0, ix_0, at_1, ix_1, at_2, ix_2, at_3, ix_3, at_4, ix_4, at_5, ix_5, at_6, ix_6, at_7, ix_7, at_8, ix_8, at_9, ix_9, at_10, ix_10, at_11, ix_11, rs_ref, rs_non, rs_bl, rs_int, rs_str, rs_tup, rs_scr, rs_lst, rs_dct, rs_ins, isL, atKs, atVs, gName, enS, List.map_cons, List.map_nil, List.length_cons, List.length_nil, List.cons_append, List.nil_append, List.getElem?_cons_succ, List.getElem?_cons_zero, List.set_cons_succ, List.set_cons_zero, List.replicate, Nat.reduceSub, Nat.reduceAdd, List.getD_cons_zero, List.getD_cons_succ, gTup, gAll, Option.bind_some, isTy, List.any_cons, List.any_nil, Bool.or_false, Bool.false_or, Bool.true_or, Bool.or_true, D.isNon, true_and, Bool.not_true, Bool.not_false, perm, Int.reduceToNat, Nat.reduceLT, Option.map_some, Nat.zero_lt_succ, decide_true, decide_false, Nat.lt_add_left_iff_pos, Nat.lt_add_one, decide_true]
  refine (isn_ok _ _ _).imp0 ?_
  rintro _ st1 ⟨rfl, rfl⟩
  rw [decide_eq_true h.s1, decide_eq_true h.s8]
  simp only [wp_ok, wp_ex, wp_no, wp_bind, wp_bindS, wp_noX, slp_v, slp_o, rtp_v, rtp_o, kdp_fz, kdp_fl, kdp_fi, intp_i, blp_b, trp_b, trp_i, trp_l, trp_t, trp_n, optp_s, itp_t, itp_f, itp_nd, itp_ne, lsp_l, nbp_fz, nbp_fr, typ_int, typ_bl, typ_str, typ_non, typ_lst, typ_tup, icp_ins, icp_int, icp_bl, icp_str, icp_non, icp_lst, icp_tup, zpp_l, zpp_t, prp_i, w_var, w_cst, fzp_fz, fzp_fr, w_fzd, w_nil, w_cons, w_bin, w_idx, w_neg, o_add, o_sub, o_mul, o_fdiv, o_mod, o_pow, o_shl, o_shr, o_and, o_or, o_xor, o_eq, o_ne, o_neB, o_lt, o_le, o_gt, o_ge, o_ixl, o_ixt, o_addl, w_tup, w_lst, w_sl, w_eno, w_part, o_sll, o_sls, w_fld, o_fld, w_prop, w_call, w_callK, w_fun1, o_lenl, o_lent, o_listl, o_listt, o_tuplel, o_tuplet, o_int, o_intb, o_abs, o_all, o_any, o_sum, w_is, w_isC, w_isN, w_notN, w_chain, w_tval, w_tand, w_tor, w_tnot, w_yes, w_eand, w_eor, w_enot, w_eif, wkp_s, wk_l, wk_t, wk_r, wk_rl, w_ilist, w_irev, w_ienum, w_range1, w_range2, w_zip, w_comp, s_next, flp_nx, flp_bk, flp_ct, flp_rt, flp_xx, s_seq, s_fz, fr_nil, fr_cons, fr_1, fr_o, fr_v, fr_u, s_set, kd_fz, kd_fl, kd_fi, s_ref, s_asgG, s_par, s_par3, s_ret, s_retV, s_retN, s_drop, s_if, s_no, s_bk, s_ct, s_for, plp_o, plp_r, llp_l, ilp_i, p_putu, s_app, s_put, p_putIu, s_attr, endP_nx, endP_rt, endP_xx, endP_bk, endP_ct, f_fn, f_init, at_0, ix_0, at_1, ix_1, at_2, ix_2, at_3, ix_3, at_4, ix_4, at_5, ix_5, at_6, ix_6, at_7, ix_7, at_8, ix_8, at_9, ix_9, at_10, ix_10, at_11, ix_11, rs_ref, rs_non, rs_bl, rs_int, rs_str, rs_tup, rs_scr, rs_lst, rs_dct, rs_ins, isL, atKs, atVs, gName, enS, List.map_cons, List.map_nil, List.length_cons, List.length_nil, List.cons_append, List.nil_append, List.getElem?_cons_succ, List.getElem?_cons_zero, List.set_cons_succ, List.set_cons_zero, List.replicate, Nat.reduceSub, Nat.reduceAdd, List.getD_cons_zero, List.getD_cons_succ, gTup, gAll, Option.bind_some, isTy, List.any_cons, List.any_nil, Bool.or_false, Bool.false_or, Bool.true_or, Bool.or_true, D.isNon, true_and, Bool.not_true, Bool.not_false, perm, Int.reduceToNat, Nat.reduceLT, Option.map_some, Nat.zero_lt_succ, decide_true, decide_false, Nat.lt_add_left_iff_pos, Nat.lt_add_one, Bool.and_self]
  refine (isn_ok _ _ _).imp0 ?_
  rintro _ st1 ⟨rfl, rfl⟩
  rw [decide_eq_true h.w0, decide_eq_true h.w1]
  simp only [wp_ok, wp_ex, wp_no, wp_bind, wp_bindS, wp_noX, slp_v, slp_o, rtp_v, rtp_o, kdp_fz, kdp_fl, kdp_fi, intp_i, blp_b, trp_b, trp_i, trp_l, trp_t, trp_n, optp_s, itp_t, itp_f, itp_nd, itp_ne, lsp_l, nbp_fz, nbp_fr, typ_int, typ_bl, typ_str, typ_non, typ_lst, typ_tup, icp_ins, icp_int, icp_bl, icp_str, icp_non, icp_lst, icp_tup, zpp_l, zpp_t, prp_i, w_var, w_cst, fzp_fz, fzp_fr, w_fzd, w_nil, w_cons, w_bin, w_idx, w_neg, o_add, o_sub, o_mul, o_fdiv, o_mod, o_pow, o_shl, o_shr, o_and, o_or, o_xor, o_eq, o_ne, o_neB, o_lt, o_le, o_gt, o_ge, o_ixl, o_ixt, o_addl, w_tup, w_lst, w_sl, w_eno, w_part, o_sll, o_sls, w_fld, o_fld, w_prop, w_call, w_callK, w_fun1, o_lenl, o_lent, o_listl, o_listt, o_tuplel, o_tuplet, o_int, o_intb, o_abs, o_all, o_any, o_sum, w_is, w_isC, w_isN, w_notN, w_chain, w_tval, w_tand, w_tor, w_tnot, w_yes, w_eand, w_eor, w_enot, w_eif, wkp_s, wk_l, wk_t, wk_r, wk_rl, w_ilist, w_irev, w_ienum, w_range1, w_range2, w_zip, w_comp, s_next, flp_nx, flp_bk, flp_ct, flp_rt, flp_xx, s_fz, fr_nil, fr_cons, fr_1, fr_o, fr_v, fr_u, s_set, kd_fz, kd_fl, kd_fi, s_ref, s_asgG, s_par, s_par3, s_ret, s_retV, s_retN, s_drop, s_no, s_bk, s_ct, plp_o, plp_r, llp_l, ilp_i, p_putu, s_app, s_put, p_putIu, s_attr, endP_nx, endP_rt, endP_xx, endP_bk, endP_ct, f_fn, f_init, at_0, ix_0, at_1, ix_1, at_2, ix_2, at_3, ix_3, at_4, ix_4, at_5, ix_5, at_6, ix_6, at_7, ix_7, at_8, ix_8, at_9, ix_9, at_10, ix_10, at_11, ix_11, rs_ref, rs_non, rs_bl, rs_int, rs_str, rs_tup, rs_scr, rs_lst, rs_dct, rs_ins, isL, atKs, atVs, gName, enS, List.map_cons, List.map_nil, List.length_cons, List.length_nil, List.cons_append, List.nil_append, List.getElem?_cons_succ, List.getElem?_cons_zero, List.set_cons_succ, List.set_cons_zero, List.replicate, Nat.reduceSub, Nat.reduceAdd, List.getD_cons_zero, List.getD_cons_succ, gTup, gAll, Option.bind_some, isTy, List.any_cons, List.any_nil, Bool.or_false, Bool.false_or, Bool.true_or, Bool.or_true, D.isNon, true_and, Bool.not_true, Bool.not_false, perm, Int.reduceToNat, Nat.reduceLT, Option.map_some, Nat.zero_lt_succ, decide_true, decide_false, Nat.lt_add_left_iff_pos, Nat.lt_add_one, Bool.and_self, s_if]
  rw [s_seq]
  simp only [wp_ok, wp_ex, wp_no, wp_bind, wp_bindS, wp_noX, slp_v, slp_o, rtp_v, rtp_o, kdp_fz, kdp_fl, kdp_fi, intp_i, blp_b, trp_b, trp_i, trp_l, trp_t, trp_n, optp_s, itp_t, itp_f, itp_nd, itp_ne, lsp_l, nbp_fz, nbp_fr, typ_int, typ_bl, typ_str, typ_non, typ_lst, typ_tup, icp_ins, icp_int, icp_bl, icp_str, icp_non, icp_lst, icp_tup, zpp_l, zpp_t, prp_i, w_var, w_cst, fzp_fz, fzp_fr, w_fzd, w_nil, w_cons, w_bin, w_idx, w_neg, o_add, o_sub, o_mul, o_fdiv, o_mod, o_pow, o_shl, o_shr, o_and, o_or, o_xor, o_eq, o_ne, o_neB, o_lt, o_le, o_gt, o_ge, o_ixl, o_ixt, o_addl, w_tup, w_lst, w_sl, w_eno, w_part, o_sll, o_sls, w_fld, o_fld, w_prop, w_call, w_callK, w_fun1, o_lenl, o_lent, o_listl, o_listt, o_tuplel, o_tuplet, o_int, o_intb, o_abs, o_all, o_any, o_sum, w_is, w_isC, w_isN, w_notN, w_chain, w_tval, w_tand, w_tor, w_tnot, w_yes, w_eand, w_eor, w_enot, w_eif, wkp_s, wk_l, wk_t, wk_r, wk_rl, w_ilist, w_irev, w_ienum, w_range1, w_range2, w_zip, w_comp, s_next, flp_nx, flp_bk, flp_ct, flp_rt, flp_xx, s_fz, fr_nil, fr_cons, fr_1, fr_o, fr_v, fr_u, s_set, kd_fz, kd_fl, kd_fi, s_ref, s_asgG, s_par, s_par3, s_ret, s_retV, s_retN, s_drop, s_no, s_bk, s_ct, plp_o, plp_r, llp_l, ilp_i, p_putu, s_app, s_put, p_putIu, s_attr, endP_nx, endP_rt, endP_xx, endP_bk, endP_ct, f_fn, f_init, at_0, ix_0, at_1, ix_1, at_2, ix_2, at_3, ix_3, at_4, ix_4, at_5, ix_5, at_6, ix_6, at_7, ix_7, at_8, ix_8, at_9, ix_9, at_10, ix_10, at_11, ix_11, rs_ref, rs_non, rs_bl, rs_int, rs_str, rs_tup, rs_scr, rs_lst, rs_dct, rs_ins, isL, atKs, atVs, gName, enS, List.map_cons, List.map_nil, List.length_cons, List.length_nil, List.cons_append, List.nil_append, List.getElem?_cons_succ, List.getElem?_cons_zero, List.set_cons_succ, List.set_cons_zero, List.replicate, Nat.reduceSub, Nat.reduceAdd, List.getD_cons_zero, List.getD_cons_succ, gTup, gAll, Option.bind_some, isTy, List.any_cons, List.any_nil, Bool.or_false, Bool.false_or, Bool.true_or, Bool.or_true, D.isNon, true_and, Bool.not_true, Bool.not_false, perm, Int.reduceToNat, Nat.reduceLT, Option.map_some, Nat.zero_lt_succ, decide_true, decide_false, Nat.lt_add_left_iff_pos, Nat.lt_add_one]
  rw [s_seq]
  refine R.Wp.imp (P := fun (f : Fl) st2 => ∃ s7, f = .nx [.own (.ins "Sizes" [] []), .val (.int l), .val (.int N), .val (.int B), .val (.int s), .val (.int w), .val (.int q), s7] ∧ st2 = st1) ?_ ?_
  · simp only [wp_ok, wp_ex, wp_no, wp_bind, wp_bindS, wp_noX, slp_v, slp_o, rtp_v, rtp_o, kdp_fz, kdp_fl, kdp_fi, intp_i, blp_b, trp_b, trp_i, trp_l, trp_t, trp_n, optp_s, itp_t, itp_f, itp_nd, itp_ne, lsp_l, nbp_fz, nbp_fr, typ_int, typ_bl, typ_str, typ_non, typ_lst, typ_tup, icp_ins, icp_int, icp_bl, icp_str, icp_non, icp_lst, icp_tup, zpp_l, zpp_t, prp_i, w_var, w_cst, fzp_fz, fzp_fr, w_fzd, w_nil, w_cons, w_bin, w_idx, w_neg, o_add, o_sub, o_mul, o_fdiv, o_mod, o_pow, o_shl, o_shr, o_and, o_or, o_xor, o_eq, o_ne, o_neB, o_lt, o_le, o_gt, o_ge, o_ixl, o_ixt, o_addl, w_tup, w_lst, w_sl, w_eno, w_part, o_sll, o_sls, w_fld, o_fld, w_prop, w_call, w_callK, w_fun1, o_lenl, o_lent, o_listl, o_listt, o_tuplel, o_tuplet, o_int, o_intb, o_abs, o_all, o_any, o_sum, w_is, w_isC, w_isN, w_notN, w_chain, w_tval, w_tand, w_tor, w_tnot, w_yes, w_eand, w_eor, w_enot, w_eif, wkp_s, wk_l, wk_t, wk_r, wk_rl, w_ilist, w_irev, w_ienum, w_range1, w_range2, w_zip, w_comp, s_next, flp_nx, flp_bk, flp_ct, flp_rt, flp_xx, s_seq, s_fz, fr_nil, fr_cons, fr_1, fr_o, fr_v, fr_u, s_set, kd_fz, kd_fl, kd_fi, s_ref, s_asgG, s_par, s_par3, s_ret, s_retV, s_retN, s_drop, s_if, s_no, s_bk, s_ct, s_for, plp_o, plp_r, llp_l, ilp_i, p_putu, s_app, s_put, p_putIu, s_attr, endP_nx, endP_rt, endP_xx, endP_bk, endP_ct, f_fn, f_init, at_0, ix_0, at_1, ix_1, at_2, ix_2, at_3, ix_3, at_4, ix_4, at_5, ix_5, at_6, ix_6, at_7, ix_7, at_8, ix_8, at_9, ix_9, at_10, ix_10, at_11, ix_11, rs_ref, rs_non, rs_bl, rs_int, rs_str, rs_tup, rs_scr, rs_lst, rs_dct, rs_ins, isL, atKs, atVs, gName, enS, List.map_cons, List.map_nil, List.length_cons, List.length_nil, List.cons_append, List.nil_append, List.getElem?_cons_succ, List.getElem?_cons_zero, List.set_cons_succ, List.set_cons_zero, List.replicate, Nat.reduceSub, Nat.reduceAdd, List.getD_cons_zero, List.getD_cons_succ, gTup, gAll, Option.bind_some, isTy, List.any_cons, List.any_nil, Bool.or_false, Bool.false_or, Bool.true_or, Bool.or_true, D.isNon, true_and, Bool.not_true, Bool.not_false, perm, Int.reduceToNat, Nat.reduceLT, Option.map_some, Nat.zero_lt_succ, decide_true, decide_false, Nat.lt_add_left_iff_pos, Nat.lt_add_one]
    refine ⟨decide_eq_true ⟨by omega, by omega⟩, for_ok (J := fun i ρ st' => ∃ s2, ρ = [.own (.ins "Sizes" [] []), .val (.int l), .val (.int N), .val (.int B), .val (.int s), .val (.int w), .val (.int (B ^ i)), s2] ∧ st' = st1) ⟨.un, by rw [Int.pow_zero], rfl⟩ ?_ ?_⟩
    · rintro i d ρ st2 hd ⟨s2, rfl, rfl⟩
      refine ⟨_, rfl, ?_⟩
      simp only [wp_ok, wp_ex, wp_no, wp_bind, wp_bindS, wp_noX, slp_v, slp_o, rtp_v, rtp_o, kdp_fz, kdp_fl, kdp_fi, intp_i, blp_b, trp_b, trp_i, trp_l, trp_t, trp_n, optp_s, itp_t, itp_f, itp_nd, itp_ne, lsp_l, nbp_fz, nbp_fr, typ_int, typ_bl, typ_str, typ_non, typ_lst, typ_tup, icp_ins, icp_int, icp_bl, icp_str, icp_non, icp_lst, icp_tup, zpp_l, zpp_t, prp_i, w_var, w_cst, fzp_fz, fzp_fr, w_fzd, w_nil, w_cons, w_bin, w_idx, w_neg, o_add, o_sub, o_mul, o_fdiv, o_mod, o_pow, o_shl, o_shr, o_and, o_or, o_xor, o_eq, o_ne, o_neB, o_lt, o_le, o_gt, o_ge, o_ixl, o_ixt, o_addl, w_tup, w_lst, w_sl, w_eno, w_part, o_sll, o_sls, w_fld, o_fld, w_prop, w_call, w_callK, w_fun1, o_lenl, o_lent, o_listl, o_listt, o_tuplel, o_tuplet, o_int, o_intb, o_abs, o_all, o_any, o_sum, w_is, w_isC, w_isN, w_notN, w_chain, w_tval, w_tand, w_tor, w_tnot, w_yes, w_eand, w_eor, w_enot, w_eif, wkp_s, wk_l, wk_t, wk_r, wk_rl, w_ilist, w_irev, w_ienum, w_range1, w_range2, w_zip, w_comp, s_next, flp_nx, flp_bk, flp_ct, flp_rt, flp_xx, s_seq, s_fz, fr_nil, fr_cons, fr_1, fr_o, fr_v, fr_u, s_set, kd_fz, kd_fl, kd_fi, s_ref, s_asgG, s_par, s_par3, s_ret, s_retV, s_retN, s_drop, s_if, s_no, s_bk, s_ct, s_for, plp_o, plp_r, llp_l, ilp_i, p_putu, s_app, s_put, p_putIu, s_attr, endP_nx, endP_rt, endP_xx, endP_bk, endP_ct, f_fn, f_init, at_0, ix_0, at_1, ix_1, at_2, ix_2, at_3, ix_3, at_4, ix_4, at_5, ix_5, at_6, ix_6, at_7, ix_7, at_8, ix_8, at_9, ix_9, at_10, ix_10, at_11, ix_11, rs_ref, rs_non, rs_bl, rs_int, rs_str, rs_tup, rs_scr, rs_lst, rs_dct, rs_ins, isL, atKs, atVs, gName, enS, List.map_cons, List.map_nil, List.length_cons, List.length_nil, List.cons_append, List.nil_append, List.getElem?_cons_succ, List.getElem?_cons_zero, List.set_cons_succ, List.set_cons_zero, List.replicate, Nat.reduceSub, Nat.reduceAdd, List.getD_cons_zero, List.getD_cons_succ, gTup, gAll, Option.bind_some, isTy, List.any_cons, List.any_nil, Bool.or_false, Bool.false_or, Bool.true_or, Bool.or_true, D.isNon, true_and, Bool.not_true, Bool.not_false, perm, Int.reduceToNat, Nat.reduceLT, Option.map_some, Nat.zero_lt_succ, decide_true, decide_false, Nat.lt_add_left_iff_pos, Nat.lt_add_one]
      exact ⟨mulOk_r (by omega) (by omega), _, by rw [Int.pow_succ], trivial⟩
    · rintro ρ st2 ⟨s2, rfl, rfl⟩
      rw [rangeL_len, h.qe]
      exact ⟨_, rfl, rfl⟩
  · rintro _ st2 ⟨s7, rfl, rfl⟩
    simp only [wp_ok, wp_ex, wp_no, wp_bind, wp_bindS, wp_noX, slp_v, slp_o, rtp_v, rtp_o, kdp_fz, kdp_fl, kdp_fi, intp_i, blp_b, trp_b, trp_i, trp_l, trp_t, trp_n, optp_s, itp_t, itp_f, itp_nd, itp_ne, lsp_l, nbp_fz, nbp_fr, typ_int, typ_bl, typ_str, typ_non, typ_lst, typ_tup, icp_ins, icp_int, icp_bl, icp_str, icp_non, icp_lst, icp_tup, zpp_l, zpp_t, prp_i, w_var, w_cst, fzp_fz, fzp_fr, w_fzd, w_nil, w_cons, w_bin, w_idx, w_neg, o_add, o_sub, o_mul, o_fdiv, o_mod, o_pow, o_shl, o_shr, o_and, o_or, o_xor, o_eq, o_ne, o_neB, o_lt, o_le, o_gt, o_ge, o_ixl, o_ixt, o_addl, w_tup, w_lst, w_sl, w_eno, w_part, o_sll, o_sls, w_fld, o_fld, w_prop, w_call, w_callK, w_fun1, o_lenl, o_lent, o_listl, o_listt, o_tuplel, o_tuplet, o_int, o_intb, o_abs, o_all, o_any, o_sum, w_is, w_isC, w_isN, w_notN, w_chain, w_tval, w_tand, w_tor, w_tnot, w_yes, w_eand, w_eor, w_enot, w_eif, wkp_s, wk_l, wk_t, wk_r, wk_rl, w_ilist, w_irev, w_ienum, w_range1, w_range2, w_zip, w_comp, s_next, flp_nx, flp_bk, flp_ct, flp_rt, flp_xx, s_seq, s_fz, fr_nil, fr_cons, fr_1, fr_o, fr_v, fr_u, s_set, kd_fz, kd_fl, kd_fi, s_ref, s_asgG, s_par, s_par3, s_ret, s_retV, s_retN, s_drop, s_if, s_no, s_bk, s_ct, s_for, plp_o, plp_r, llp_l, ilp_i, p_putu, s_app, s_put, p_putIu, s_attr, endP_nx, endP_rt, endP_xx, endP_bk, endP_ct, f_fn, f_init, at_0, ix_0, at_1, ix_1, at_2, ix_2, at_3, ix_3, at_4, ix_4, at_5, ix_5, at_6, ix_6, at_7, ix_7, at_8, ix_8, at_9, ix_9, at_10, ix_10, at_11, ix_11, rs_ref, rs_non, rs_bl, rs_int, rs_str, rs_tup, rs_scr, rs_lst, rs_dct, rs_ins, isL, atKs, atVs, gName, enS, List.map_cons, List.map_nil, List.length_cons, List.length_nil, List.cons_append, List.nil_append, List.getElem?_cons_succ, List.getElem?_cons_zero, List.set_cons_succ, List.set_cons_zero, List.replicate, Nat.reduceSub, Nat.reduceAdd, List.getD_cons_zero, List.getD_cons_succ, gTup, gAll, Option.bind_some, isTy, List.any_cons, List.any_nil, Bool.or_false, Bool.false_or, Bool.true_or, Bool.or_true, D.isNon, true_and, Bool.not_true, Bool.not_false, perm, Int.reduceToNat, Nat.reduceLT, Option.map_some, Nat.zero_lt_succ, decide_true, decide_false, Nat.lt_add_left_iff_pos, Nat.lt_add_one]
    refine ⟨mulOk_l (by decide) (by decide), ?_⟩
    rw [decide_eq_false (by have := h.q16; omega)]
    simp only [wp_ok, wp_ex, wp_no, wp_bind, wp_bindS, wp_noX, slp_v, slp_o, rtp_v, rtp_o, kdp_fz, kdp_fl, kdp_fi, intp_i, blp_b, trp_b, trp_i, trp_l, trp_t, trp_n, optp_s, itp_t, itp_f, itp_nd, itp_ne, lsp_l, nbp_fz, nbp_fr, typ_int, typ_bl, typ_str, typ_non, typ_lst, typ_tup, icp_ins, icp_int, icp_bl, icp_str, icp_non, icp_lst, icp_tup, zpp_l, zpp_t, prp_i, w_var, w_cst, fzp_fz, fzp_fr, w_fzd, w_nil, w_cons, w_bin, w_idx, w_neg, o_add, o_sub, o_mul, o_fdiv, o_mod, o_pow, o_shl, o_shr, o_and, o_or, o_xor, o_eq, o_ne, o_neB, o_lt, o_le, o_gt, o_ge, o_ixl, o_ixt, o_addl, w_tup, w_lst, w_sl, w_eno, w_part, o_sll, o_sls, w_fld, o_fld, w_prop, w_call, w_callK, w_fun1, o_lenl, o_lent, o_listl, o_listt, o_tuplel, o_tuplet, o_int, o_intb, o_abs, o_all, o_any, o_sum, w_is, w_isC, w_isN, w_notN, w_chain, w_tval, w_tand, w_tor, w_tnot, w_yes, w_eand, w_eor, w_enot, w_eif, wkp_s, wk_l, wk_t, wk_r, wk_rl, w_ilist, w_irev, w_ienum, w_range1, w_range2, w_zip, w_comp, s_next, flp_nx, flp_bk, flp_ct, flp_rt, flp_xx, s_seq, s_fz, fr_nil, fr_cons, fr_1, fr_o, fr_v, fr_u, s_set, kd_fz, kd_fl, kd_fi, s_ref, s_asgG, s_par, s_par3, s_ret, s_retV, s_retN, s_drop, s_if, s_no, s_bk, s_ct, s_for, plp_o, plp_r, llp_l, ilp_i, p_putu, s_app, s_put, p_putIu, s_attr, endP_nx, endP_rt, endP_xx, endP_bk, endP_ct, f_fn, f_init, at_0, ix_0, at_1, ix_1, at_2, ix_2, at_3, ix_3, at_4, ix_4, at_5, ix_5, at_6, ix_6, at_7, ix_7, at_8, ix_8, at_9, ix_9, at_10, ix_10, at_11, ix_11, rs_ref, rs_non, rs_bl, rs_int, rs_str, rs_tup, rs_scr, rs_lst, rs_dct, rs_ins, isL, atKs, atVs, gName, enS, List.map_cons, List.map_nil, List.length_cons, List.length_nil, List.cons_append, List.nil_append, List.getElem?_cons_succ, List.getElem?_cons_zero, List.set_cons_succ, List.set_cons_zero, List.replicate, Nat.reduceSub, Nat.reduceAdd, List.getD_cons_zero, List.getD_cons_succ, gTup, gAll, Option.bind_some, isTy, List.any_cons, List.any_nil, Bool.or_false, Bool.false_or, Bool.true_or, Bool.or_true, D.isNon, true_and, Bool.not_true, Bool.not_false, perm, Int.reduceToNat, Nat.reduceLT, Option.map_some, Nat.zero_lt_succ, decide_true, decide_false, Nat.lt_add_left_iff_pos, Nat.lt_add_one]
    refine ⟨by decide, by decide, by decide, by decide, rfl, ?_⟩
    exact ⟨rfl, rfl⟩
theorem pow_nat (n : Nat) : (1 : Int) * 2 ^ n = ((2 ^ n : Nat) : Int) := by rw [Int.one_mul]; simp
theorem five_ok (hb : Bag rest st) : (w__law_five [.ref 0] st).Wp (fun p st' => ∃ l N B s w q g, p = (five l N B s w, .fz) ∧ Par l N B s w q g ∧ Bag rest st') NX := by
  unfold w__law_five
  rw [f_fn]
  unfold b__law_five
  rw [s_seq]
  simp only [wp_ok, wp_ex, wp_no, wp_bind, wp_bindS, wp_noX, slp_v, slp_o, rtp_v, rtp_o, kdp_fz, kdp_fl, kdp_fi, intp_i, blp_b, trp_b, trp_i, trp_l, trp_t, trp_n, optp_s, itp_t, itp_f, itp_nd, itp_ne, lsp_l, nbp_fz, nbp_fr, typ_int, typ_bl, typ_str, typ_non, typ_lst, typ_tup, icp_ins, icp_int, icp_bl, icp_str, icp_non, icp_lst, icp_tup, zpp_l, zpp_t, prp_i, w_var, w_cst, fzp_fz, fzp_fr, w_fzd, w_nil, w_cons, w_bin, w_idx, w_neg, o_add, o_sub, o_mul, o_fdiv, o_mod, o_pow, o_shl, o_shr, o_and, o_or, o_xor, o_eq, o_ne, o_neB, o_lt, o_le, o_gt, o_ge, o_ixl, o_ixt, o_addl, w_tup, w_lst, w_sl, w_eno, w_part, o_sll, o_sls, w_fld, o_fld, w_prop, w_call, w_callK, w_fun1, o_lenl, o_lent, o_listl, o_listt, o_tuplel, o_tuplet, o_int, o_intb, o_abs, o_all, o_any, o_sum, w_is, w_isC, w_isN, w_notN, w_chain, w_tval, w_tand, w_tor, w_tnot, w_yes, w_eand, w_eor, w_enot, w_eif, wkp_s, wk_l, wk_t, wk_r, wk_rl, w_ilist, w_irev, w_ienum, w_range1, w_range2, w_zip, w_comp, s_next, flp_nx, flp_bk, flp_ct, flp_rt, flp_xx, s_fz, fr_nil, fr_cons, fr_1, fr_o, fr_v, fr_u, s_set, kd_fz, kd_fl, kd_fi, s_ref, s_asgG, s_par, s_par3, s_ret, s_retV, s_retN, s_drop, s_no, s_bk, s_ct, plp_o, plp_r, llp_l, ilp_i, p_putu, s_app, s_put, p_putIu, s_attr, endP_nx, endP_rt, endP_xx, endP_bk, endP_ct, f_fn, f_init, at_0, ix_0, at_1, ix_1, at_2, ix_2, at_3, ix_3, at_4, ix_4, at_5, ix_5, at_6, ix_6, at_7, ix_7, at_8, ix_8, at_9, ix_9, at_10, ix_10, at_11, ix_11, rs_ref, rs_non, rs_bl, rs_int, rs_str, rs_tup, rs_scr, rs_lst, rs_dct, rs_ins, isL, atKs, atVs, gName, enS, List.map_cons, List.map_nil, List.length_cons, List.length_nil, List.cons_append, List.nil_append, List.getElem?_cons_succ, List.getElem?_cons_zero, List.set_cons_succ, List.set_cons_zero, List.replicate, Nat.reduceSub, Nat.reduceAdd, List.getD_cons_zero, List.getD_cons_succ, gTup, gAll, Option.bind_some, isTy, List.any_cons, List.any_nil, Bool.or_false, Bool.false_or, Bool.true_or, Bool.or_true, D.isNon, true_and, Bool.not_true, Bool.not_false, perm, Int.reduceToNat, Nat.reduceLT, Option.map_some, Nat.zero_lt_succ, decide_true, decide_false, Nat.lt_add_left_iff_pos, Nat.lt_add_one]
  refine ⟨by show (5 : Nat) ≤ maxLen; decide, (of_i (ks := [1, 0, 1, 2, 3]) hb (by simp) (by decide)).imp0 ?_⟩
  rintro _ st1 ⟨k, hk, rfl, hb1⟩
  have hk : k = 0 ∨ k = 1 ∨ k = 2 ∨ k = 3 := by
    simp only [List.mem_cons, List.not_mem_nil, or_false] at hk
    omega
  simp only [wp_ok, wp_ex, wp_no, wp_bind, wp_bindS, wp_noX, slp_v, slp_o, rtp_v, rtp_o, kdp_fz, kdp_fl, kdp_fi, intp_i, blp_b, trp_b, trp_i, trp_l, trp_t, trp_n, optp_s, itp_t, itp_f, itp_nd, itp_ne, lsp_l, nbp_fz, nbp_fr, typ_int, typ_bl, typ_str, typ_non, typ_lst, typ_tup, icp_ins, icp_int, icp_bl, icp_str, icp_non, icp_lst, icp_tup, zpp_l, zpp_t, prp_i, w_var, w_cst, fzp_fz, fzp_fr, w_fzd, w_nil, w_cons, w_bin, w_idx, w_neg, o_add, o_sub, o_mul, o_fdiv, o_mod, o_pow, o_shl, o_shr, o_and, o_or, o_xor, o_eq, o_ne, o_neB, o_lt, o_le, o_gt, o_ge, o_ixl, o_ixt, o_addl, w_tup, w_lst, w_sl, w_eno, w_part, o_sll, o_sls, w_fld, o_fld, w_prop, w_call, w_callK, w_fun1, o_lenl, o_lent, o_listl, o_listt, o_tuplel, o_tuplet, o_int, o_intb, o_abs, o_all, o_any, o_sum, w_is, w_isC, w_isN, w_notN, w_chain, w_tval, w_tand, w_tor, w_tnot, w_yes, w_eand, w_eor, w_enot, w_eif, wkp_s, wk_l, wk_t, wk_r, wk_rl, w_ilist, w_irev, w_ienum, w_range1, w_range2, w_zip, w_comp, s_next, flp_nx, flp_bk, flp_ct, flp_rt, flp_xx, s_fz, fr_nil, fr_cons, fr_1, fr_o, fr_v, fr_u, s_set, kd_fz, kd_fl, kd_fi, s_ref, s_asgG, s_par, s_par3, s_ret, s_retV, s_retN, s_drop, s_no, s_bk, s_ct, plp_o, plp_r, llp_l, ilp_i, p_putu, s_app, s_put, p_putIu, s_attr, endP_nx, endP_rt, endP_xx, endP_bk, endP_ct, f_fn, f_init, at_0, ix_0, at_1, ix_1, at_2, ix_2, at_3, ix_3, at_4, ix_4, at_5, ix_5, at_6, ix_6, at_7, ix_7, at_8, ix_8, at_9, ix_9, at_10, ix_10, at_11, ix_11, rs_ref, rs_non, rs_bl, rs_int, rs_str, rs_tup, rs_scr, rs_lst, rs_dct, rs_ins, isL, atKs, atVs, gName, enS, List.map_cons, List.map_nil, List.length_cons, List.length_nil, List.cons_append, List.nil_append, List.getElem?_cons_succ, List.getElem?_cons_zero, List.set_cons_succ, List.set_cons_zero, List.replicate, Nat.reduceSub, Nat.reduceAdd, List.getD_cons_zero, List.getD_cons_succ, gTup, gAll, Option.bind_some, isTy, List.any_cons, List.any_nil, Bool.or_false, Bool.false_or, Bool.true_or, Bool.or_true, D.isNon, true_and, Bool.not_true, Bool.not_false, perm, Int.reduceToNat, Nat.reduceLT, Option.map_some, Nat.zero_lt_succ, decide_true, decide_false, Nat.lt_add_left_iff_pos, Nat.lt_add_one]
  refine (draw_ok hb1 (by decide) (big_of (by decide))).imp0 ?_
  rintro _ st2 ⟨p, rfl, p0, p1, hb2⟩
  simp only [wp_ok, wp_ex, wp_no, wp_bind, wp_bindS, wp_noX, slp_v, slp_o, rtp_v, rtp_o, kdp_fz, kdp_fl, kdp_fi, intp_i, blp_b, trp_b, trp_i, trp_l, trp_t, trp_n, optp_s, itp_t, itp_f, itp_nd, itp_ne, lsp_l, nbp_fz, nbp_fr, typ_int, typ_bl, typ_str, typ_non, typ_lst, typ_tup, icp_ins, icp_int, icp_bl, icp_str, icp_non, icp_lst, icp_tup, zpp_l, zpp_t, prp_i, w_var, w_cst, fzp_fz, fzp_fr, w_fzd, w_nil, w_cons, w_bin, w_idx, w_neg, o_add, o_sub, o_mul, o_fdiv, o_mod, o_pow, o_shl, o_shr, o_and, o_or, o_xor, o_eq, o_ne, o_neB, o_lt, o_le, o_gt, o_ge, o_ixl, o_ixt, o_addl, w_tup, w_lst, w_sl, w_eno, w_part, o_sll, o_sls, w_fld, o_fld, w_prop, w_call, w_callK, w_fun1, o_lenl, o_lent, o_listl, o_listt, o_tuplel, o_tuplet, o_int, o_intb, o_abs, o_all, o_any, o_sum, w_is, w_isC, w_isN, w_notN, w_chain, w_tval, w_tand, w_tor, w_tnot, w_yes, w_eand, w_eor, w_enot, w_eif, wkp_s, wk_l, wk_t, wk_r, wk_rl, w_ilist, w_irev, w_ienum, w_range1, w_range2, w_zip, w_comp, s_next, flp_nx, flp_bk, flp_ct, flp_rt, flp_xx, s_fz, fr_nil, fr_cons, fr_1, fr_o, fr_v, fr_u, s_set, kd_fz, kd_fl, kd_fi, s_ref, s_asgG, s_par, s_par3, s_ret, s_retV, s_retN, s_drop, s_no, s_bk, s_ct, plp_o, plp_r, llp_l, ilp_i, p_putu, s_app, s_put, p_putIu, s_attr, endP_nx, endP_rt, endP_xx, endP_bk, endP_ct, f_fn, f_init, at_0, ix_0, at_1, ix_1, at_2, ix_2, at_3, ix_3, at_4, ix_4, at_5, ix_5, at_6, ix_6, at_7, ix_7, at_8, ix_8, at_9, ix_9, at_10, ix_10, at_11, ix_11, rs_ref, rs_non, rs_bl, rs_int, rs_str, rs_tup, rs_scr, rs_lst, rs_dct, rs_ins, isL, atKs, atVs, gName, enS, List.map_cons, List.map_nil, List.length_cons, List.length_nil, List.cons_append, List.nil_append, List.getElem?_cons_succ, List.getElem?_cons_zero, List.set_cons_succ, List.set_cons_zero, List.replicate, Nat.reduceSub, Nat.reduceAdd, List.getD_cons_zero, List.getD_cons_succ, gTup, gAll, Option.bind_some, isTy, List.any_cons, List.any_nil, Bool.or_false, Bool.false_or, Bool.true_or, Bool.or_true, D.isNon, true_and, Bool.not_true, Bool.not_false, perm, Int.reduceToNat, Nat.reduceLT, Option.map_some, Nat.zero_lt_succ, decide_true, decide_false, Nat.lt_add_left_iff_pos, Nat.lt_add_one]
  refine (draw_ok hb2 (by decide) (big_of (by decide))).imp0 ?_
  rintro _ st3 ⟨r, rfl, r0, r1, hb3⟩
  simp only [wp_ok, wp_ex, wp_no, wp_bind, wp_bindS, wp_noX, slp_v, slp_o, rtp_v, rtp_o, kdp_fz, kdp_fl, kdp_fi, intp_i, blp_b, trp_b, trp_i, trp_l, trp_t, trp_n, optp_s, itp_t, itp_f, itp_nd, itp_ne, lsp_l, nbp_fz, nbp_fr, typ_int, typ_bl, typ_str, typ_non, typ_lst, typ_tup, icp_ins, icp_int, icp_bl, icp_str, icp_non, icp_lst, icp_tup, zpp_l, zpp_t, prp_i, w_var, w_cst, fzp_fz, fzp_fr, w_fzd, w_nil, w_cons, w_bin, w_idx, w_neg, o_add, o_sub, o_mul, o_fdiv, o_mod, o_pow, o_shl, o_shr, o_and, o_or, o_xor, o_eq, o_ne, o_neB, o_lt, o_le, o_gt, o_ge, o_ixl, o_ixt, o_addl, w_tup, w_lst, w_sl, w_eno, w_part, o_sll, o_sls, w_fld, o_fld, w_prop, w_call, w_callK, w_fun1, o_lenl, o_lent, o_listl, o_listt, o_tuplel, o_tuplet, o_int, o_intb, o_abs, o_all, o_any, o_sum, w_is, w_isC, w_isN, w_notN, w_chain, w_tval, w_tand, w_tor, w_tnot, w_yes, w_eand, w_eor, w_enot, w_eif, wkp_s, wk_l, wk_t, wk_r, wk_rl, w_ilist, w_irev, w_ienum, w_range1, w_range2, w_zip, w_comp, s_next, flp_nx, flp_bk, flp_ct, flp_rt, flp_xx, s_fz, fr_nil, fr_cons, fr_1, fr_o, fr_v, fr_u, s_set, kd_fz, kd_fl, kd_fi, s_ref, s_asgG, s_par, s_par3, s_ret, s_retV, s_retN, s_drop, s_no, s_bk, s_ct, plp_o, plp_r, llp_l, ilp_i, p_putu, s_app, s_put, p_putIu, s_attr, endP_nx, endP_rt, endP_xx, endP_bk, endP_ct, f_fn, f_init, at_0, ix_0, at_1, ix_1, at_2, ix_2, at_3, ix_3, at_4, ix_4, at_5, ix_5, at_6, ix_6, at_7, ix_7, at_8, ix_8, at_9, ix_9, at_10, ix_10, at_11, ix_11, rs_ref, rs_non, rs_bl, rs_int, rs_str, rs_tup, rs_scr, rs_lst, rs_dct, rs_ins, isL, atKs, atVs, gName, enS, List.map_cons, List.map_nil, List.length_cons, List.length_nil, List.cons_append, List.nil_append, List.getElem?_cons_succ, List.getElem?_cons_zero, List.set_cons_succ, List.set_cons_zero, List.replicate, Nat.reduceSub, Nat.reduceAdd, List.getD_cons_zero, List.getD_cons_succ, gTup, gAll, Option.bind_some, isTy, List.any_cons, List.any_nil, Bool.or_false, Bool.false_or, Bool.true_or, Bool.or_true, D.isNon, true_and, Bool.not_true, Bool.not_false, perm, Int.reduceToNat, Nat.reduceLT, Option.map_some, Nat.zero_lt_succ, decide_true, decide_false, Nat.lt_add_left_iff_pos, Nat.lt_add_one]
  refine ⟨by show (6 : Nat) ≤ maxLen; decide, (of_i (ks := [1, 0, 1, 2, 3, r]) hb3 (by simp) (by show (6 : Nat) < 1000; decide)).imp0 ?_⟩
  rintro _ st4 ⟨t, ht, rfl, hb4⟩
  have ht : 0 ≤ t ∧ t < 8 := by
    simp only [List.mem_cons, List.not_mem_nil, or_false] at ht
    omega
  simp only [wp_ok, wp_ex, wp_no, wp_bind, wp_bindS, wp_noX, slp_v, slp_o, rtp_v, rtp_o, kdp_fz, kdp_fl, kdp_fi, intp_i, blp_b, trp_b, trp_i, trp_l, trp_t, trp_n, optp_s, itp_t, itp_f, itp_nd, itp_ne, lsp_l, nbp_fz, nbp_fr, typ_int, typ_bl, typ_str, typ_non, typ_lst, typ_tup, icp_ins, icp_int, icp_bl, icp_str, icp_non, icp_lst, icp_tup, zpp_l, zpp_t, prp_i, w_var, w_cst, fzp_fz, fzp_fr, w_fzd, w_nil, w_cons, w_bin, w_idx, w_neg, o_add, o_sub, o_mul, o_fdiv, o_mod, o_pow, o_shl, o_shr, o_and, o_or, o_xor, o_eq, o_ne, o_neB, o_lt, o_le, o_gt, o_ge, o_ixl, o_ixt, o_addl, w_tup, w_lst, w_sl, w_eno, w_part, o_sll, o_sls, w_fld, o_fld, w_prop, w_call, w_callK, w_fun1, o_lenl, o_lent, o_listl, o_listt, o_tuplel, o_tuplet, o_int, o_intb, o_abs, o_all, o_any, o_sum, w_is, w_isC, w_isN, w_notN, w_chain, w_tval, w_tand, w_tor, w_tnot, w_yes, w_eand, w_eor, w_enot, w_eif, wkp_s, wk_l, wk_t, wk_r, wk_rl, w_ilist, w_irev, w_ienum, w_range1, w_range2, w_zip, w_comp, s_next, flp_nx, flp_bk, flp_ct, flp_rt, flp_xx, s_fz, fr_nil, fr_cons, fr_1, fr_o, fr_v, fr_u, s_set, kd_fz, kd_fl, kd_fi, s_ref, s_asgG, s_par, s_par3, s_ret, s_retV, s_retN, s_drop, s_no, s_bk, s_ct, plp_o, plp_r, llp_l, ilp_i, p_putu, s_app, s_put, p_putIu, s_attr, endP_nx, endP_rt, endP_xx, endP_bk, endP_ct, f_fn, f_init, at_0, ix_0, at_1, ix_1, at_2, ix_2, at_3, ix_3, at_4, ix_4, at_5, ix_5, at_6, ix_6, at_7, ix_7, at_8, ix_8, at_9, ix_9, at_10, ix_10, at_11, ix_11, rs_ref, rs_non, rs_bl, rs_int, rs_str, rs_tup, rs_scr, rs_lst, rs_dct, rs_ins, isL, atKs, atVs, gName, enS, List.map_cons, List.map_nil, List.length_cons, List.length_nil, List.cons_append, List.nil_append, List.getElem?_cons_succ, List.getElem?_cons_zero, List.set_cons_succ, List.set_cons_zero, List.replicate, Nat.reduceSub, Nat.reduceAdd, List.getD_cons_zero, List.getD_cons_succ, gTup, gAll, Option.bind_some, isTy, List.any_cons, List.any_nil, Bool.or_false, Bool.false_or, Bool.true_or, Bool.or_true, D.isNon, true_and, Bool.not_true, Bool.not_false, perm, Int.reduceToNat, Nat.reduceLT, Option.map_some, Nat.zero_lt_succ, decide_true, decide_false, Nat.lt_add_left_iff_pos, Nat.lt_add_one]
  rw [s_seq]
  refine R.Wp.imp (P := fun (f : Fl) st5 => ∃ s, f = .nx [.val (.ref 0), .val (.int (2 + k)), .val (.int (2 + p)), .val (.int s), .un] ∧ st5 = st4 ∧ 1 ≤ s ∧ s ≤ 8 ∧ 4 + (2 + k) ≤ (2 + p) * s) ?_ ?_
  · simp only [wp_ok, wp_ex, wp_no, wp_bind, wp_bindS, wp_noX, slp_v, slp_o, rtp_v, rtp_o, kdp_fz, kdp_fl, kdp_fi, intp_i, blp_b, trp_b, trp_i, trp_l, trp_t, trp_n, optp_s, itp_t, itp_f, itp_nd, itp_ne, lsp_l, nbp_fz, nbp_fr, typ_int, typ_bl, typ_str, typ_non, typ_lst, typ_tup, icp_ins, icp_int, icp_bl, icp_str, icp_non, icp_lst, icp_tup, zpp_l, zpp_t, prp_i, w_var, w_cst, fzp_fz, fzp_fr, w_fzd, w_nil, w_cons, w_bin, w_idx, w_neg, o_add, o_sub, o_mul, o_fdiv, o_mod, o_pow, o_shl, o_shr, o_and, o_or, o_xor, o_eq, o_ne, o_neB, o_lt, o_le, o_gt, o_ge, o_ixl, o_ixt, o_addl, w_tup, w_lst, w_sl, w_eno, w_part, o_sll, o_sls, w_fld, o_fld, w_prop, w_call, w_callK, w_fun1, o_lenl, o_lent, o_listl, o_listt, o_tuplel, o_tuplet, o_int, o_intb, o_abs, o_all, o_any, o_sum, w_is, w_isC, w_isN, w_notN, w_chain, w_tval, w_tand, w_tor, w_tnot, w_yes, w_eand, w_eor, w_enot, w_eif, wkp_s, wk_l, wk_t, wk_r, wk_rl, w_ilist, w_irev, w_ienum, w_range1, w_range2, w_zip, w_comp, s_next, flp_nx, flp_bk, flp_ct, flp_rt, flp_xx, s_seq, s_fz, fr_nil, fr_cons, fr_1, fr_o, fr_v, fr_u, s_set, kd_fz, kd_fl, kd_fi, s_ref, s_asgG, s_par, s_par3, s_ret, s_retV, s_retN, s_drop, s_if, s_no, s_bk, s_ct, s_for, plp_o, plp_r, llp_l, ilp_i, p_putu, s_app, s_put, p_putIu, s_attr, endP_nx, endP_rt, endP_xx, endP_bk, endP_ct, f_fn, f_init, at_0, ix_0, at_1, ix_1, at_2, ix_2, at_3, ix_3, at_4, ix_4, at_5, ix_5, at_6, ix_6, at_7, ix_7, at_8, ix_8, at_9, ix_9, at_10, ix_10, at_11, ix_11, rs_ref, rs_non, rs_bl, rs_int, rs_str, rs_tup, rs_scr, rs_lst, rs_dct, rs_ins, isL, atKs, atVs, gName, enS, List.map_cons, List.map_nil, List.length_cons, List.length_nil, List.cons_append, List.nil_append, List.getElem?_cons_succ, List.getElem?_cons_zero, List.set_cons_succ, List.set_cons_zero, List.replicate, Nat.reduceSub, Nat.reduceAdd, List.getD_cons_zero, List.getD_cons_succ, gTup, gAll, Option.bind_some, isTy, List.any_cons, List.any_nil, Bool.or_false, Bool.false_or, Bool.true_or, Bool.or_true, D.isNon, true_and, Bool.not_true, Bool.not_false, perm, Int.reduceToNat, Nat.reduceLT, Option.map_some, Nat.zero_lt_succ, decide_true, decide_false, Nat.lt_add_left_iff_pos, Nat.lt_add_one]
    refine ⟨mulOk_l (by omega) (by omega), itp_d (fun hlt => ?_) fun hlt => ?_⟩
    · simp only [wp_ok, wp_ex, wp_no, wp_bind, wp_bindS, wp_noX, slp_v, slp_o, rtp_v, rtp_o, kdp_fz, kdp_fl, kdp_fi, intp_i, blp_b, trp_b, trp_i, trp_l, trp_t, trp_n, optp_s, itp_t, itp_f, itp_nd, itp_ne, lsp_l, nbp_fz, nbp_fr, typ_int, typ_bl, typ_str, typ_non, typ_lst, typ_tup, icp_ins, icp_int, icp_bl, icp_str, icp_non, icp_lst, icp_tup, zpp_l, zpp_t, prp_i, w_var, w_cst, fzp_fz, fzp_fr, w_fzd, w_nil, w_cons, w_bin, w_idx, w_neg, o_add, o_sub, o_mul, o_fdiv, o_mod, o_pow, o_shl, o_shr, o_and, o_or, o_xor, o_eq, o_ne, o_neB, o_lt, o_le, o_gt, o_ge, o_ixl, o_ixt, o_addl, w_tup, w_lst, w_sl, w_eno, w_part, o_sll, o_sls, w_fld, o_fld, w_prop, w_call, w_callK, w_fun1, o_lenl, o_lent, o_listl, o_listt, o_tuplel, o_tuplet, o_int, o_intb, o_abs, o_all, o_any, o_sum, w_is, w_isC, w_isN, w_notN, w_chain, w_tval, w_tand, w_tor, w_tnot, w_yes, w_eand, w_eor, w_enot, w_eif, wkp_s, wk_l, wk_t, wk_r, wk_rl, w_ilist, w_irev, w_ienum, w_range1, w_range2, w_zip, w_comp, s_next, flp_nx, flp_bk, flp_ct, flp_rt, flp_xx, s_seq, s_fz, fr_nil, fr_cons, fr_1, fr_o, fr_v, fr_u, s_set, kd_fz, kd_fl, kd_fi, s_ref, s_asgG, s_par, s_par3, s_ret, s_retV, s_retN, s_drop, s_if, s_no, s_bk, s_ct, s_for, plp_o, plp_r, llp_l, ilp_i, p_putu, s_app, s_put, p_putIu, s_attr, endP_nx, endP_rt, endP_xx, endP_bk, endP_ct, f_fn, f_init, at_0, ix_0, at_1, ix_1, at_2, ix_2, at_3, ix_3, at_4, ix_4, at_5, ix_5, at_6, ix_6, at_7, ix_7, at_8, ix_8, at_9, ix_9, at_10, ix_10, at_11, ix_11, rs_ref, rs_non, rs_bl, rs_int, rs_str, rs_tup, rs_scr, rs_lst, rs_dct, rs_ins, isL, atKs, atVs, gName, enS, List.map_cons, List.map_nil, List.length_cons, List.length_nil, List.cons_append, List.nil_append, List.getElem?_cons_succ, List.getElem?_cons_zero, List.set_cons_succ, List.set_cons_zero, List.replicate, Nat.reduceSub, Nat.reduceAdd, List.getD_cons_zero, List.getD_cons_succ, gTup, gAll, Option.bind_some, isTy, List.any_cons, List.any_nil, Bool.or_false, Bool.false_or, Bool.true_or, Bool.or_true, D.isNon, true_and, Bool.not_true, Bool.not_false, perm, Int.reduceToNat, Nat.reduceLT, Option.map_some, Nat.zero_lt_succ, decide_true, decide_false, Nat.lt_add_left_iff_pos, Nat.lt_add_one]
      refine ⟨⟨by omega, big_of (by omega)⟩, _, rfl, ?_⟩
      have h1 := Int.mul_ediv_add_emod (3 + (2 + k) + (2 + p)) (2 + p)
      have h2 := Int.emod_lt_of_pos (3 + (2 + k) + (2 + p)) (show 0 < 2 + p by omega)
      have h3 := Int.emod_nonneg (3 + (2 + k) + (2 + p)) (show 2 + p ≠ 0 by omega)
      refine ⟨?_, ?_, by omega⟩
      · exact Int.le_ediv_of_mul_le (by omega) (by omega)
      · refine Int.le_of_lt_add_one (Int.ediv_lt_of_lt_mul (by omega) ?_)
        omega
    · exact ⟨_, rfl, rfl, by omega, by omega, by omega⟩
  · rintro _ st5 ⟨s, rfl, rfl, s1, s8, hps⟩
    simp only [wp_ok, wp_ex, wp_no, wp_bind, wp_bindS, wp_noX, slp_v, slp_o, rtp_v, rtp_o, kdp_fz, kdp_fl, kdp_fi, intp_i, blp_b, trp_b, trp_i, trp_l, trp_t, trp_n, optp_s, itp_t, itp_f, itp_nd, itp_ne, lsp_l, nbp_fz, nbp_fr, typ_int, typ_bl, typ_str, typ_non, typ_lst, typ_tup, icp_ins, icp_int, icp_bl, icp_str, icp_non, icp_lst, icp_tup, zpp_l, zpp_t, prp_i, w_var, w_cst, fzp_fz, fzp_fr, w_fzd, w_nil, w_cons, w_bin, w_idx, w_neg, o_add, o_sub, o_mul, o_fdiv, o_mod, o_pow, o_shl, o_shr, o_and, o_or, o_xor, o_eq, o_ne, o_neB, o_lt, o_le, o_gt, o_ge, o_ixl, o_ixt, o_addl, w_tup, w_lst, w_sl, w_eno, w_part, o_sll, o_sls, w_fld, o_fld, w_prop, w_call, w_callK, w_fun1, o_lenl, o_lent, o_listl, o_listt, o_tuplel, o_tuplet, o_int, o_intb, o_abs, o_all, o_any, o_sum, w_is, w_isC, w_isN, w_notN, w_chain, w_tval, w_tand, w_tor, w_tnot, w_yes, w_eand, w_eor, w_enot, w_eif, wkp_s, wk_l, wk_t, wk_r, wk_rl, w_ilist, w_irev, w_ienum, w_range1, w_range2, w_zip, w_comp, s_next, flp_nx, flp_bk, flp_ct, flp_rt, flp_xx, s_seq, s_fz, fr_nil, fr_cons, fr_1, fr_o, fr_v, fr_u, s_set, kd_fz, kd_fl, kd_fi, s_ref, s_asgG, s_par, s_par3, s_ret, s_retV, s_retN, s_drop, s_if, s_no, s_bk, s_ct, s_for, plp_o, plp_r, llp_l, ilp_i, p_putu, s_app, s_put, p_putIu, s_attr, endP_nx, endP_rt, endP_xx, endP_bk, endP_ct, f_fn, f_init, at_0, ix_0, at_1, ix_1, at_2, ix_2, at_3, ix_3, at_4, ix_4, at_5, ix_5, at_6, ix_6, at_7, ix_7, at_8, ix_8, at_9, ix_9, at_10, ix_10, at_11, ix_11, rs_ref, rs_non, rs_bl, rs_int, rs_str, rs_tup, rs_scr, rs_lst, rs_dct, rs_ins, isL, atKs, atVs, gName, enS, List.map_cons, List.map_nil, List.length_cons, List.length_nil, List.cons_append, List.nil_append, List.getElem?_cons_succ, List.getElem?_cons_zero, List.set_cons_succ, List.set_cons_zero, List.replicate, Nat.reduceSub, Nat.reduceAdd, List.getD_cons_zero, List.getD_cons_succ, gTup, gAll, Option.bind_some, isTy, List.any_cons, List.any_nil, Bool.or_false, Bool.false_or, Bool.true_or, Bool.or_true, D.isNon, true_and, Bool.not_true, Bool.not_false, perm, Int.reduceToNat, Nat.reduceLT, Option.map_some, Nat.zero_lt_succ, decide_true, decide_false, Nat.lt_add_left_iff_pos, Nat.lt_add_one]
    refine (draw_ok hb4 (by decide) (big_of (by decide))).imp0 ?_
    rintro _ st6 ⟨r2, rfl, r20, r21, hb6⟩
    simp only [wp_ok, wp_ex, wp_no, wp_bind, wp_bindS, wp_noX, slp_v, slp_o, rtp_v, rtp_o, kdp_fz, kdp_fl, kdp_fi, intp_i, blp_b, trp_b, trp_i, trp_l, trp_t, trp_n, optp_s, itp_t, itp_f, itp_nd, itp_ne, lsp_l, nbp_fz, nbp_fr, typ_int, typ_bl, typ_str, typ_non, typ_lst, typ_tup, icp_ins, icp_int, icp_bl, icp_str, icp_non, icp_lst, icp_tup, zpp_l, zpp_t, prp_i, w_var, w_cst, fzp_fz, fzp_fr, w_fzd, w_nil, w_cons, w_bin, w_idx, w_neg, o_add, o_sub, o_mul, o_fdiv, o_mod, o_pow, o_shl, o_shr, o_and, o_or, o_xor, o_eq, o_ne, o_neB, o_lt, o_le, o_gt, o_ge, o_ixl, o_ixt, o_addl, w_tup, w_lst, w_sl, w_eno, w_part, o_sll, o_sls, w_fld, o_fld, w_prop, w_call, w_callK, w_fun1, o_lenl, o_lent, o_listl, o_listt, o_tuplel, o_tuplet, o_int, o_intb, o_abs, o_all, o_any, o_sum, w_is, w_isC, w_isN, w_notN, w_chain, w_tval, w_tand, w_tor, w_tnot, w_yes, w_eand, w_eor, w_enot, w_eif, wkp_s, wk_l, wk_t, wk_r, wk_rl, w_ilist, w_irev, w_ienum, w_range1, w_range2, w_zip, w_comp, s_next, flp_nx, flp_bk, flp_ct, flp_rt, flp_xx, s_seq, s_fz, fr_nil, fr_cons, fr_1, fr_o, fr_v, fr_u, s_set, kd_fz, kd_fl, kd_fi, s_ref, s_asgG, s_par, s_par3, s_ret, s_retV, s_retN, s_drop, s_if, s_no, s_bk, s_ct, s_for, plp_o, plp_r, llp_l, ilp_i, p_putu, s_app, s_put, p_putIu, s_attr, endP_nx, endP_rt, endP_xx, endP_bk, endP_ct, f_fn, f_init, at_0, ix_0, at_1, ix_1, at_2, ix_2, at_3, ix_3, at_4, ix_4, at_5, ix_5, at_6, ix_6, at_7, ix_7, at_8, ix_8, at_9, ix_9, at_10, ix_10, at_11, ix_11, rs_ref, rs_non, rs_bl, rs_int, rs_str, rs_tup, rs_scr, rs_lst, rs_dct, rs_ins, isL, atKs, atVs, gName, enS, List.map_cons, List.map_nil, List.length_cons, List.length_nil, List.cons_append, List.nil_append, List.getElem?_cons_succ, List.getElem?_cons_zero, List.set_cons_succ, List.set_cons_zero, List.replicate, Nat.reduceSub, Nat.reduceAdd, List.getD_cons_zero, List.getD_cons_succ, gTup, gAll, Option.bind_some, isTy, List.any_cons, List.any_nil, Bool.or_false, Bool.false_or, Bool.true_or, Bool.or_true, D.isNon, true_and, Bool.not_true, Bool.not_false, perm, Int.reduceToNat, Nat.reduceLT, Option.map_some, Nat.zero_lt_succ, decide_true, decide_false, Nat.lt_add_left_iff_pos, Nat.lt_add_one]
    refine ⟨by show (6 : Nat) ≤ maxLen; decide, (of_i (ks := [0, 1, 2, 25, 1000, r2]) hb6 (by simp) (by show (6 : Nat) < 1000; decide)).imp0 ?_⟩
    rintro _ st7 ⟨w, hw, rfl, hb7⟩
    have hw : 0 ≤ w ∧ w ≤ 1000 := by
      simp only [List.mem_cons, List.not_mem_nil, or_false] at hw
      omega
    simp only [wp_ok, wp_ex, wp_no, wp_bind, wp_bindS, wp_noX, slp_v, slp_o, rtp_v, rtp_o, kdp_fz, kdp_fl, kdp_fi, intp_i, blp_b, trp_b, trp_i, trp_l, trp_t, trp_n, optp_s, itp_t, itp_f, itp_nd, itp_ne, lsp_l, nbp_fz, nbp_fr, typ_int, typ_bl, typ_str, typ_non, typ_lst, typ_tup, icp_ins, icp_int, icp_bl, icp_str, icp_non, icp_lst, icp_tup, zpp_l, zpp_t, prp_i, w_var, w_cst, fzp_fz, fzp_fr, w_fzd, w_nil, w_cons, w_bin, w_idx, w_neg, o_add, o_sub, o_mul, o_fdiv, o_mod, o_pow, o_shl, o_shr, o_and, o_or, o_xor, o_eq, o_ne, o_neB, o_lt, o_le, o_gt, o_ge, o_ixl, o_ixt, o_addl, w_tup, w_lst, w_sl, w_eno, w_part, o_sll, o_sls, w_fld, o_fld, w_prop, w_call, w_callK, w_fun1, o_lenl, o_lent, o_listl, o_listt, o_tuplel, o_tuplet, o_int, o_intb, o_abs, o_all, o_any, o_sum, w_is, w_isC, w_isN, w_notN, w_chain, w_tval, w_tand, w_tor, w_tnot, w_yes, w_eand, w_eor, w_enot, w_eif, wkp_s, wk_l, wk_t, wk_r, wk_rl, w_ilist, w_irev, w_ienum, w_range1, w_range2, w_zip, w_comp, s_next, flp_nx, flp_bk, flp_ct, flp_rt, flp_xx, s_seq, s_fz, fr_nil, fr_cons, fr_1, fr_o, fr_v, fr_u, s_set, kd_fz, kd_fl, kd_fi, s_ref, s_asgG, s_par, s_par3, s_ret, s_retV, s_retN, s_drop, s_if, s_no, s_bk, s_ct, s_for, plp_o, plp_r, llp_l, ilp_i, p_putu, s_app, s_put, p_putIu, s_attr, endP_nx, endP_rt, endP_xx, endP_bk, endP_ct, f_fn, f_init, at_0, ix_0, at_1, ix_1, at_2, ix_2, at_3, ix_3, at_4, ix_4, at_5, ix_5, at_6, ix_6, at_7, ix_7, at_8, ix_8, at_9, ix_9, at_10, ix_10, at_11, ix_11, rs_ref, rs_non, rs_bl, rs_int, rs_str, rs_tup, rs_scr, rs_lst, rs_dct, rs_ins, isL, atKs, atVs, gName, enS, List.map_cons, List.map_nil, List.length_cons, List.length_nil, List.cons_append, List.nil_append, List.getElem?_cons_succ, List.getElem?_cons_zero, List.set_cons_succ, List.set_cons_zero, List.replicate, Nat.reduceSub, Nat.reduceAdd, List.getD_cons_zero, List.getD_cons_succ, gTup, gAll, Option.bind_some, isTy, List.any_cons, List.any_nil, Bool.or_false, Bool.false_or, Bool.true_or, Bool.or_true, D.isNon, true_and, Bool.not_true, Bool.not_false, perm, Int.reduceToNat, Nat.reduceLT, Option.map_some, Nat.zero_lt_succ, decide_true, decide_false, Nat.lt_add_left_iff_pos, Nat.lt_add_one]
    refine (draw_ok hb7 (by decide) (big_of (by decide))).imp0 ?_
    rintro _ st8 ⟨l, rfl, l0, l1, hb8⟩
    simp only [wp_ok, wp_ex, wp_no, wp_bind, wp_bindS, wp_noX, slp_v, slp_o, rtp_v, rtp_o, kdp_fz, kdp_fl, kdp_fi, intp_i, blp_b, trp_b, trp_i, trp_l, trp_t, trp_n, optp_s, itp_t, itp_f, itp_nd, itp_ne, lsp_l, nbp_fz, nbp_fr, typ_int, typ_bl, typ_str, typ_non, typ_lst, typ_tup, icp_ins, icp_int, icp_bl, icp_str, icp_non, icp_lst, icp_tup, zpp_l, zpp_t, prp_i, w_var, w_cst, fzp_fz, fzp_fr, w_fzd, w_nil, w_cons, w_bin, w_idx, w_neg, o_add, o_sub, o_mul, o_fdiv, o_mod, o_pow, o_shl, o_shr, o_and, o_or, o_xor, o_eq, o_ne, o_neB, o_lt, o_le, o_gt, o_ge, o_ixl, o_ixt, o_addl, w_tup, w_lst, w_sl, w_eno, w_part, o_sll, o_sls, w_fld, o_fld, w_prop, w_call, w_callK, w_fun1, o_lenl, o_lent, o_listl, o_listt, o_tuplel, o_tuplet, o_int, o_intb, o_abs, o_all, o_any, o_sum, w_is, w_isC, w_isN, w_notN, w_chain, w_tval, w_tand, w_tor, w_tnot, w_yes, w_eand, w_eor, w_enot, w_eif, wkp_s, wk_l, wk_t, wk_r, wk_rl, w_ilist, w_irev, w_ienum, w_range1, w_range2, w_zip, w_comp, s_next, flp_nx, flp_bk, flp_ct, flp_rt, flp_xx, s_seq, s_fz, fr_nil, fr_cons, fr_1, fr_o, fr_v, fr_u, s_set, kd_fz, kd_fl, kd_fi, s_ref, s_asgG, s_par, s_par3, s_ret, s_retV, s_retN, s_drop, s_if, s_no, s_bk, s_ct, s_for, plp_o, plp_r, llp_l, ilp_i, p_putu, s_app, s_put, p_putIu, s_attr, endP_nx, endP_rt, endP_xx, endP_bk, endP_ct, f_fn, f_init, at_0, ix_0, at_1, ix_1, at_2, ix_2, at_3, ix_3, at_4, ix_4, at_5, ix_5, at_6, ix_6, at_7, ix_7, at_8, ix_8, at_9, ix_9, at_10, ix_10, at_11, ix_11, rs_ref, rs_non, rs_bl, rs_int, rs_str, rs_tup, rs_scr, rs_lst, rs_dct, rs_ins, isL, atKs, atVs, gName, enS, List.map_cons, List.map_nil, List.length_cons, List.length_nil, List.cons_append, List.nil_append, List.getElem?_cons_succ, List.getElem?_cons_zero, List.set_cons_succ, List.set_cons_zero, List.replicate, Nat.reduceSub, Nat.reduceAdd, List.getD_cons_zero, List.getD_cons_succ, gTup, gAll, Option.bind_some, isTy, List.any_cons, List.any_nil, Bool.or_false, Bool.false_or, Bool.true_or, Bool.or_true, D.isNon, true_and, Bool.not_true, Bool.not_false, perm, Int.reduceToNat, Nat.reduceLT, Option.map_some, Nat.zero_lt_succ, decide_true, decide_false, Nat.lt_add_left_iff_pos, Nat.lt_add_one]
    have hbit : (Builtin.Int.intBits 1 : Int) = 1 := by decide
    rw [hbit]
    refine ⟨⟨by omega, by omega⟩, ⟨by omega, by omega⟩, by show (5 : Nat) ≤ maxLen; decide, ?_⟩
    obtain ⟨pn, rfl⟩ := Int.eq_ofNat_of_zero_le p0
    obtain ⟨sn, rfl⟩ := Int.eq_ofNat_of_zero_le (show 0 ≤ s by omega)
    have hpn : pn < 15 := by exact_mod_cast p1
    have e1 : (2 + ((pn : Nat) : Int)).toNat = 2 + pn := by omega
    have e2 : 4 + (2 + k.toNat) ≤ (2 + pn) * sn := by
      have : ((4 + (2 + k.toNat) : Nat) : Int) ≤ (((2 + pn) * sn : Nat) : Int) := by push_cast; omega
      exact_mod_cast this
    have e3 : (2 + k).toNat = 2 + k.toNat := by omega
    have e4 : (2 + pn) * sn ≤ 128 := by
      have : (2 + pn) * sn ≤ 16 * 8 := Nat.mul_le_mul (by omega) (by omega)
      omega
    refine ⟨1 + l, 1 * 2 ^ (2 + k).toNat, 1 * 2 ^ (2 + ((pn : Nat) : Int)).toNat, sn, w, ((2 ^ ((2 + pn) * sn) : Nat) : Int), ((2 ^ ((2 + pn) * sn - (2 + k.toNat) - 1) : Nat) : Int), rfl, ?_, hb8⟩
    rw [e1, e3, pow_nat, pow_nat]
    have hN : ∀ m : Fin 4, 4 ≤ ((2 ^ (2 + m.val) : Nat) : Int) ∧ ((2 ^ (2 + m.val) : Nat) : Int) ≤ 32 ∧ Builtin.bitAnd ((2 ^ (2 + m.val) : Nat) : Int) (((2 ^ (2 + m.val) : Nat) : Int) - 1) = 0 := by decide
    have hB : ∀ m : Fin 15, 4 ≤ ((2 ^ (2 + m.val) : Nat) : Int) ∧ ((2 ^ (2 + m.val) : Nat) : Int) ≤ 65536 ∧ Builtin.bitAnd ((2 ^ (2 + m.val) : Nat) : Int) (((2 ^ (2 + m.val) : Nat) : Int) - 1) = 0 ∧ ((2 ^ (2 + m.val) : Nat) : Int) % 2 = 0 := by decide
    have hN := hN ⟨k.toNat, by omega⟩
    have hB := hB ⟨pn, hpn⟩
    have q1 : 2 ^ ((2 + pn) * sn) = 2 * 2 ^ (2 + k.toNat) * 2 ^ ((2 + pn) * sn - (2 + k.toNat) - 1) := by
      rw [Nat.mul_comm 2 (2 ^ (2 + k.toNat)), ← Nat.pow_succ, ← Nat.pow_add]
      congr 1; omega
    have q2 : 16 * 2 ^ (2 + k.toNat) ≤ 2 ^ ((2 + pn) * sn) := by
      rw [show 16 = 2 ^ 4 from rfl, ← Nat.pow_add]
      exact Nat.pow_le_pow_right (by decide) (by omega)
    have q3 : 2 ^ ((2 + pn) * sn) ≤ 2 ^ 128 := Nat.pow_le_pow_right (by decide) e4
    have q4 : 0 < 2 ^ ((2 + pn) * sn - (2 + k.toNat) - 1) := Nat.pow_pos (by decide)
    refine ⟨by omega, by omega, hw.1, hw.2, hN.1, hN.2.1, hN.2.2, hB.1, hB.2.1, hB.2.2.1, hB.2.2.2, s1, s8, ?_, by exact_mod_cast q2, by exact_mod_cast q4, by exact_mod_cast q1, ?_⟩
    · rw [Int.toNat_natCast, Nat.pow_mul]; simp
    · have : ((2 ^ ((2 + pn) * sn) : Nat) : Int) ≤ ((2 ^ 128 : Nat) : Int) := by exact_mod_cast q3
      have : ((2 ^ 128 : Nat) : Int) < 2 ^ 200 := by decide
      omega
end
end C
end Q

set_option linter.all false
namespace Q
namespace K03
open PySem C
abbrev classes : List String := ["Sizes"]
/-- _law_digits_so(_law_frame_here:0, _law_five_here:1, _law_q:2, _law_n:3, _law_half:4, _law_told:5, _law_rest:6, _law_place:7, _law_each:8) -/
def b__law_digits_so : SS := sSeq (sSet 4 (eBin bFdiv (eIdx (eVar 1) (eCst (.int 2))) (eCst (.int 2)))) (sSeq (sRef 5 (eCall w_digits (eCons (eVar 3) (eCons (eVar 0) (eNil))))) (sSeq (sIf (tOr (tNot (tVal (eIs (eVar 5) [.list]))) (tVal (eBin cNe (eFun1 fLen (eVar 5)) (eIdx (eVar 1) (eCst (.int 3)))))) (sRet (eCst .non)) (sNext)) (sSeq (sIf (tNot (tVal (eFun1 fAll (eComp (iList (eVar 5)) (gName 8) (tYes) (eCall w__law_is_number (eCons (eVar 8) (eCons (eBin bSub (eCst (.int 0)) (eVar 4)) (eCons (eBin bSub (eVar 4) (eCst (.int 1))) (eNil))))) [8])))) (sRet (eCst .non)) (sNext)) (sSeq (sPar 6 7 (eBin bMod (eFun1 fInt (eVar 3)) (eVar 2)) (eCst (.int 1))) (sSeq (sFor (iList (eVar 5)) (gName 8) (sPar 6 7 (eBin bSub (eVar 6) (eBin bMul (eVar 8) (eVar 7))) (eBin bMul (eVar 7) (eIdx (eVar 1) (eCst (.int 2)))))) (sSeq (sIf (tVal (eBin cNe (eBin bMod (eFun1 fInt (eVar 6)) (eVar 2)) (eCst (.int 0)))) (sRet (eCst .non)) (sNext)) (sSeq (sIf (tNot (tVal (eCall (w__law_like 8) (eCons (eLst (eCons (eCall w_whole (eCons (eVar 5) (eCons (eVar 0) (eNil)))) (eCons (eCall w_whole (eCons (eFun1 fTuple (eVar 5)) (eCons (eVar 0) (eNil)))) (eNil)))) (eCons (eLst (eCons (eBin bMod (eFun1 fInt (eVar 3)) (eVar 2)) (eCons (eBin bMod (eFun1 fInt (eVar 3)) (eVar 2)) (eNil)))) (eNil)))))) (sRet (eCst .non)) (sNext)) (sRetV 5))))))))
def w__law_digits_so : SF := fnS 9 b__law_digits_so
/-- _law_center_so(_law_frame_here:0, _law_q:1, _law_n:2, _law_told:3) -/
def b__law_center_so : SS := sSeq (sSet 3 (eCall w_centered (eCons (eVar 2) (eCons (eVar 0) (eNil))))) (sFz [3] (sRet (eAnd (eCall w__law_is_number (eCons (eVar 3) (eCons (eBin bSub (eCst (.int 0)) (eBin bFdiv (eVar 1) (eCst (.int 2)))) (eCons (eBin bSub (eBin bFdiv (eVar 1) (eCst (.int 2))) (eCst (.int 1))) (eNil))))) (eBin cEq (eBin bMod (eFun1 fInt (eBin bSub (eVar 3) (eVar 2))) (eVar 1)) (eCst (.int 0))))))
def w__law_center_so : SF := fnS 4 b__law_center_so
/-- _law_sum(_law_lot:0, _law_big:1, _law_q:2, _law_total:3, _law_k:4) -/
def b__law_sum : SS := sSeq (sSet 3 (eCst (.int 0))) (sSeq (sFor (iRange1 (eFun1 fLen (eVar 0))) (gName 4) (sSet 3 (eBin bMod (eFun1 fInt (eBin bAdd (eBin bMul (eVar 3) (eVar 1)) (eIdx (eVar 0) (eBin bSub (eBin bSub (eFun1 fLen (eVar 0)) (eCst (.int 1))) (eVar 4))))) (eVar 2)))) (sRetV 3))
def w__law_sum : SF := fnS 5 b__law_sum
/-- _law_number_so(_law_bag_here:0, _law_frame_here:1, _law_five_here:2, _law_q:3, _law_n:4, _law_told:5, _law_kept:6, _law_moved:7, _law_middle:8) -/
def b__law_number_so : SS := sSeq (sSet 5 (eCall w__law_digits_so (eCons (eVar 1) (eCons (eVar 2) (eCons (eVar 3) (eCons (eVar 4) (eNil))))))) (sSeq (sIf (tOr (tVal (eIsN (eVar 5))) (tNot (tVal (eCall w__law_center_so (eCons (eVar 1) (eCons (eVar 3) (eCons (eVar 4) (eNil)))))))) (sRet (eCst (.bl false))) (sNext)) (sSeq (sSet 6 (eFun1 fTuple (eVar 5))) (sSeq (sPut 5 (eCall w__law_draw (eCons (eVar 0) (eCons (eFun1 fLen (eVar 5)) (eNil)))) (eBin bPow (eCst (.int 10)) (eCst (.int 9)))) (sSeq (sApp 5 (eCst (.int 5))) (sSeq (sSet 7 (eBin bAdd (eVar 4) (eBin bMul (eVar 3) (eCall w__law_of (eCons (eVar 0) (eCons (eLst (eCons (eCst (.int 1)) (eCons (eBin bSub (eCst (.int 0)) (eCst (.int 1))) (eCons (eCst (.int 3)) (eCons (eBin bSub (eCst (.int 0)) (eCst (.int 1000))) (eNil)))))) (eNil))))))) (sSeq (sFz [7] (sIf (tNot (tVal (eCall (w__law_like 8) (eCons (eLst (eCons (eCall w_digits (eCons (eVar 7) (eCons (eVar 1) (eNil)))) (eCons (eCallK w_digits [1, 0] eNil (eCons (eVar 1) (eCons (eVar 4) (eNil)))) (eNil)))) (eCons (eLst (eCons (eFun1 fList (eVar 6)) (eCons (eFun1 fList (eVar 6)) (eNil)))) (eNil)))))) (sRet (eCst (.bl false))) (sNext))) (sSeq (sSet 8 (eCall w_centered (eCons (eVar 4) (eCons (eVar 1) (eNil))))) (sSeq (sFz [7, 8] (sIf (tNot (tVal (eCall (w__law_like 8) (eCons (eLst (eCons (eCall w_centered (eCons (eVar 7) (eCons (eVar 1) (eNil)))) (eCons (eCallK w_centered [1, 0] eNil (eCons (eVar 1) (eCons (eVar 8) (eNil)))) (eNil)))) (eCons (eLst (eCons (eVar 8) (eCons (eVar 8) (eNil)))) (eNil)))))) (sRet (eCst (.bl false))) (sNext))) (sFz [5, 8] (sRet (eCall (w__law_like 8) (eCons (eLst (eCons (eCall w_digits (eCons (eVar 8) (eCons (eVar 1) (eNil)))) (eCons (eCall w_whole (eCons (eVar 5) (eCons (eVar 1) (eNil)))) (eNil)))) (eCons (eLst (eCons (eFun1 fList (eVar 6)) (eCons (eCall w__law_sum (eCons (eVar 5) (eCons (eIdx (eVar 2) (eCst (.int 2))) (eCons (eVar 3) (eNil))))) (eNil)))) (eNil))))))))))))))
def w__law_number_so : SF := fnS 9 b__law_number_so
/-- _law_drawn_digits(_law_bag_here:0, _law_five_here:1, _law_half:2, _law_lot:3, _law_k:4) -/
def b__law_drawn_digits : SS := sSeq (sSet 2 (eBin bFdiv (eIdx (eVar 1) (eCst (.int 2))) (eCst (.int 2)))) (sSeq (sSet 3 (eLst (eNil))) (sSeq (sFor (iRange1 (eIdx (eVar 1) (eCst (.int 3)))) (gName 4) (sApp 3 (eCall w__law_of (eCons (eVar 0) (eCons (eLst (eCons (eCst (.int 0)) (eCons (eBin bSub (eVar 2) (eCst (.int 1))) (eCons (eBin bSub (eCst (.int 0)) (eVar 2)) (eCons (eCst (.int 1)) (eCons (eBin bSub (eCst (.int 0)) (eCst (.int 1))) (eCons (eBin bSub (eCst (.int 1)) (eVar 2)) (eCons (eBin bSub (eCall w__law_draw (eCons (eVar 0) (eCons (eIdx (eVar 1) (eCst (.int 2))) (eNil)))) (eVar 2)) (eNil))))))))) (eNil)))))) (sRetV 3)))
def w__law_drawn_digits : SF := fnS 5 b__law_drawn_digits
/-- _law_rows_so(_law_bag_here:0, _law_frame_here:1, _law_five_here:2, _law_q:3, _law_many:4, _law_lot:5, _law_kept:6, _law_due:7, _law_more:8, _law_k:9) -/
def b__law_rows_so : SS := sSeq (sSet 4 (eCall w__law_of (eCons (eVar 0) (eCons (eLst (eCons (eCst (.int 0)) (eCons (eCst (.int 1)) (eCons (eIdx (eVar 2) (eCst (.int 3))) (eCons (eBin bAdd (eIdx (eVar 2) (eCst (.int 3))) (eCst (.int 1))) (eCons (eCall w__law_draw (eCons (eVar 0) (eCons (eCst (.int 21)) (eNil)))) (eCons (eCall w__law_draw (eCons (eVar 0) (eCons (eCst (.int 21)) (eNil)))) (eNil)))))))) (eNil))))) (sSeq (sFz [4] (sSet 5 (eComp (iRange1 (eVar 4)) (gName 9) (tYes) (eCall w__law_of (eCons (eVar 0) (eCons (eLst (eCons (eCall w__law_loose (eCons (eVar 0) (eCons (eVar 3) (eNil)))) (eCons (eBin bSub (eCall w__law_draw (eCons (eVar 0) (eCons (eCst (.int 5)) (eNil)))) (eCst (.int 2))) (eNil)))) (eNil)))) [9]))) (sSeq (sIf (tVal (eBin cEq (eCall w__law_draw (eCons (eVar 0) (eCons (eCst (.int 12)) (eNil)))) (eCst (.int 11)))) (sSet 5 (eBin bMul (eVar 5) (eBin bFdiv (eCst (.int 200)) (eBin bAdd (eCst (.int 1)) (eVar 4))))) (sNext)) (sSeq (sSet 6 (eFun1 fTuple (eVar 5))) (sSeq (sFz [5] (sSet 7 (eCall w__law_sum (eCons (eVar 5) (eCons (eIdx (eVar 2) (eCst (.int 2))) (eCons (eVar 3) (eNil))))))) (sSeq (sFz [5, 6, 7] (sIf (tOr (tNot (tVal (eCall (w__law_like 8) (eCons (eLst (eCons (eCall w_whole (eCons (eVar 5) (eCons (eVar 1) (eNil)))) (eCons (eCallK w_whole [1, 0] eNil (eCons (eVar 1) (eCons (eVar 6) (eNil)))) (eNil)))) (eCons (eLst (eCons (eVar 7) (eCons (eVar 7) (eNil)))) (eNil)))))) (tNot (tVal (eCall (w__law_like 8) (eCons (eVar 5) (eCons (eFun1 fList (eVar 6)) (eNil))))))) (sRet (eCst (.bl false))) (sNext))) (sSeq (sSet 8 (eBin bAdd (eSl (eVar 5) (eNo) (ePart (eIdx (eVar 2) (eCst (.int 3))))) (eComp (iRange1 (eCst (.int 2))) (gName 9) (tYes) (eCall w__law_loose (eCons (eVar 0) (eCons (eVar 3) (eNil)))) [9]))) (sSeq (sFz [8] (sIf (tAnd (tVal (eBin cGe (eFun1 fLen (eVar 5)) (eIdx (eVar 2) (eCst (.int 3))))) (tNot (tVal (eCall (w__law_like 8) (eCons (eCall w_whole (eCons (eVar 8) (eCons (eVar 1) (eNil)))) (eCons (eCall w_whole (eCons (eSl (eVar 8) (eNo) (ePart (eIdx (eVar 2) (eCst (.int 3))))) (eCons (eVar 1) (eNil)))) (eNil))))))) (sRet (eCst (.bl false))) (sNext))) (sFz [7] (sRet (eCall (w__law_like 8) (eCons (eCall w_whole (eCons (eCall w_digits (eCons (eVar 7) (eCons (eVar 1) (eNil)))) (eCons (eVar 1) (eNil)))) (eCons (eVar 7) (eNil)))))))))))))
def w__law_rows_so : SF := fnS 10 b__law_rows_so
/-- law(_law_script:0, _law_bag_here:1, _law_lap:2, _law_five_here:3, _law_k:4, _law_q:5, _law_frame_here:6, _law_n:7, _law_drawn:8) -/
def b_law : SS := sSeq (sRef 1 (eCall w__law_bag (eCons (eVar 0) (eNil)))) (sSeq (sFor (iRange1 (eCst (.int 2))) (gName 2) (sSeq (sSet 3 (eCall w__law_five (eCons (eVar 1) (eNil)))) (sSeq (sFz [3] (sPar 5 6 (eCall w__law_modulus (eCons (eVar 3) (eNil))) (eCall w__law_frame (eCons (eVar 3) (eNil))))) (sSeq (sFor (iRange1 (eCst (.int 6))) (gName 4) (sSeq (sSet 7 (eCall w__law_loose (eCons (eVar 1) (eCons (eVar 5) (eNil))))) (sSeq (sFz [3, 7] (sIf (tNot (tVal (eCall w__law_number_so (eCons (eVar 1) (eCons (eVar 6) (eCons (eVar 3) (eCons (eVar 5) (eCons (eVar 7) (eNil))))))))) (sRet (eCst (.bl false))) (sNext))) (sSeq (sFz [3] (sSet 8 (eCall w__law_drawn_digits (eCons (eVar 1) (eCons (eVar 3) (eNil)))))) (sSeq (sFz [8] (sSet 7 (eBin bAdd (eCall w__law_sum (eCons (eVar 8) (eCons (eIdx (eVar 3) (eCst (.int 2))) (eCons (eVar 5) (eNil))))) (eBin bMul (eVar 5) (eCall w__law_of (eCons (eVar 1) (eCons (eLst (eCons (eCst (.int 0)) (eCons (eCst (.int 1)) (eCons (eBin bSub (eCst (.int 0)) (eCst (.int 1))) (eCons (eCst (.int 12)) (eNil)))))) (eNil)))))))) (sFz [3, 7, 8] (sIf (tOr (tNot (tVal (eCall (w__law_like 8) (eCons (eCall w_digits (eCons (eVar 7) (eCons (eVar 6) (eNil)))) (eCons (eVar 8) (eNil)))))) (tNot (tVal (eCall w__law_number_so (eCons (eVar 1) (eCons (eVar 6) (eCons (eVar 3) (eCons (eVar 5) (eCons (eVar 7) (eNil)))))))))) (sRet (eCst (.bl false))) (sNext)))))))) (sFor (iRange1 (eCst (.int 3))) (gName 4) (sFz [3] (sIf (tNot (tVal (eCall w__law_rows_so (eCons (eVar 1) (eCons (eVar 6) (eCons (eVar 3) (eCons (eVar 5) (eNil)))))))) (sRet (eCst (.bl false))) (sNext)))))))) (sRet (eCst (.bl true))))
def w_law : SF := fnS 9 b_law
end K03
end Q

set_option linter.all false
set_option maxRecDepth 100000
set_option maxHeartbeats 1000000
set_option exponentiation.threshold 20000
namespace Q
open PySem
namespace C
theorem wf_val {B q : Int} (hq : 0 < q) (xs : List Int) : wf B q xs = val B xs % q := by
  have h := whole_val B q xs
  have h2 : wf B q xs % q = wf B q xs := by
    cases xs with
    | nil => exact Int.zero_emod q
    | cons x xs => exact Int.emod_emod_of_dvd _ (Int.dvd_refl _)
  rw [← h]
  exact h2.symm
theorem wf_lo {B q : Int} (hq : 0 < q) (xs : List Int) : 0 ≤ wf B q xs := by rw [wf_val hq]; exact Int.emod_nonneg _ (by omega)
theorem wf_hi {B q : Int} (hq : 0 < q) (xs : List Int) : wf B q xs < q := by rw [wf_val hq]; exact Int.emod_lt_of_pos _ hq
theorem val_app (B : Int) : ∀ xs ys : List Int, val B (xs ++ ys) = val B xs + B ^ xs.length * val B ys
  | [], ys => by simp [val]
  | x :: xs, ys => by
    show x + B * val B (xs ++ ys) = x + B * val B xs + B ^ (xs.length + 1) * val B ys
    rw [val_app B xs ys, Int.mul_add, Int.pow_succ, Int.mul_comm (B ^ xs.length) B, Int.mul_assoc]
    omega
theorem dig_lo {B v : Int} (hB : 0 < B) (he : B % 2 = 0) : 0 - B / 2 ≤ dig B v := by
  have h1 := Int.emod_nonneg v (show B ≠ 0 by omega)
  have h2 := Int.emod_lt_of_pos v hB
  unfold dig
  split <;> omega
theorem dig_hi {B v : Int} (hB : 0 < B) (he : B % 2 = 0) : dig B v ≤ B / 2 - 1 := by
  have h1 := Int.emod_nonneg v (show B ≠ 0 by omega)
  have h2 := Int.emod_lt_of_pos v hB
  unfold dig
  split <;> omega
theorem digs_in {B : Int} (hB : 0 < B) (he : B % 2 = 0) : ∀ (n : Nat) (v : Int), ∀ x ∈ digs B n v, 0 - B / 2 ≤ x ∧ x ≤ B / 2 - 1
  | 0, v, x, h => by cases h
  | n + 1, v, x, h => by
    rcases List.mem_cons.mp h with rfl | h
    · exact ⟨dig_lo hB he, dig_hi hB he⟩
    · exact digs_in hB he n _ x h
theorem digs_uniq {B : Int} (hB : 0 < B) (he : B % 2 = 0) : ∀ (xs : List Int) (v r : Int), (∀ x ∈ xs, 0 - B / 2 ≤ x ∧ x ≤ B / 2 - 1) → v = val B xs + B ^ xs.length * r → digs B xs.length v = xs
  | [], v, r, _, _ => rfl
  | x :: xs, v, r, h, e => by
    have hx := h x List.mem_cons_self
    have e : v = x + B * val B xs + B ^ (xs.length + 1) * r := e
    have e2 : v = x + B * (val B xs + B ^ xs.length * r) := by
      rw [e, Int.mul_add, Int.pow_succ, Int.mul_comm (B ^ xs.length) B, Int.mul_assoc]; omega
    have hm : v % B = x % B := by rw [e2, Int.add_mul_emod_self_left]
    have hd : dig B v = x := by
      unfold dig
      rw [hm]
      by_cases h0 : 0 ≤ x
      · rw [Int.emod_eq_of_lt h0 (by omega), if_neg (by omega)]
      · have : x % B = x + B := by
          have : x = (x + B) + B * (-1) := by omega
          rw [this, Int.add_mul_emod_self_left, Int.emod_eq_of_lt (by omega) (by omega)]; omega
        rw [this, if_pos (by omega)]; omega
    show dig B v :: digs B xs.length ((v - dig B v) / B) = x :: xs
    rw [hd]
    have : (v - x) / B = val B xs + B ^ xs.length * r := by
      have : v - x = B * (val B xs + B ^ xs.length * r) := by omega
      rw [this, Int.mul_ediv_cancel_left _ (by omega)]
    rw [this, digs_uniq hB he xs _ r (fun y hy => h y (List.mem_cons_of_mem _ hy)) rfl]
end C
mutual
theorem C.beq_refl : ∀ x : D, beqD x x = true
  | .non => rfl
  | .bl a => by unfold beqD; exact decide_eq_true rfl
  | .int a => by unfold beqD; exact decide_eq_true rfl
  | .str a => by unfold beqD; exact decide_eq_true rfl
  | .tup a => by unfold beqD; exact C.beqs_refl a
  | .lst a => by unfold beqD; exact C.beqs_refl a
  | .dct a b => by unfold beqD; rw [C.beqs_refl a, C.beqs_refl b]; rfl
  | .ins c ks ds => by unfold beqD; rw [C.beqs_refl ds, decide_eq_true rfl, decide_eq_true rfl]; rfl
  | .ref a => by unfold beqD; exact decide_eq_true rfl
  | .scr a => by unfold beqD; exact C.beqs_refl a
theorem C.beqs_refl : ∀ xs : List D, beqDs xs xs = true
  | [] => rfl
  | x :: xs => by unfold beqDs; rw [C.beq_refl x, C.beqs_refl xs]; rfl
end
theorem C.gd_same {m : Nat} {xs st : List D} (h : st[m]? = some (.lst xs)) : gdOk [(m, xs)] st = true := by
  unfold gdOk
  rw [List.all_cons, List.all_nil, h]
  show (beqDs xs xs && true) = true
  rw [C.beqs_refl]; rfl
namespace K03
open C
section
variable {rest st : List D} {l N B s w q g : Int}
theorem sum_ok {d : D} {xs : List Int} (hq : 0 < q) (hB : 4 ≤ B) (hB2 : B ≤ 65536) (hl : xs.length ≤ 2 ^ 60) (hd : rs st d = .lst (xs.map D.int)) : (w__law_sum [d, .int B, .int q] st).Wp (fun p st' => p = (.int (wf B q xs), .fz) ∧ st' = st) NX := by
  unfold w__law_sum
  rw [f_fn]
  unfold b__law_sum
  simp only [wp_ok, wp_ex, wp_no, wp_bind, wp_bindS, wp_noX, slp_v, slp_o, rtp_v, rtp_o, kdp_fz, kdp_fl, kdp_fi, intp_i, blp_b, trp_b, trp_i, trp_l, trp_t, trp_n, optp_s, itp_t, itp_f, itp_nd, itp_ne, lsp_l, nbp_fz, nbp_fr, typ_int, typ_bl, typ_str, typ_non, typ_lst, typ_tup, icp_ins, icp_int, icp_bl, icp_str, icp_non, icp_lst, icp_tup, zpp_l, zpp_t, prp_i, w_var, w_cst, fzp_fz, fzp_fr, w_fzd, w_nil, w_cons, w_bin, w_idx, w_neg, o_add, o_sub, o_mul, o_fdiv, o_mod, o_pow, o_shl, o_shr, o_and, o_or, o_xor, o_eq, o_ne, o_neB, o_lt, o_le, o_gt, o_ge, o_ixl, o_ixt, o_addl, w_tup, w_lst, w_sl, w_eno, w_part, o_sll, o_sls, w_fld, o_fld, w_prop, w_call, w_callK, w_fun1, o_lenl, o_lent, o_listl, o_listt, o_tuplel, o_tuplet, o_int, o_intb, o_abs, o_all, o_any, o_sum, w_is, w_isC, w_isN, w_notN, w_chain, w_tval, w_tand, w_tor, w_tnot, w_yes, w_eand, w_eor, w_enot, w_eif, wkp_s, wk_l, wk_t, wk_r, wk_rl, w_ilist, w_irev, w_ienum, w_range1, w_range2, w_zip, w_comp, s_next, flp_nx, flp_bk, flp_ct, flp_rt, flp_xx, s_seq, s_fz, fr_nil, fr_cons, fr_1, fr_o, fr_v, fr_u, s_set, kd_fz, kd_fl, kd_fi, s_ref, s_asgG, s_par, s_par3, s_ret, s_retV, s_retN, s_drop, s_if, s_no, s_bk, s_ct, s_for, plp_o, plp_r, llp_l, ilp_i, p_putu, s_app, s_put, p_putIu, s_attr, endP_nx, endP_rt, endP_xx, endP_bk, endP_ct, f_fn, f_init, at_0, ix_0, at_1, ix_1, at_2, ix_2, at_3, ix_3, at_4, ix_4, at_5, ix_5, at_6, ix_6, at_7, ix_7, at_8, ix_8, at_9, ix_9, at_10, ix_10, at_11, ix_11, rs_ref, rs_non, rs_bl, rs_int, rs_str, rs_tup, rs_scr, rs_lst, rs_dct, rs_ins, isL, atKs, atVs, gName, enS, List.map_cons, List.map_nil, List.length_cons, List.length_nil, List.cons_append, List.nil_append, List.getElem?_cons_succ, List.getElem?_cons_zero, List.set_cons_succ, List.set_cons_zero, List.replicate, Nat.reduceSub, Nat.reduceAdd, List.getD_cons_zero, List.getD_cons_succ, gTup, gAll, Option.bind_some, isTy, List.any_cons, List.any_nil, Bool.or_false, Bool.false_or, Bool.true_or, Bool.or_true, D.isNon, true_and, Bool.not_true, Bool.not_false, perm, Int.reduceToNat, Nat.reduceLT, Option.map_some, Nat.zero_lt_succ, decide_true, decide_false, Nat.lt_add_left_iff_pos, Nat.lt_add_one, hd, List.length_map]
  refine ⟨decide_eq_true ⟨by omega, by omega⟩, for_ok (J := fun i ρ st' => ∃ s4, ρ = [.val d, .val (.int B), .val (.int q), .val (.int ((xs.drop (xs.length - i)).foldr (fun d t => (t * B + d) % q) 0)), s4] ∧ st' = st) ⟨.un, by rw [Nat.sub_zero, List.drop_length]; rfl, rfl⟩ ?_ ?_⟩
  · rintro i d' ρ st2 hd' ⟨s4, rfl, rfl⟩
    obtain ⟨rfl, hi⟩ := rangeL_get hd'
    have hi : i < xs.length := by exact_mod_cast hi
    refine ⟨_, rfl, ?_⟩
    have e : ((xs.length : Nat) : Int) - 1 - ((i : Nat) : Int) = ((xs.length - 1 - i : Nat) : Int) := by omega
    simp only [wp_ok, wp_ex, wp_no, wp_bind, wp_bindS, wp_noX, slp_v, slp_o, rtp_v, rtp_o, kdp_fz, kdp_fl, kdp_fi, intp_i, blp_b, trp_b, trp_i, trp_l, trp_t, trp_n, optp_s, itp_t, itp_f, itp_nd, itp_ne, lsp_l, nbp_fz, nbp_fr, typ_int, typ_bl, typ_str, typ_non, typ_lst, typ_tup, icp_ins, icp_int, icp_bl, icp_str, icp_non, icp_lst, icp_tup, zpp_l, zpp_t, prp_i, w_var, w_cst, fzp_fz, fzp_fr, w_fzd, w_nil, w_cons, w_bin, w_idx, w_neg, o_add, o_sub, o_mul, o_fdiv, o_mod, o_pow, o_shl, o_shr, o_and, o_or, o_xor, o_eq, o_ne, o_neB, o_lt, o_le, o_gt, o_ge, o_ixl, o_ixt, o_addl, w_tup, w_lst, w_sl, w_eno, w_part, o_sll, o_sls, w_fld, o_fld, w_prop, w_call, w_callK, w_fun1, o_lenl, o_lent, o_listl, o_listt, o_tuplel, o_tuplet, o_int, o_intb, o_abs, o_all, o_any, o_sum, w_is, w_isC, w_isN, w_notN, w_chain, w_tval, w_tand, w_tor, w_tnot, w_yes, w_eand, w_eor, w_enot, w_eif, wkp_s, wk_l, wk_t, wk_r, wk_rl, w_ilist, w_irev, w_ienum, w_range1, w_range2, w_zip, w_comp, s_next, flp_nx, flp_bk, flp_ct, flp_rt, flp_xx, s_seq, s_fz, fr_nil, fr_cons, fr_1, fr_o, fr_v, fr_u, s_set, kd_fz, kd_fl, kd_fi, s_ref, s_asgG, s_par, s_par3, s_ret, s_retV, s_retN, s_drop, s_if, s_no, s_bk, s_ct, s_for, plp_o, plp_r, llp_l, ilp_i, p_putu, s_app, s_put, p_putIu, s_attr, endP_nx, endP_rt, endP_xx, endP_bk, endP_ct, f_fn, f_init, at_0, ix_0, at_1, ix_1, at_2, ix_2, at_3, ix_3, at_4, ix_4, at_5, ix_5, at_6, ix_6, at_7, ix_7, at_8, ix_8, at_9, ix_9, at_10, ix_10, at_11, ix_11, rs_ref, rs_non, rs_bl, rs_int, rs_str, rs_tup, rs_scr, rs_lst, rs_dct, rs_ins, isL, atKs, atVs, gName, enS, List.map_cons, List.map_nil, List.length_cons, List.length_nil, List.cons_append, List.nil_append, List.getElem?_cons_succ, List.getElem?_cons_zero, List.set_cons_succ, List.set_cons_zero, List.replicate, Nat.reduceSub, Nat.reduceAdd, List.getD_cons_zero, List.getD_cons_succ, gTup, gAll, Option.bind_some, isTy, List.any_cons, List.any_nil, Bool.or_false, Bool.false_or, Bool.true_or, Bool.or_true, D.isNon, true_and, Bool.not_true, Bool.not_false, perm, Int.reduceToNat, Nat.reduceLT, Option.map_some, Nat.zero_lt_succ, decide_true, decide_false, Nat.lt_add_left_iff_pos, Nat.lt_add_one, hd, List.length_map]
    rw [e, atI_of, List.getElem?_map, List.getElem?_eq_getElem (by omega)]
    simp only [wp_ok, wp_ex, wp_no, wp_bind, wp_bindS, wp_noX, slp_v, slp_o, rtp_v, rtp_o, kdp_fz, kdp_fl, kdp_fi, intp_i, blp_b, trp_b, trp_i, trp_l, trp_t, trp_n, optp_s, itp_t, itp_f, itp_nd, itp_ne, lsp_l, nbp_fz, nbp_fr, typ_int, typ_bl, typ_str, typ_non, typ_lst, typ_tup, icp_ins, icp_int, icp_bl, icp_str, icp_non, icp_lst, icp_tup, zpp_l, zpp_t, prp_i, w_var, w_cst, fzp_fz, fzp_fr, w_fzd, w_nil, w_cons, w_bin, w_idx, w_neg, o_add, o_sub, o_mul, o_fdiv, o_mod, o_pow, o_shl, o_shr, o_and, o_or, o_xor, o_eq, o_ne, o_neB, o_lt, o_le, o_gt, o_ge, o_ixl, o_ixt, o_addl, w_tup, w_lst, w_sl, w_eno, w_part, o_sll, o_sls, w_fld, o_fld, w_prop, w_call, w_callK, w_fun1, o_lenl, o_lent, o_listl, o_listt, o_tuplel, o_tuplet, o_int, o_intb, o_abs, o_all, o_any, o_sum, w_is, w_isC, w_isN, w_notN, w_chain, w_tval, w_tand, w_tor, w_tnot, w_yes, w_eand, w_eor, w_enot, w_eif, wkp_s, wk_l, wk_t, wk_r, wk_rl, w_ilist, w_irev, w_ienum, w_range1, w_range2, w_zip, w_comp, s_next, flp_nx, flp_bk, flp_ct, flp_rt, flp_xx, s_seq, s_fz, fr_nil, fr_cons, fr_1, fr_o, fr_v, fr_u, s_set, kd_fz, kd_fl, kd_fi, s_ref, s_asgG, s_par, s_par3, s_ret, s_retV, s_retN, s_drop, s_if, s_no, s_bk, s_ct, s_for, plp_o, plp_r, llp_l, ilp_i, p_putu, s_app, s_put, p_putIu, s_attr, endP_nx, endP_rt, endP_xx, endP_bk, endP_ct, f_fn, f_init, at_0, ix_0, at_1, ix_1, at_2, ix_2, at_3, ix_3, at_4, ix_4, at_5, ix_5, at_6, ix_6, at_7, ix_7, at_8, ix_8, at_9, ix_9, at_10, ix_10, at_11, ix_11, rs_ref, rs_non, rs_bl, rs_int, rs_str, rs_tup, rs_scr, rs_lst, rs_dct, rs_ins, isL, atKs, atVs, gName, enS, List.map_cons, List.map_nil, List.length_cons, List.length_nil, List.cons_append, List.nil_append, List.getElem?_cons_succ, List.getElem?_cons_zero, List.set_cons_succ, List.set_cons_zero, List.replicate, Nat.reduceSub, Nat.reduceAdd, List.getD_cons_zero, List.getD_cons_succ, gTup, gAll, Option.bind_some, isTy, List.any_cons, List.any_nil, Bool.or_false, Bool.false_or, Bool.true_or, Bool.or_true, D.isNon, true_and, Bool.not_true, Bool.not_false, perm, Int.reduceToNat, Nat.reduceLT, Option.map_some, Nat.zero_lt_succ, decide_true, decide_false, Nat.lt_add_left_iff_pos, Nat.lt_add_one]
    refine ⟨mulOk_r (by omega) (by omega), hq, .val (.int i), ?_, trivial⟩
    have : xs.length - i = (xs.length - (i + 1)) + 1 := by omega
    have e2 : xs.length - 1 - i = xs.length - (i + 1) := by omega
    rw [List.drop_eq_getElem_cons (i := xs.length - (i + 1)) (by omega), List.foldr_cons, ← this]
    simp only [e2]
  · rintro ρ st2 ⟨s4, rfl, rfl⟩
    simp only [wp_ok, wp_ex, wp_no, wp_bind, wp_bindS, wp_noX, slp_v, slp_o, rtp_v, rtp_o, kdp_fz, kdp_fl, kdp_fi, intp_i, blp_b, trp_b, trp_i, trp_l, trp_t, trp_n, optp_s, itp_t, itp_f, itp_nd, itp_ne, lsp_l, nbp_fz, nbp_fr, typ_int, typ_bl, typ_str, typ_non, typ_lst, typ_tup, icp_ins, icp_int, icp_bl, icp_str, icp_non, icp_lst, icp_tup, zpp_l, zpp_t, prp_i, w_var, w_cst, fzp_fz, fzp_fr, w_fzd, w_nil, w_cons, w_bin, w_idx, w_neg, o_add, o_sub, o_mul, o_fdiv, o_mod, o_pow, o_shl, o_shr, o_and, o_or, o_xor, o_eq, o_ne, o_neB, o_lt, o_le, o_gt, o_ge, o_ixl, o_ixt, o_addl, w_tup, w_lst, w_sl, w_eno, w_part, o_sll, o_sls, w_fld, o_fld, w_prop, w_call, w_callK, w_fun1, o_lenl, o_lent, o_listl, o_listt, o_tuplel, o_tuplet, o_int, o_intb, o_abs, o_all, o_any, o_sum, w_is, w_isC, w_isN, w_notN, w_chain, w_tval, w_tand, w_tor, w_tnot, w_yes, w_eand, w_eor, w_enot, w_eif, wkp_s, wk_l, wk_t, wk_r, wk_rl, w_ilist, w_irev, w_ienum, w_range1, w_range2, w_zip, w_comp, s_next, flp_nx, flp_bk, flp_ct, flp_rt, flp_xx, s_seq, s_fz, fr_nil, fr_cons, fr_1, fr_o, fr_v, fr_u, s_set, kd_fz, kd_fl, kd_fi, s_ref, s_asgG, s_par, s_par3, s_ret, s_retV, s_retN, s_drop, s_if, s_no, s_bk, s_ct, s_for, plp_o, plp_r, llp_l, ilp_i, p_putu, s_app, s_put, p_putIu, s_attr, endP_nx, endP_rt, endP_xx, endP_bk, endP_ct, f_fn, f_init, at_0, ix_0, at_1, ix_1, at_2, ix_2, at_3, ix_3, at_4, ix_4, at_5, ix_5, at_6, ix_6, at_7, ix_7, at_8, ix_8, at_9, ix_9, at_10, ix_10, at_11, ix_11, rs_ref, rs_non, rs_bl, rs_int, rs_str, rs_tup, rs_scr, rs_lst, rs_dct, rs_ins, isL, atKs, atVs, gName, enS, List.map_cons, List.map_nil, List.length_cons, List.length_nil, List.cons_append, List.nil_append, List.getElem?_cons_succ, List.getElem?_cons_zero, List.set_cons_succ, List.set_cons_zero, List.replicate, Nat.reduceSub, Nat.reduceAdd, List.getD_cons_zero, List.getD_cons_succ, gTup, gAll, Option.bind_some, isTy, List.any_cons, List.any_nil, Bool.or_false, Bool.false_or, Bool.true_or, Bool.or_true, D.isNon, true_and, Bool.not_true, Bool.not_false, perm, Int.reduceToNat, Nat.reduceLT, Option.map_some, Nat.zero_lt_succ, decide_true, decide_false, Nat.lt_add_left_iff_pos, Nat.lt_add_one, rangeL_len]
    refine ⟨?_, trivial⟩
    rw [Int.toNat_natCast, Nat.sub_self]
    rfl
theorem center_ok (h : Par l N B s w q g) (n : Int) : (w__law_center_so [frame l N B s w q, .int q, .int n] st).Wp (fun p st' => p = (.bl true, .fz) ∧ st' = st) NX := by
  have hq := h.q0
  have e := Int.mul_ediv_add_emod n q
  have h1 := Int.emod_nonneg n (show q ≠ 0 by omega)
  have h2 := Int.emod_lt_of_pos n hq
  have qe : q = 2 * (q / 2) := by
    have := h.qg
    rw [Int.mul_assoc] at this
    omega
  unfold w__law_center_so
  rw [f_fn]
  unfold b__law_center_so
  simp only [wp_ok, wp_ex, wp_no, wp_bind, wp_bindS, wp_noX, slp_v, slp_o, rtp_v, rtp_o, kdp_fz, kdp_fl, kdp_fi, intp_i, blp_b, trp_b, trp_i, trp_l, trp_t, trp_n, optp_s, itp_t, itp_f, itp_nd, itp_ne, lsp_l, nbp_fz, nbp_fr, typ_int, typ_bl, typ_str, typ_non, typ_lst, typ_tup, icp_ins, icp_int, icp_bl, icp_str, icp_non, icp_lst, icp_tup, zpp_l, zpp_t, prp_i, w_var, w_cst, fzp_fz, fzp_fr, w_fzd, w_nil, w_cons, w_bin, w_idx, w_neg, o_add, o_sub, o_mul, o_fdiv, o_mod, o_pow, o_shl, o_shr, o_and, o_or, o_xor, o_eq, o_ne, o_neB, o_lt, o_le, o_gt, o_ge, o_ixl, o_ixt, o_addl, w_tup, w_lst, w_sl, w_eno, w_part, o_sll, o_sls, w_fld, o_fld, w_prop, w_call, w_callK, w_fun1, o_lenl, o_lent, o_listl, o_listt, o_tuplel, o_tuplet, o_int, o_intb, o_abs, o_all, o_any, o_sum, w_is, w_isC, w_isN, w_notN, w_chain, w_tval, w_tand, w_tor, w_tnot, w_yes, w_eand, w_eor, w_enot, w_eif, wkp_s, wk_l, wk_t, wk_r, wk_rl, w_ilist, w_irev, w_ienum, w_range1, w_range2, w_zip, w_comp, s_next, flp_nx, flp_bk, flp_ct, flp_rt, flp_xx, s_seq, s_fz, fr_nil, fr_cons, fr_1, fr_o, fr_v, fr_u, s_set, kd_fz, kd_fl, kd_fi, s_ref, s_asgG, s_par, s_par3, s_ret, s_retV, s_retN, s_drop, s_if, s_no, s_bk, s_ct, s_for, plp_o, plp_r, llp_l, ilp_i, p_putu, s_app, s_put, p_putIu, s_attr, endP_nx, endP_rt, endP_xx, endP_bk, endP_ct, f_fn, f_init, at_0, ix_0, at_1, ix_1, at_2, ix_2, at_3, ix_3, at_4, ix_4, at_5, ix_5, at_6, ix_6, at_7, ix_7, at_8, ix_8, at_9, ix_9, at_10, ix_10, at_11, ix_11, rs_ref, rs_non, rs_bl, rs_int, rs_str, rs_tup, rs_scr, rs_lst, rs_dct, rs_ins, isL, atKs, atVs, gName, enS, List.map_cons, List.map_nil, List.length_cons, List.length_nil, List.cons_append, List.nil_append, List.getElem?_cons_succ, List.getElem?_cons_zero, List.set_cons_succ, List.set_cons_zero, List.replicate, Nat.reduceSub, Nat.reduceAdd, List.getD_cons_zero, List.getD_cons_succ, gTup, gAll, Option.bind_some, isTy, List.any_cons, List.any_nil, Bool.or_false, Bool.false_or, Bool.true_or, Bool.or_true, D.isNon, true_and, Bool.not_true, Bool.not_false, perm, Int.reduceToNat, Nat.reduceLT, Option.map_some, Nat.zero_lt_succ, decide_true, decide_false, Nat.lt_add_left_iff_pos, Nat.lt_add_one]
  refine (cen_ok h n).imp0 ?_
  rintro _ st' ⟨rfl, rfl⟩
  have c1 : 0 - q / 2 ≤ cen q n := by unfold cen; split <;> omega
  have c2 : cen q n ≤ q / 2 - 1 := by unfold cen; split <;> omega
  have c3 : (cen q n - n) % q = 0 := by
    unfold cen
    split
    · have : n % q - q - n = q * (-(n / q) - 1) := by rw [Int.mul_sub, Int.mul_neg]; omega
      rw [this, Int.mul_emod_right]
    · have : n % q - n = q * (-(n / q)) := by rw [Int.mul_neg]; omega
      rw [this, Int.mul_emod_right]
  simp only [wp_ok, wp_ex, wp_no, wp_bind, wp_bindS, wp_noX, slp_v, slp_o, rtp_v, rtp_o, kdp_fz, kdp_fl, kdp_fi, intp_i, blp_b, trp_b, trp_i, trp_l, trp_t, trp_n, optp_s, itp_t, itp_f, itp_nd, itp_ne, lsp_l, nbp_fz, nbp_fr, typ_int, typ_bl, typ_str, typ_non, typ_lst, typ_tup, icp_ins, icp_int, icp_bl, icp_str, icp_non, icp_lst, icp_tup, zpp_l, zpp_t, prp_i, w_var, w_cst, fzp_fz, fzp_fr, w_fzd, w_nil, w_cons, w_bin, w_idx, w_neg, o_add, o_sub, o_mul, o_fdiv, o_mod, o_pow, o_shl, o_shr, o_and, o_or, o_xor, o_eq, o_ne, o_neB, o_lt, o_le, o_gt, o_ge, o_ixl, o_ixt, o_addl, w_tup, w_lst, w_sl, w_eno, w_part, o_sll, o_sls, w_fld, o_fld, w_prop, w_call, w_callK, w_fun1, o_lenl, o_lent, o_listl, o_listt, o_tuplel, o_tuplet, o_int, o_intb, o_abs, o_all, o_any, o_sum, w_is, w_isC, w_isN, w_notN, w_chain, w_tval, w_tand, w_tor, w_tnot, w_yes, w_eand, w_eor, w_enot, w_eif, wkp_s, wk_l, wk_t, wk_r, wk_rl, w_ilist, w_irev, w_ienum, w_range1, w_range2, w_zip, w_comp, s_next, flp_nx, flp_bk, flp_ct, flp_rt, flp_xx, s_seq, s_fz, fr_nil, fr_cons, fr_1, fr_o, fr_v, fr_u, s_set, kd_fz, kd_fl, kd_fi, s_ref, s_asgG, s_par, s_par3, s_ret, s_retV, s_retN, s_drop, s_if, s_no, s_bk, s_ct, s_for, plp_o, plp_r, llp_l, ilp_i, p_putu, s_app, s_put, p_putIu, s_attr, endP_nx, endP_rt, endP_xx, endP_bk, endP_ct, f_fn, f_init, at_0, ix_0, at_1, ix_1, at_2, ix_2, at_3, ix_3, at_4, ix_4, at_5, ix_5, at_6, ix_6, at_7, ix_7, at_8, ix_8, at_9, ix_9, at_10, ix_10, at_11, ix_11, rs_ref, rs_non, rs_bl, rs_int, rs_str, rs_tup, rs_scr, rs_lst, rs_dct, rs_ins, isL, atKs, atVs, gName, enS, List.map_cons, List.map_nil, List.length_cons, List.length_nil, List.cons_append, List.nil_append, List.getElem?_cons_succ, List.getElem?_cons_zero, List.set_cons_succ, List.set_cons_zero, List.replicate, Nat.reduceSub, Nat.reduceAdd, List.getD_cons_zero, List.getD_cons_succ, gTup, gAll, Option.bind_some, isTy, List.any_cons, List.any_nil, Bool.or_false, Bool.false_or, Bool.true_or, Bool.or_true, D.isNon, true_and, Bool.not_true, Bool.not_false, perm, Int.reduceToNat, Nat.reduceLT, Option.map_some, Nat.zero_lt_succ, decide_true, decide_false, Nat.lt_add_left_iff_pos, Nat.lt_add_one]
  refine ⟨⟨by decide, by decide⟩, ⟨by decide, by decide⟩, (isnum_ok _ _ _).imp0 ?_⟩
  rintro _ st' ⟨rfl, rfl⟩
  rw [decide_eq_true c1, decide_eq_true c2]
  simp only [wp_ok, wp_ex, wp_no, wp_bind, wp_bindS, wp_noX, slp_v, slp_o, rtp_v, rtp_o, kdp_fz, kdp_fl, kdp_fi, intp_i, blp_b, trp_b, trp_i, trp_l, trp_t, trp_n, optp_s, itp_t, itp_f, itp_nd, itp_ne, lsp_l, nbp_fz, nbp_fr, typ_int, typ_bl, typ_str, typ_non, typ_lst, typ_tup, icp_ins, icp_int, icp_bl, icp_str, icp_non, icp_lst, icp_tup, zpp_l, zpp_t, prp_i, w_var, w_cst, fzp_fz, fzp_fr, w_fzd, w_nil, w_cons, w_bin, w_idx, w_neg, o_add, o_sub, o_mul, o_fdiv, o_mod, o_pow, o_shl, o_shr, o_and, o_or, o_xor, o_eq, o_ne, o_neB, o_lt, o_le, o_gt, o_ge, o_ixl, o_ixt, o_addl, w_tup, w_lst, w_sl, w_eno, w_part, o_sll, o_sls, w_fld, o_fld, w_prop, w_call, w_callK, w_fun1, o_lenl, o_lent, o_listl, o_listt, o_tuplel, o_tuplet, o_int, o_intb, o_abs, o_all, o_any, o_sum, w_is, w_isC, w_isN, w_notN, w_chain, w_tval, w_tand, w_tor, w_tnot, w_yes, w_eand, w_eor, w_enot, w_eif, wkp_s, wk_l, wk_t, wk_r, wk_rl, w_ilist, w_irev, w_ienum, w_range1, w_range2, w_zip, w_comp, s_next, flp_nx, flp_bk, flp_ct, flp_rt, flp_xx, s_seq, s_fz, fr_nil, fr_cons, fr_1, fr_o, fr_v, fr_u, s_set, kd_fz, kd_fl, kd_fi, s_ref, s_asgG, s_par, s_par3, s_ret, s_retV, s_retN, s_drop, s_if, s_no, s_bk, s_ct, s_for, plp_o, plp_r, llp_l, ilp_i, p_putu, s_app, s_put, p_putIu, s_attr, endP_nx, endP_rt, endP_xx, endP_bk, endP_ct, f_fn, f_init, at_0, ix_0, at_1, ix_1, at_2, ix_2, at_3, ix_3, at_4, ix_4, at_5, ix_5, at_6, ix_6, at_7, ix_7, at_8, ix_8, at_9, ix_9, at_10, ix_10, at_11, ix_11, rs_ref, rs_non, rs_bl, rs_int, rs_str, rs_tup, rs_scr, rs_lst, rs_dct, rs_ins, isL, atKs, atVs, gName, enS, List.map_cons, List.map_nil, List.length_cons, List.length_nil, List.cons_append, List.nil_append, List.getElem?_cons_succ, List.getElem?_cons_zero, List.set_cons_succ, List.set_cons_zero, List.replicate, Nat.reduceSub, Nat.reduceAdd, List.getD_cons_zero, List.getD_cons_succ, gTup, gAll, Option.bind_some, isTy, List.any_cons, List.any_nil, Bool.or_false, Bool.false_or, Bool.true_or, Bool.or_true, D.isNon, true_and, Bool.not_true, Bool.not_false, perm, Int.reduceToNat, Nat.reduceLT, Option.map_some, Nat.zero_lt_succ, decide_true, decide_false, Nat.lt_add_left_iff_pos, Nat.lt_add_one, Bool.and_self]
  refine ⟨hq, ?_⟩
  rw [c3]
  exact ⟨rfl, trivial⟩
theorem dso_ok (h : Par l N B s w q g) (n : Int) : (w__law_digits_so [frame l N B s w q, five l N B s w, .int q, .int n] st).Wp (fun p st' => p = (.ref st.length, .fz) ∧ st' = st ++ [.lst ((digs B s.toNat (n % q)).map D.int)]) NX := by
  have hq := h.q0; have hB := h.B4; have hB2 := h.B6; have hs := h.s1; have hs8 := h.s8; have hBe := h.Be
  unfold w__law_digits_so
  rw [f_fn]
  unfold b__law_digits_so
  simp only [wp_ok, wp_ex, wp_no, wp_bind, wp_bindS, wp_noX, slp_v, slp_o, rtp_v, rtp_o, kdp_fz, kdp_fl, kdp_fi, intp_i, blp_b, trp_b, trp_i, trp_l, trp_t, trp_n, optp_s, itp_t, itp_f, itp_nd, itp_ne, lsp_l, nbp_fz, nbp_fr, typ_int, typ_bl, typ_str, typ_non, typ_lst, typ_tup, icp_ins, icp_int, icp_bl, icp_str, icp_non, icp_lst, icp_tup, zpp_l, zpp_t, prp_i, w_var, w_cst, fzp_fz, fzp_fr, w_fzd, w_nil, w_cons, w_bin, w_idx, w_neg, o_add, o_sub, o_mul, o_fdiv, o_mod, o_pow, o_shl, o_shr, o_and, o_or, o_xor, o_eq, o_ne, o_neB, o_lt, o_le, o_gt, o_ge, o_ixl, o_ixt, o_addl, w_tup, w_lst, w_sl, w_eno, w_part, o_sll, o_sls, w_fld, o_fld, w_prop, w_call, w_callK, w_fun1, o_lenl, o_lent, o_listl, o_listt, o_tuplel, o_tuplet, o_int, o_intb, o_abs, o_all, o_any, o_sum, w_is, w_isC, w_isN, w_notN, w_chain, w_tval, w_tand, w_tor, w_tnot, w_yes, w_eand, w_eor, w_enot, w_eif, wkp_s, wk_l, wk_t, wk_r, wk_rl, w_ilist, w_irev, w_ienum, w_range1, w_range2, w_zip, w_comp, s_next, flp_nx, flp_bk, flp_ct, flp_rt, flp_xx, s_seq, s_fz, fr_nil, fr_cons, fr_1, fr_o, fr_v, fr_u, s_set, kd_fz, kd_fl, kd_fi, s_ref, s_asgG, s_par, s_par3, s_ret, s_retV, s_retN, s_drop, s_if, s_no, s_bk, s_ct, s_for, plp_o, plp_r, llp_l, ilp_i, p_putu, s_app, s_put, p_putIu, s_attr, endP_nx, endP_rt, endP_xx, endP_bk, endP_ct, f_fn, f_init, at_0, ix_0, at_1, ix_1, at_2, ix_2, at_3, ix_3, at_4, ix_4, at_5, ix_5, at_6, ix_6, at_7, ix_7, at_8, ix_8, at_9, ix_9, at_10, ix_10, at_11, ix_11, rs_ref, rs_non, rs_bl, rs_int, rs_str, rs_tup, rs_scr, rs_lst, rs_dct, rs_ins, isL, atKs, atVs, gName, enS, List.map_cons, List.map_nil, List.length_cons, List.length_nil, List.cons_append, List.nil_append, List.getElem?_cons_succ, List.getElem?_cons_zero, List.set_cons_succ, List.set_cons_zero, List.replicate, Nat.reduceSub, Nat.reduceAdd, List.getD_cons_zero, List.getD_cons_succ, gTup, gAll, Option.bind_some, isTy, List.any_cons, List.any_nil, Bool.or_false, Bool.false_or, Bool.true_or, Bool.or_true, D.isNon, true_and, Bool.not_true, Bool.not_false, perm, Int.reduceToNat, Nat.reduceLT, Option.map_some, Nat.zero_lt_succ, decide_true, decide_false, Nat.lt_add_left_iff_pos, Nat.lt_add_one, rs_five, five_2, five_3]
  refine ⟨⟨by decide, by decide⟩, (digits_ok h n).imp0 ?_⟩
  rintro _ st' ⟨rfl, rfl⟩
  have hin := digs_in (show 0 < B by omega) hBe s.toNat (n % q)
  have hlen := digs_len B s.toNat (n % q)
  obtain ⟨r, hval⟩ := val_digs B (by omega) s.toNat (n % q)
  rw [← h.qe] at hval
  generalize digs B s.toNat (n % q) = ds at hin hlen hval
  have hg : (st' ++ [D.lst (ds.map D.int)]).getD st'.length .non = .lst (ds.map D.int) := by simp
  have hg2 : (st' ++ [D.lst (ds.map D.int)])[st'.length]? = some (.lst (ds.map D.int)) := by simp
  simp only [wp_ok, wp_ex, wp_no, wp_bind, wp_bindS, wp_noX, slp_v, slp_o, rtp_v, rtp_o, kdp_fz, kdp_fl, kdp_fi, intp_i, blp_b, trp_b, trp_i, trp_l, trp_t, trp_n, optp_s, itp_t, itp_f, itp_nd, itp_ne, lsp_l, nbp_fz, nbp_fr, typ_int, typ_bl, typ_str, typ_non, typ_lst, typ_tup, icp_ins, icp_int, icp_bl, icp_str, icp_non, icp_lst, icp_tup, zpp_l, zpp_t, prp_i, w_var, w_cst, fzp_fz, fzp_fr, w_fzd, w_nil, w_cons, w_bin, w_idx, w_neg, o_add, o_sub, o_mul, o_fdiv, o_mod, o_pow, o_shl, o_shr, o_and, o_or, o_xor, o_eq, o_ne, o_neB, o_lt, o_le, o_gt, o_ge, o_ixl, o_ixt, o_addl, w_tup, w_lst, w_sl, w_eno, w_part, o_sll, o_sls, w_fld, o_fld, w_prop, w_call, w_callK, w_fun1, o_lenl, o_lent, o_listl, o_listt, o_tuplel, o_tuplet, o_int, o_intb, o_abs, o_all, o_any, o_sum, w_is, w_isC, w_isN, w_notN, w_chain, w_tval, w_tand, w_tor, w_tnot, w_yes, w_eand, w_eor, w_enot, w_eif, wkp_s, wk_l, wk_t, wk_r, wk_rl, w_ilist, w_irev, w_ienum, w_range1, w_range2, w_zip, w_comp, s_next, flp_nx, flp_bk, flp_ct, flp_rt, flp_xx, s_seq, s_fz, fr_nil, fr_cons, fr_1, fr_o, fr_v, fr_u, s_set, kd_fz, kd_fl, kd_fi, s_ref, s_asgG, s_par, s_par3, s_ret, s_retV, s_retN, s_drop, s_if, s_no, s_bk, s_ct, s_for, plp_o, plp_r, llp_l, ilp_i, p_putu, s_app, s_put, p_putIu, s_attr, endP_nx, endP_rt, endP_xx, endP_bk, endP_ct, f_fn, f_init, at_0, ix_0, at_1, ix_1, at_2, ix_2, at_3, ix_3, at_4, ix_4, at_5, ix_5, at_6, ix_6, at_7, ix_7, at_8, ix_8, at_9, ix_9, at_10, ix_10, at_11, ix_11, rs_ref, rs_non, rs_bl, rs_int, rs_str, rs_tup, rs_scr, rs_lst, rs_dct, rs_ins, isL, atKs, atVs, gName, enS, List.map_cons, List.map_nil, List.length_cons, List.length_nil, List.cons_append, List.nil_append, List.getElem?_cons_succ, List.getElem?_cons_zero, List.set_cons_succ, List.set_cons_zero, List.replicate, Nat.reduceSub, Nat.reduceAdd, List.getD_cons_zero, List.getD_cons_succ, gTup, gAll, Option.bind_some, isTy, List.any_cons, List.any_nil, Bool.or_false, Bool.false_or, Bool.true_or, Bool.or_true, D.isNon, true_and, Bool.not_true, Bool.not_false, perm, Int.reduceToNat, Nat.reduceLT, Option.map_some, Nat.zero_lt_succ, decide_true, decide_false, Nat.lt_add_left_iff_pos, Nat.lt_add_one, rs_five, five_2, five_3, hg]
  rw [List.length_map, hlen, decide_eq_true (show ((s.toNat : Nat) : Int) = s by omega)]
  simp only [wp_ok, wp_ex, wp_no, wp_bind, wp_bindS, wp_noX, slp_v, slp_o, rtp_v, rtp_o, kdp_fz, kdp_fl, kdp_fi, intp_i, blp_b, trp_b, trp_i, trp_l, trp_t, trp_n, optp_s, itp_t, itp_f, itp_nd, itp_ne, lsp_l, nbp_fz, nbp_fr, typ_int, typ_bl, typ_str, typ_non, typ_lst, typ_tup, icp_ins, icp_int, icp_bl, icp_str, icp_non, icp_lst, icp_tup, zpp_l, zpp_t, prp_i, w_var, w_cst, fzp_fz, fzp_fr, w_fzd, w_nil, w_cons, w_bin, w_idx, w_neg, o_add, o_sub, o_mul, o_fdiv, o_mod, o_pow, o_shl, o_shr, o_and, o_or, o_xor, o_eq, o_ne, o_neB, o_lt, o_le, o_gt, o_ge, o_ixl, o_ixt, o_addl, w_tup, w_lst, w_sl, w_eno, w_part, o_sll, o_sls, w_fld, o_fld, w_prop, w_call, w_callK, w_fun1, o_lenl, o_lent, o_listl, o_listt, o_tuplel, o_tuplet, o_int, o_intb, o_abs, o_all, o_any, o_sum, w_is, w_isC, w_isN, w_notN, w_chain, w_tval, w_tand, w_tor, w_tnot, w_yes, w_eand, w_eor, w_enot, w_eif, wkp_s, wk_l, wk_t, wk_r, wk_rl, w_ilist, w_irev, w_ienum, w_range1, w_range2, w_zip, w_comp, s_next, flp_nx, flp_bk, flp_ct, flp_rt, flp_xx, s_seq, s_fz, fr_nil, fr_cons, fr_1, fr_o, fr_v, fr_u, s_set, kd_fz, kd_fl, kd_fi, s_ref, s_asgG, s_par, s_par3, s_ret, s_retV, s_retN, s_drop, s_if, s_no, s_bk, s_ct, s_for, plp_o, plp_r, llp_l, ilp_i, p_putu, s_app, s_put, p_putIu, s_attr, endP_nx, endP_rt, endP_xx, endP_bk, endP_ct, f_fn, f_init, at_0, ix_0, at_1, ix_1, at_2, ix_2, at_3, ix_3, at_4, ix_4, at_5, ix_5, at_6, ix_6, at_7, ix_7, at_8, ix_8, at_9, ix_9, at_10, ix_10, at_11, ix_11, rs_ref, rs_non, rs_bl, rs_int, rs_str, rs_tup, rs_scr, rs_lst, rs_dct, rs_ins, isL, atKs, atVs, gName, enS, List.map_cons, List.map_nil, List.length_cons, List.length_nil, List.cons_append, List.nil_append, List.getElem?_cons_succ, List.getElem?_cons_zero, List.set_cons_succ, List.set_cons_zero, List.replicate, Nat.reduceSub, Nat.reduceAdd, List.getD_cons_zero, List.getD_cons_succ, gTup, gAll, Option.bind_some, isTy, List.any_cons, List.any_nil, Bool.or_false, Bool.false_or, Bool.true_or, Bool.or_true, D.isNon, true_and, Bool.not_true, Bool.not_false, perm, Int.reduceToNat, Nat.reduceLT, Option.map_some, Nat.zero_lt_succ, decide_true, decide_false, Nat.lt_add_left_iff_pos, Nat.lt_add_one, hg2]
  refine comp_mapg (fun _ => .bl true) (by rw [List.length_map, hlen]; unfold maxLen; omega) (fun d hd => ?_) ?_ (gd_same hg2)
  · obtain ⟨x, hx, rfl⟩ := List.mem_map.mp hd
    refine ⟨_, rfl, ?_⟩
    simp only [wp_ok, wp_ex, wp_no, wp_bind, wp_bindS, wp_noX, slp_v, slp_o, rtp_v, rtp_o, kdp_fz, kdp_fl, kdp_fi, intp_i, blp_b, trp_b, trp_i, trp_l, trp_t, trp_n, optp_s, itp_t, itp_f, itp_nd, itp_ne, lsp_l, nbp_fz, nbp_fr, typ_int, typ_bl, typ_str, typ_non, typ_lst, typ_tup, icp_ins, icp_int, icp_bl, icp_str, icp_non, icp_lst, icp_tup, zpp_l, zpp_t, prp_i, w_var, w_cst, fzp_fz, fzp_fr, w_fzd, w_nil, w_cons, w_bin, w_idx, w_neg, o_add, o_sub, o_mul, o_fdiv, o_mod, o_pow, o_shl, o_shr, o_and, o_or, o_xor, o_eq, o_ne, o_neB, o_lt, o_le, o_gt, o_ge, o_ixl, o_ixt, o_addl, w_tup, w_lst, w_sl, w_eno, w_part, o_sll, o_sls, w_fld, o_fld, w_prop, w_call, w_callK, w_fun1, o_lenl, o_lent, o_listl, o_listt, o_tuplel, o_tuplet, o_int, o_intb, o_abs, o_all, o_any, o_sum, w_is, w_isC, w_isN, w_notN, w_chain, w_tval, w_tand, w_tor, w_tnot, w_yes, w_eand, w_eor, w_enot, w_eif, wkp_s, wk_l, wk_t, wk_r, wk_rl, w_ilist, w_irev, w_ienum, w_range1, w_range2, w_zip, w_comp, s_next, flp_nx, flp_bk, flp_ct, flp_rt, flp_xx, s_seq, s_fz, fr_nil, fr_cons, fr_1, fr_o, fr_v, fr_u, s_set, kd_fz, kd_fl, kd_fi, s_ref, s_asgG, s_par, s_par3, s_ret, s_retV, s_retN, s_drop, s_if, s_no, s_bk, s_ct, s_for, plp_o, plp_r, llp_l, ilp_i, p_putu, s_app, s_put, p_putIu, s_attr, endP_nx, endP_rt, endP_xx, endP_bk, endP_ct, f_fn, f_init, at_0, ix_0, at_1, ix_1, at_2, ix_2, at_3, ix_3, at_4, ix_4, at_5, ix_5, at_6, ix_6, at_7, ix_7, at_8, ix_8, at_9, ix_9, at_10, ix_10, at_11, ix_11, rs_ref, rs_non, rs_bl, rs_int, rs_str, rs_tup, rs_scr, rs_lst, rs_dct, rs_ins, isL, atKs, atVs, gName, enS, List.map_cons, List.map_nil, List.length_cons, List.length_nil, List.cons_append, List.nil_append, List.getElem?_cons_succ, List.getElem?_cons_zero, List.set_cons_succ, List.set_cons_zero, List.replicate, Nat.reduceSub, Nat.reduceAdd, List.getD_cons_zero, List.getD_cons_succ, gTup, gAll, Option.bind_some, isTy, List.any_cons, List.any_nil, Bool.or_false, Bool.false_or, Bool.true_or, Bool.or_true, D.isNon, true_and, Bool.not_true, Bool.not_false, perm, Int.reduceToNat, Nat.reduceLT, Option.map_some, Nat.zero_lt_succ, decide_true, decide_false, Nat.lt_add_left_iff_pos, Nat.lt_add_one, wipeE]
    refine (isnum_ok _ _ _).imp0 ?_
    rintro _ st2 ⟨rfl, rfl⟩
    rw [decide_eq_true (hin x hx).1, decide_eq_true (hin x hx).2]
    exact ⟨rfl, rfl⟩
  rw [all_true]
  simp only [wp_ok, wp_ex, wp_no, wp_bind, wp_bindS, wp_noX, slp_v, slp_o, rtp_v, rtp_o, kdp_fz, kdp_fl, kdp_fi, intp_i, blp_b, trp_b, trp_i, trp_l, trp_t, trp_n, optp_s, itp_t, itp_f, itp_nd, itp_ne, lsp_l, nbp_fz, nbp_fr, typ_int, typ_bl, typ_str, typ_non, typ_lst, typ_tup, icp_ins, icp_int, icp_bl, icp_str, icp_non, icp_lst, icp_tup, zpp_l, zpp_t, prp_i, w_var, w_cst, fzp_fz, fzp_fr, w_fzd, w_nil, w_cons, w_bin, w_idx, w_neg, o_add, o_sub, o_mul, o_fdiv, o_mod, o_pow, o_shl, o_shr, o_and, o_or, o_xor, o_eq, o_ne, o_neB, o_lt, o_le, o_gt, o_ge, o_ixl, o_ixt, o_addl, w_tup, w_lst, w_sl, w_eno, w_part, o_sll, o_sls, w_fld, o_fld, w_prop, w_call, w_callK, w_fun1, o_lenl, o_lent, o_listl, o_listt, o_tuplel, o_tuplet, o_int, o_intb, o_abs, o_all, o_any, o_sum, w_is, w_isC, w_isN, w_notN, w_chain, w_tval, w_tand, w_tor, w_tnot, w_yes, w_eand, w_eor, w_enot, w_eif, wkp_s, wk_l, wk_t, wk_r, wk_rl, w_ilist, w_irev, w_ienum, w_range1, w_range2, w_zip, w_comp, s_next, flp_nx, flp_bk, flp_ct, flp_rt, flp_xx, s_fz, fr_nil, fr_cons, fr_1, fr_o, fr_v, fr_u, s_set, kd_fz, kd_fl, kd_fi, s_ref, s_asgG, s_par, s_par3, s_ret, s_retV, s_retN, s_drop, s_no, s_bk, s_ct, plp_o, plp_r, llp_l, ilp_i, p_putu, s_app, s_put, p_putIu, s_attr, endP_nx, endP_rt, endP_xx, endP_bk, endP_ct, f_fn, f_init, at_0, ix_0, at_1, ix_1, at_2, ix_2, at_3, ix_3, at_4, ix_4, at_5, ix_5, at_6, ix_6, at_7, ix_7, at_8, ix_8, at_9, ix_9, at_10, ix_10, at_11, ix_11, rs_ref, rs_non, rs_bl, rs_int, rs_str, rs_tup, rs_scr, rs_lst, rs_dct, rs_ins, isL, atKs, atVs, gName, enS, List.map_cons, List.map_nil, List.length_cons, List.length_nil, List.cons_append, List.nil_append, List.getElem?_cons_succ, List.getElem?_cons_zero, List.set_cons_succ, List.set_cons_zero, List.replicate, Nat.reduceSub, Nat.reduceAdd, List.getD_cons_zero, List.getD_cons_succ, gTup, gAll, Option.bind_some, isTy, List.any_cons, List.any_nil, Bool.or_false, Bool.false_or, Bool.true_or, Bool.or_true, D.isNon, true_and, Bool.not_true, Bool.not_false, perm, Int.reduceToNat, Nat.reduceLT, Option.map_some, Nat.zero_lt_succ, decide_true, decide_false, Nat.lt_add_left_iff_pos, Nat.lt_add_one]
  have allt : ∀ ys : List D, (ys.map fun _ => true).all id = true := fun ys => by
    induction ys with
    | nil => rfl
    | cons y ys ih => rw [List.map_cons, List.all_cons, ih]; rfl
  rw [allt]
  simp only [wp_ok, wp_ex, wp_no, wp_bind, wp_bindS, wp_noX, slp_v, slp_o, rtp_v, rtp_o, kdp_fz, kdp_fl, kdp_fi, intp_i, blp_b, trp_b, trp_i, trp_l, trp_t, trp_n, optp_s, itp_t, itp_f, itp_nd, itp_ne, lsp_l, nbp_fz, nbp_fr, typ_int, typ_bl, typ_str, typ_non, typ_lst, typ_tup, icp_ins, icp_int, icp_bl, icp_str, icp_non, icp_lst, icp_tup, zpp_l, zpp_t, prp_i, w_var, w_cst, fzp_fz, fzp_fr, w_fzd, w_nil, w_cons, w_bin, w_idx, w_neg, o_add, o_sub, o_mul, o_fdiv, o_mod, o_pow, o_shl, o_shr, o_and, o_or, o_xor, o_eq, o_ne, o_neB, o_lt, o_le, o_gt, o_ge, o_ixl, o_ixt, o_addl, w_tup, w_lst, w_sl, w_eno, w_part, o_sll, o_sls, w_fld, o_fld, w_prop, w_call, w_callK, w_fun1, o_lenl, o_lent, o_listl, o_listt, o_tuplel, o_tuplet, o_int, o_intb, o_abs, o_all, o_any, o_sum, w_is, w_isC, w_isN, w_notN, w_chain, w_tval, w_tand, w_tor, w_tnot, w_yes, w_eand, w_eor, w_enot, w_eif, wkp_s, wk_l, wk_t, wk_r, wk_rl, w_ilist, w_irev, w_ienum, w_range1, w_range2, w_zip, w_comp, s_next, flp_nx, flp_bk, flp_ct, flp_rt, flp_xx, s_fz, fr_nil, fr_cons, fr_1, fr_o, fr_v, fr_u, s_set, kd_fz, kd_fl, kd_fi, s_ref, s_asgG, s_par, s_par3, s_ret, s_retV, s_retN, s_drop, s_no, s_bk, s_ct, plp_o, plp_r, llp_l, ilp_i, p_putu, s_app, s_put, p_putIu, s_attr, endP_nx, endP_rt, endP_xx, endP_bk, endP_ct, f_fn, f_init, at_0, ix_0, at_1, ix_1, at_2, ix_2, at_3, ix_3, at_4, ix_4, at_5, ix_5, at_6, ix_6, at_7, ix_7, at_8, ix_8, at_9, ix_9, at_10, ix_10, at_11, ix_11, rs_ref, rs_non, rs_bl, rs_int, rs_str, rs_tup, rs_scr, rs_lst, rs_dct, rs_ins, isL, atKs, atVs, gName, enS, List.map_cons, List.map_nil, List.length_cons, List.length_nil, List.cons_append, List.nil_append, List.getElem?_cons_succ, List.getElem?_cons_zero, List.set_cons_succ, List.set_cons_zero, List.replicate, Nat.reduceSub, Nat.reduceAdd, List.getD_cons_zero, List.getD_cons_succ, gTup, gAll, Option.bind_some, isTy, List.any_cons, List.any_nil, Bool.or_false, Bool.false_or, Bool.true_or, Bool.or_true, D.isNon, true_and, Bool.not_true, Bool.not_false, perm, Int.reduceToNat, Nat.reduceLT, Option.map_some, Nat.zero_lt_succ, decide_true, decide_false, Nat.lt_add_left_iff_pos, Nat.lt_add_one]
  rw [s_seq]
  simp only [wp_ok, wp_ex, wp_no, wp_bind, wp_bindS, wp_noX, slp_v, slp_o, rtp_v, rtp_o, kdp_fz, kdp_fl, kdp_fi, intp_i, blp_b, trp_b, trp_i, trp_l, trp_t, trp_n, optp_s, itp_t, itp_f, itp_nd, itp_ne, lsp_l, nbp_fz, nbp_fr, typ_int, typ_bl, typ_str, typ_non, typ_lst, typ_tup, icp_ins, icp_int, icp_bl, icp_str, icp_non, icp_lst, icp_tup, zpp_l, zpp_t, prp_i, w_var, w_cst, fzp_fz, fzp_fr, w_fzd, w_nil, w_cons, w_bin, w_idx, w_neg, o_add, o_sub, o_mul, o_fdiv, o_mod, o_pow, o_shl, o_shr, o_and, o_or, o_xor, o_eq, o_ne, o_neB, o_lt, o_le, o_gt, o_ge, o_ixl, o_ixt, o_addl, w_tup, w_lst, w_sl, w_eno, w_part, o_sll, o_sls, w_fld, o_fld, w_prop, w_call, w_callK, w_fun1, o_lenl, o_lent, o_listl, o_listt, o_tuplel, o_tuplet, o_int, o_intb, o_abs, o_all, o_any, o_sum, w_is, w_isC, w_isN, w_notN, w_chain, w_tval, w_tand, w_tor, w_tnot, w_yes, w_eand, w_eor, w_enot, w_eif, wkp_s, wk_l, wk_t, wk_r, wk_rl, w_ilist, w_irev, w_ienum, w_range1, w_range2, w_zip, w_comp, s_next, flp_nx, flp_bk, flp_ct, flp_rt, flp_xx, s_fz, fr_nil, fr_cons, fr_1, fr_o, fr_v, fr_u, s_set, kd_fz, kd_fl, kd_fi, s_ref, s_asgG, s_par, s_par3, s_ret, s_retV, s_retN, s_drop, s_no, s_bk, s_ct, plp_o, plp_r, llp_l, ilp_i, p_putu, s_app, s_put, p_putIu, s_attr, endP_nx, endP_rt, endP_xx, endP_bk, endP_ct, f_fn, f_init, at_0, ix_0, at_1, ix_1, at_2, ix_2, at_3, ix_3, at_4, ix_4, at_5, ix_5, at_6, ix_6, at_7, ix_7, at_8, ix_8, at_9, ix_9, at_10, ix_10, at_11, ix_11, rs_ref, rs_non, rs_bl, rs_int, rs_str, rs_tup, rs_scr, rs_lst, rs_dct, rs_ins, isL, atKs, atVs, gName, enS, List.map_cons, List.map_nil, List.length_cons, List.length_nil, List.cons_append, List.nil_append, List.getElem?_cons_succ, List.getElem?_cons_zero, List.set_cons_succ, List.set_cons_zero, List.replicate, Nat.reduceSub, Nat.reduceAdd, List.getD_cons_zero, List.getD_cons_succ, gTup, gAll, Option.bind_some, isTy, List.any_cons, List.any_nil, Bool.or_false, Bool.false_or, Bool.true_or, Bool.or_true, D.isNon, true_and, Bool.not_true, Bool.not_false, perm, Int.reduceToNat, Nat.reduceLT, Option.map_some, Nat.zero_lt_succ, decide_true, decide_false, Nat.lt_add_left_iff_pos, Nat.lt_add_one]
  refine ⟨hq, ?_⟩
  rw [s_seq]
  refine R.Wp.imp (P := fun (f : Fl) st2 => ∃ s8 y, f = .nx [.val (frame l N B s w q), .val (five l N B s w), .val (.int q), .val (.int n), .val (.int (B / 2)), .val (.ref st'.length), .val (.int (n % q - val B ds)), .val (.int y), s8] ∧ st2 = st' ++ [D.lst (ds.map D.int)]) ?_ ?_
  · simp only [wp_ok, wp_ex, wp_no, wp_bind, wp_bindS, wp_noX, slp_v, slp_o, rtp_v, rtp_o, kdp_fz, kdp_fl, kdp_fi, intp_i, blp_b, trp_b, trp_i, trp_l, trp_t, trp_n, optp_s, itp_t, itp_f, itp_nd, itp_ne, lsp_l, nbp_fz, nbp_fr, typ_int, typ_bl, typ_str, typ_non, typ_lst, typ_tup, icp_ins, icp_int, icp_bl, icp_str, icp_non, icp_lst, icp_tup, zpp_l, zpp_t, prp_i, w_var, w_cst, fzp_fz, fzp_fr, w_fzd, w_nil, w_cons, w_bin, w_idx, w_neg, o_add, o_sub, o_mul, o_fdiv, o_mod, o_pow, o_shl, o_shr, o_and, o_or, o_xor, o_eq, o_ne, o_neB, o_lt, o_le, o_gt, o_ge, o_ixl, o_ixt, o_addl, w_tup, w_lst, w_sl, w_eno, w_part, o_sll, o_sls, w_fld, o_fld, w_prop, w_call, w_callK, w_fun1, o_lenl, o_lent, o_listl, o_listt, o_tuplel, o_tuplet, o_int, o_intb, o_abs, o_all, o_any, o_sum, w_is, w_isC, w_isN, w_notN, w_chain, w_tval, w_tand, w_tor, w_tnot, w_yes, w_eand, w_eor, w_enot, w_eif, wkp_s, wk_l, wk_t, wk_r, wk_rl, w_ilist, w_irev, w_ienum, w_range1, w_range2, w_zip, w_comp, s_next, flp_nx, flp_bk, flp_ct, flp_rt, flp_xx, s_seq, s_fz, fr_nil, fr_cons, fr_1, fr_o, fr_v, fr_u, s_set, kd_fz, kd_fl, kd_fi, s_ref, s_asgG, s_par, s_par3, s_ret, s_retV, s_retN, s_drop, s_if, s_no, s_bk, s_ct, s_for, plp_o, plp_r, llp_l, ilp_i, p_putu, s_app, s_put, p_putIu, s_attr, endP_nx, endP_rt, endP_xx, endP_bk, endP_ct, f_fn, f_init, at_0, ix_0, at_1, ix_1, at_2, ix_2, at_3, ix_3, at_4, ix_4, at_5, ix_5, at_6, ix_6, at_7, ix_7, at_8, ix_8, at_9, ix_9, at_10, ix_10, at_11, ix_11, rs_ref, rs_non, rs_bl, rs_int, rs_str, rs_tup, rs_scr, rs_lst, rs_dct, rs_ins, isL, atKs, atVs, gName, enS, List.map_cons, List.map_nil, List.length_cons, List.length_nil, List.cons_append, List.nil_append, List.getElem?_cons_succ, List.getElem?_cons_zero, List.set_cons_succ, List.set_cons_zero, List.replicate, Nat.reduceSub, Nat.reduceAdd, List.getD_cons_zero, List.getD_cons_succ, gTup, gAll, Option.bind_some, isTy, List.any_cons, List.any_nil, Bool.or_false, Bool.false_or, Bool.true_or, Bool.or_true, D.isNon, true_and, Bool.not_true, Bool.not_false, perm, Int.reduceToNat, Nat.reduceLT, Option.map_some, Nat.zero_lt_succ, decide_true, decide_false, Nat.lt_add_left_iff_pos, Nat.lt_add_one, hg2]
    refine for_okg (J := fun i ρ st2 => ∃ s8, ρ = [.val (frame l N B s w q), .val (five l N B s w), .val (.int q), .val (.int n), .val (.int (B / 2)), .val (.ref st'.length), .val (.int (n % q - val B (ds.take i))), .val (.int (B ^ i)), s8] ∧ st2 = st' ++ [D.lst (ds.map D.int)]) (fun m ρ st2 hj => by obtain ⟨_, _, rfl⟩ := hj; exact gd_same hg2) ⟨.un, by rw [Int.pow_zero, List.take_zero, show val B [] = 0 from rfl, Int.sub_zero], rfl⟩ ?_ ?_
    · rintro i d ρ st2 hd ⟨s8, rfl, rfl⟩
      rw [List.getElem?_map] at hd
      cases hx : ds[i]? with
      | none => rw [hx] at hd; cases hd
      | some x =>
        rw [hx] at hd
        cases hd
        have hb := hin x (List.mem_of_getElem? hx)
        refine ⟨_, rfl, ?_⟩
        simp only [wp_ok, wp_ex, wp_no, wp_bind, wp_bindS, wp_noX, slp_v, slp_o, rtp_v, rtp_o, kdp_fz, kdp_fl, kdp_fi, intp_i, blp_b, trp_b, trp_i, trp_l, trp_t, trp_n, optp_s, itp_t, itp_f, itp_nd, itp_ne, lsp_l, nbp_fz, nbp_fr, typ_int, typ_bl, typ_str, typ_non, typ_lst, typ_tup, icp_ins, icp_int, icp_bl, icp_str, icp_non, icp_lst, icp_tup, zpp_l, zpp_t, prp_i, w_var, w_cst, fzp_fz, fzp_fr, w_fzd, w_nil, w_cons, w_bin, w_idx, w_neg, o_add, o_sub, o_mul, o_fdiv, o_mod, o_pow, o_shl, o_shr, o_and, o_or, o_xor, o_eq, o_ne, o_neB, o_lt, o_le, o_gt, o_ge, o_ixl, o_ixt, o_addl, w_tup, w_lst, w_sl, w_eno, w_part, o_sll, o_sls, w_fld, o_fld, w_prop, w_call, w_callK, w_fun1, o_lenl, o_lent, o_listl, o_listt, o_tuplel, o_tuplet, o_int, o_intb, o_abs, o_all, o_any, o_sum, w_is, w_isC, w_isN, w_notN, w_chain, w_tval, w_tand, w_tor, w_tnot, w_yes, w_eand, w_eor, w_enot, w_eif, wkp_s, wk_l, wk_t, wk_r, wk_rl, w_ilist, w_irev, w_ienum, w_range1, w_range2, w_zip, w_comp, s_next, flp_nx, flp_bk, flp_ct, flp_rt, flp_xx, s_seq, s_fz, fr_nil, fr_cons, fr_1, fr_o, fr_v, fr_u, s_set, kd_fz, kd_fl, kd_fi, s_ref, s_asgG, s_par, s_par3, s_ret, s_retV, s_retN, s_drop, s_if, s_no, s_bk, s_ct, s_for, plp_o, plp_r, llp_l, ilp_i, p_putu, s_app, s_put, p_putIu, s_attr, endP_nx, endP_rt, endP_xx, endP_bk, endP_ct, f_fn, f_init, at_0, ix_0, at_1, ix_1, at_2, ix_2, at_3, ix_3, at_4, ix_4, at_5, ix_5, at_6, ix_6, at_7, ix_7, at_8, ix_8, at_9, ix_9, at_10, ix_10, at_11, ix_11, rs_ref, rs_non, rs_bl, rs_int, rs_str, rs_tup, rs_scr, rs_lst, rs_dct, rs_ins, isL, atKs, atVs, gName, enS, List.map_cons, List.map_nil, List.length_cons, List.length_nil, List.cons_append, List.nil_append, List.getElem?_cons_succ, List.getElem?_cons_zero, List.set_cons_succ, List.set_cons_zero, List.replicate, Nat.reduceSub, Nat.reduceAdd, List.getD_cons_zero, List.getD_cons_succ, gTup, gAll, Option.bind_some, isTy, List.any_cons, List.any_nil, Bool.or_false, Bool.false_or, Bool.true_or, Bool.or_true, D.isNon, true_and, Bool.not_true, Bool.not_false, perm, Int.reduceToNat, Nat.reduceLT, Option.map_some, Nat.zero_lt_succ, decide_true, decide_false, Nat.lt_add_left_iff_pos, Nat.lt_add_one, rs_five, five_2]
        refine ⟨mulOk_l (by omega) (by omega), mulOk_r (by omega) (by omega), .val (.int x), ?_, trivial⟩
        rw [List.take_add_one, hx, val_app, Int.pow_succ]
        have hi := (List.getElem?_eq_some_iff.mp hx).1
        rw [List.length_take, Nat.min_eq_left (by omega)]
        have : val B (some x).toList = x := by show x + B * 0 = x; omega
        rw [this, Int.mul_comm (B ^ i) x]
        have : n % q - val B (ds.take i) - x * B ^ i = n % q - (val B (ds.take i) + x * B ^ i) := by omega
        rw [this]
    · rintro ρ st2 ⟨s8, rfl, rfl⟩
      rw [List.length_map, List.take_length]
      exact ⟨_, _, rfl, rfl⟩
  · rintro _ st2 ⟨s8, y, rfl, rfl⟩
    simp only [wp_ok, wp_ex, wp_no, wp_bind, wp_bindS, wp_noX, slp_v, slp_o, rtp_v, rtp_o, kdp_fz, kdp_fl, kdp_fi, intp_i, blp_b, trp_b, trp_i, trp_l, trp_t, trp_n, optp_s, itp_t, itp_f, itp_nd, itp_ne, lsp_l, nbp_fz, nbp_fr, typ_int, typ_bl, typ_str, typ_non, typ_lst, typ_tup, icp_ins, icp_int, icp_bl, icp_str, icp_non, icp_lst, icp_tup, zpp_l, zpp_t, prp_i, w_var, w_cst, fzp_fz, fzp_fr, w_fzd, w_nil, w_cons, w_bin, w_idx, w_neg, o_add, o_sub, o_mul, o_fdiv, o_mod, o_pow, o_shl, o_shr, o_and, o_or, o_xor, o_eq, o_ne, o_neB, o_lt, o_le, o_gt, o_ge, o_ixl, o_ixt, o_addl, w_tup, w_lst, w_sl, w_eno, w_part, o_sll, o_sls, w_fld, o_fld, w_prop, w_call, w_callK, w_fun1, o_lenl, o_lent, o_listl, o_listt, o_tuplel, o_tuplet, o_int, o_intb, o_abs, o_all, o_any, o_sum, w_is, w_isC, w_isN, w_notN, w_chain, w_tval, w_tand, w_tor, w_tnot, w_yes, w_eand, w_eor, w_enot, w_eif, wkp_s, wk_l, wk_t, wk_r, wk_rl, w_ilist, w_irev, w_ienum, w_range1, w_range2, w_zip, w_comp, s_next, flp_nx, flp_bk, flp_ct, flp_rt, flp_xx, s_seq, s_fz, fr_nil, fr_cons, fr_1, fr_o, fr_v, fr_u, s_set, kd_fz, kd_fl, kd_fi, s_ref, s_asgG, s_par, s_par3, s_ret, s_retV, s_retN, s_drop, s_if, s_no, s_bk, s_ct, s_for, plp_o, plp_r, llp_l, ilp_i, p_putu, s_app, s_put, p_putIu, s_attr, endP_nx, endP_rt, endP_xx, endP_bk, endP_ct, f_fn, f_init, at_0, ix_0, at_1, ix_1, at_2, ix_2, at_3, ix_3, at_4, ix_4, at_5, ix_5, at_6, ix_6, at_7, ix_7, at_8, ix_8, at_9, ix_9, at_10, ix_10, at_11, ix_11, rs_ref, rs_non, rs_bl, rs_int, rs_str, rs_tup, rs_scr, rs_lst, rs_dct, rs_ins, isL, atKs, atVs, gName, enS, List.map_cons, List.map_nil, List.length_cons, List.length_nil, List.cons_append, List.nil_append, List.getElem?_cons_succ, List.getElem?_cons_zero, List.set_cons_succ, List.set_cons_zero, List.replicate, Nat.reduceSub, Nat.reduceAdd, List.getD_cons_zero, List.getD_cons_succ, gTup, gAll, Option.bind_some, isTy, List.any_cons, List.any_nil, Bool.or_false, Bool.false_or, Bool.true_or, Bool.or_true, D.isNon, true_and, Bool.not_true, Bool.not_false, perm, Int.reduceToNat, Nat.reduceLT, Option.map_some, Nat.zero_lt_succ, decide_true, decide_false, Nat.lt_add_left_iff_pos, Nat.lt_add_one]
    refine ⟨hq, ?_⟩
    have e0 : (n % q - val B ds) % q = 0 := by
      have : n % q - val B ds = q * r := by omega
      rw [this, Int.mul_emod_right]
    rw [e0]
    simp only [wp_ok, wp_ex, wp_no, wp_bind, wp_bindS, wp_noX, slp_v, slp_o, rtp_v, rtp_o, kdp_fz, kdp_fl, kdp_fi, intp_i, blp_b, trp_b, trp_i, trp_l, trp_t, trp_n, optp_s, itp_t, itp_f, itp_nd, itp_ne, lsp_l, nbp_fz, nbp_fr, typ_int, typ_bl, typ_str, typ_non, typ_lst, typ_tup, icp_ins, icp_int, icp_bl, icp_str, icp_non, icp_lst, icp_tup, zpp_l, zpp_t, prp_i, w_var, w_cst, fzp_fz, fzp_fr, w_fzd, w_nil, w_cons, w_bin, w_idx, w_neg, o_add, o_sub, o_mul, o_fdiv, o_mod, o_pow, o_shl, o_shr, o_and, o_or, o_xor, o_eq, o_ne, o_neB, o_lt, o_le, o_gt, o_ge, o_ixl, o_ixt, o_addl, w_tup, w_lst, w_sl, w_eno, w_part, o_sll, o_sls, w_fld, o_fld, w_prop, w_call, w_callK, w_fun1, o_lenl, o_lent, o_listl, o_listt, o_tuplel, o_tuplet, o_int, o_intb, o_abs, o_all, o_any, o_sum, w_is, w_isC, w_isN, w_notN, w_chain, w_tval, w_tand, w_tor, w_tnot, w_yes, w_eand, w_eor, w_enot, w_eif, wkp_s, wk_l, wk_t, wk_r, wk_rl, w_ilist, w_irev, w_ienum, w_range1, w_range2, w_zip, w_comp, s_next, flp_nx, flp_bk, flp_ct, flp_rt, flp_xx, s_seq, s_fz, fr_nil, fr_cons, fr_1, fr_o, fr_v, fr_u, s_set, kd_fz, kd_fl, kd_fi, s_ref, s_asgG, s_par, s_par3, s_ret, s_retV, s_retN, s_drop, s_if, s_no, s_bk, s_ct, s_for, plp_o, plp_r, llp_l, ilp_i, p_putu, s_app, s_put, p_putIu, s_attr, endP_nx, endP_rt, endP_xx, endP_bk, endP_ct, f_fn, f_init, at_0, ix_0, at_1, ix_1, at_2, ix_2, at_3, ix_3, at_4, ix_4, at_5, ix_5, at_6, ix_6, at_7, ix_7, at_8, ix_8, at_9, ix_9, at_10, ix_10, at_11, ix_11, rs_ref, rs_non, rs_bl, rs_int, rs_str, rs_tup, rs_scr, rs_lst, rs_dct, rs_ins, isL, atKs, atVs, gName, enS, List.map_cons, List.map_nil, List.length_cons, List.length_nil, List.cons_append, List.nil_append, List.getElem?_cons_succ, List.getElem?_cons_zero, List.set_cons_succ, List.set_cons_zero, List.replicate, Nat.reduceSub, Nat.reduceAdd, List.getD_cons_zero, List.getD_cons_succ, gTup, gAll, Option.bind_some, isTy, List.any_cons, List.any_nil, Bool.or_false, Bool.false_or, Bool.true_or, Bool.or_true, D.isNon, true_and, Bool.not_true, Bool.not_false, perm, Int.reduceToNat, Nat.reduceLT, Option.map_some, Nat.zero_lt_succ, decide_true, decide_false, Nat.lt_add_left_iff_pos, Nat.lt_add_one, decide_true]
    have ew : wf B q ds = n % q := by
      rw [wf_val hq]
      have : val B ds = n % q + q * (-r) := by rw [Int.mul_neg]; omega
      rw [this, Int.add_mul_emod_self_left, Int.emod_emod_of_dvd _ (Int.dvd_refl _)]
    refine (whole_gen h (xs := ds) (gs := [(st'.length, ds.map D.int)]) (by rw [wk_r, hg2]; rfl) (gd_same hg2)).imp0 ?_
    rintro _ st3 ⟨rfl, rfl⟩
    simp only [wp_ok, wp_ex, wp_no, wp_bind, wp_bindS, wp_noX, slp_v, slp_o, rtp_v, rtp_o, kdp_fz, kdp_fl, kdp_fi, intp_i, blp_b, trp_b, trp_i, trp_l, trp_t, trp_n, optp_s, itp_t, itp_f, itp_nd, itp_ne, lsp_l, nbp_fz, nbp_fr, typ_int, typ_bl, typ_str, typ_non, typ_lst, typ_tup, icp_ins, icp_int, icp_bl, icp_str, icp_non, icp_lst, icp_tup, zpp_l, zpp_t, prp_i, w_var, w_cst, fzp_fz, fzp_fr, w_fzd, w_nil, w_cons, w_bin, w_idx, w_neg, o_add, o_sub, o_mul, o_fdiv, o_mod, o_pow, o_shl, o_shr, o_and, o_or, o_xor, o_eq, o_ne, o_neB, o_lt, o_le, o_gt, o_ge, o_ixl, o_ixt, o_addl, w_tup, w_lst, w_sl, w_eno, w_part, o_sll, o_sls, w_fld, o_fld, w_prop, w_call, w_callK, w_fun1, o_lenl, o_lent, o_listl, o_listt, o_tuplel, o_tuplet, o_int, o_intb, o_abs, o_all, o_any, o_sum, w_is, w_isC, w_isN, w_notN, w_chain, w_tval, w_tand, w_tor, w_tnot, w_yes, w_eand, w_eor, w_enot, w_eif, wkp_s, wk_l, wk_t, wk_r, wk_rl, w_ilist, w_irev, w_ienum, w_range1, w_range2, w_zip, w_comp, s_next, flp_nx, flp_bk, flp_ct, flp_rt, flp_xx, s_seq, s_fz, fr_nil, fr_cons, fr_1, fr_o, fr_v, fr_u, s_set, kd_fz, kd_fl, kd_fi, s_ref, s_asgG, s_par, s_par3, s_ret, s_retV, s_retN, s_drop, s_if, s_no, s_bk, s_ct, s_for, plp_o, plp_r, llp_l, ilp_i, p_putu, s_app, s_put, p_putIu, s_attr, endP_nx, endP_rt, endP_xx, endP_bk, endP_ct, f_fn, f_init, at_0, ix_0, at_1, ix_1, at_2, ix_2, at_3, ix_3, at_4, ix_4, at_5, ix_5, at_6, ix_6, at_7, ix_7, at_8, ix_8, at_9, ix_9, at_10, ix_10, at_11, ix_11, rs_ref, rs_non, rs_bl, rs_int, rs_str, rs_tup, rs_scr, rs_lst, rs_dct, rs_ins, isL, atKs, atVs, gName, enS, List.map_cons, List.map_nil, List.length_cons, List.length_nil, List.cons_append, List.nil_append, List.getElem?_cons_succ, List.getElem?_cons_zero, List.set_cons_succ, List.set_cons_zero, List.replicate, Nat.reduceSub, Nat.reduceAdd, List.getD_cons_zero, List.getD_cons_succ, gTup, gAll, Option.bind_some, isTy, List.any_cons, List.any_nil, Bool.or_false, Bool.false_or, Bool.true_or, Bool.or_true, D.isNon, true_and, Bool.not_true, Bool.not_false, perm, Int.reduceToNat, Nat.reduceLT, Option.map_some, Nat.zero_lt_succ, decide_true, decide_false, Nat.lt_add_left_iff_pos, Nat.lt_add_one, hg]
    refine (whole_gen h (xs := ds) (gs := []) rfl rfl).imp0 ?_
    rintro _ st3 ⟨rfl, rfl⟩
    rw [ew]
    simp only [wp_ok, wp_ex, wp_no, wp_bind, wp_bindS, wp_noX, slp_v, slp_o, rtp_v, rtp_o, kdp_fz, kdp_fl, kdp_fi, intp_i, blp_b, trp_b, trp_i, trp_l, trp_t, trp_n, optp_s, itp_t, itp_f, itp_nd, itp_ne, lsp_l, nbp_fz, nbp_fr, typ_int, typ_bl, typ_str, typ_non, typ_lst, typ_tup, icp_ins, icp_int, icp_bl, icp_str, icp_non, icp_lst, icp_tup, zpp_l, zpp_t, prp_i, w_var, w_cst, fzp_fz, fzp_fr, w_fzd, w_nil, w_cons, w_bin, w_idx, w_neg, o_add, o_sub, o_mul, o_fdiv, o_mod, o_pow, o_shl, o_shr, o_and, o_or, o_xor, o_eq, o_ne, o_neB, o_lt, o_le, o_gt, o_ge, o_ixl, o_ixt, o_addl, w_tup, w_lst, w_sl, w_eno, w_part, o_sll, o_sls, w_fld, o_fld, w_prop, w_call, w_callK, w_fun1, o_lenl, o_lent, o_listl, o_listt, o_tuplel, o_tuplet, o_int, o_intb, o_abs, o_all, o_any, o_sum, w_is, w_isC, w_isN, w_notN, w_chain, w_tval, w_tand, w_tor, w_tnot, w_yes, w_eand, w_eor, w_enot, w_eif, wkp_s, wk_l, wk_t, wk_r, wk_rl, w_ilist, w_irev, w_ienum, w_range1, w_range2, w_zip, w_comp, s_next, flp_nx, flp_bk, flp_ct, flp_rt, flp_xx, s_seq, s_fz, fr_nil, fr_cons, fr_1, fr_o, fr_v, fr_u, s_set, kd_fz, kd_fl, kd_fi, s_ref, s_asgG, s_par, s_par3, s_ret, s_retV, s_retN, s_drop, s_if, s_no, s_bk, s_ct, s_for, plp_o, plp_r, llp_l, ilp_i, p_putu, s_app, s_put, p_putIu, s_attr, endP_nx, endP_rt, endP_xx, endP_bk, endP_ct, f_fn, f_init, at_0, ix_0, at_1, ix_1, at_2, ix_2, at_3, ix_3, at_4, ix_4, at_5, ix_5, at_6, ix_6, at_7, ix_7, at_8, ix_8, at_9, ix_9, at_10, ix_10, at_11, ix_11, rs_ref, rs_non, rs_bl, rs_int, rs_str, rs_tup, rs_scr, rs_lst, rs_dct, rs_ins, isL, atKs, atVs, gName, enS, List.map_cons, List.map_nil, List.length_cons, List.length_nil, List.cons_append, List.nil_append, List.getElem?_cons_succ, List.getElem?_cons_zero, List.set_cons_succ, List.set_cons_zero, List.replicate, Nat.reduceSub, Nat.reduceAdd, List.getD_cons_zero, List.getD_cons_succ, gTup, gAll, Option.bind_some, isTy, List.any_cons, List.any_nil, Bool.or_false, Bool.false_or, Bool.true_or, Bool.or_true, D.isNon, true_and, Bool.not_true, Bool.not_false, perm, Int.reduceToNat, Nat.reduceLT, Option.map_some, Nat.zero_lt_succ, decide_true, decide_false, Nat.lt_add_left_iff_pos, Nat.lt_add_one]
    refine ⟨by decide, hq, hq, by decide, (like_two 6 _ _ _ _ rfl rfl).imp0 ?_⟩
    rintro _ st3 ⟨rfl, rfl⟩
    simp only [wp_ok, wp_ex, wp_no, wp_bind, wp_bindS, wp_noX, slp_v, slp_o, rtp_v, rtp_o, kdp_fz, kdp_fl, kdp_fi, intp_i, blp_b, trp_b, trp_i, trp_l, trp_t, trp_n, optp_s, itp_t, itp_f, itp_nd, itp_ne, lsp_l, nbp_fz, nbp_fr, typ_int, typ_bl, typ_str, typ_non, typ_lst, typ_tup, icp_ins, icp_int, icp_bl, icp_str, icp_non, icp_lst, icp_tup, zpp_l, zpp_t, prp_i, w_var, w_cst, fzp_fz, fzp_fr, w_fzd, w_nil, w_cons, w_bin, w_idx, w_neg, o_add, o_sub, o_mul, o_fdiv, o_mod, o_pow, o_shl, o_shr, o_and, o_or, o_xor, o_eq, o_ne, o_neB, o_lt, o_le, o_gt, o_ge, o_ixl, o_ixt, o_addl, w_tup, w_lst, w_sl, w_eno, w_part, o_sll, o_sls, w_fld, o_fld, w_prop, w_call, w_callK, w_fun1, o_lenl, o_lent, o_listl, o_listt, o_tuplel, o_tuplet, o_int, o_intb, o_abs, o_all, o_any, o_sum, w_is, w_isC, w_isN, w_notN, w_chain, w_tval, w_tand, w_tor, w_tnot, w_yes, w_eand, w_eor, w_enot, w_eif, wkp_s, wk_l, wk_t, wk_r, wk_rl, w_ilist, w_irev, w_ienum, w_range1, w_range2, w_zip, w_comp, s_next, flp_nx, flp_bk, flp_ct, flp_rt, flp_xx, s_seq, s_fz, fr_nil, fr_cons, fr_1, fr_o, fr_v, fr_u, s_set, kd_fz, kd_fl, kd_fi, s_ref, s_asgG, s_par, s_par3, s_ret, s_retV, s_retN, s_drop, s_if, s_no, s_bk, s_ct, s_for, plp_o, plp_r, llp_l, ilp_i, p_putu, s_app, s_put, p_putIu, s_attr, endP_nx, endP_rt, endP_xx, endP_bk, endP_ct, f_fn, f_init, at_0, ix_0, at_1, ix_1, at_2, ix_2, at_3, ix_3, at_4, ix_4, at_5, ix_5, at_6, ix_6, at_7, ix_7, at_8, ix_8, at_9, ix_9, at_10, ix_10, at_11, ix_11, rs_ref, rs_non, rs_bl, rs_int, rs_str, rs_tup, rs_scr, rs_lst, rs_dct, rs_ins, isL, atKs, atVs, gName, enS, List.map_cons, List.map_nil, List.length_cons, List.length_nil, List.cons_append, List.nil_append, List.getElem?_cons_succ, List.getElem?_cons_zero, List.set_cons_succ, List.set_cons_zero, List.replicate, Nat.reduceSub, Nat.reduceAdd, List.getD_cons_zero, List.getD_cons_succ, gTup, gAll, Option.bind_some, isTy, List.any_cons, List.any_nil, Bool.or_false, Bool.false_or, Bool.true_or, Bool.or_true, D.isNon, true_and, Bool.not_true, Bool.not_false, perm, Int.reduceToNat, Nat.reduceLT, Option.map_some, Nat.zero_lt_succ, decide_true, decide_false, Nat.lt_add_left_iff_pos, Nat.lt_add_one]
theorem bag_len (hb : Bag rest st) : st.length = rest.length + 1 := by
  obtain ⟨_, _, _, _, _, rfl, _⟩ := hb
  rfl
theorem bag_app (hb : Bag rest st) (r : List D) : Bag (rest ++ r) (st ++ r) := by
  obtain ⟨xs, a, c, m, n, rfl, h⟩ := hb
  exact ⟨xs, a, c, m, n, rfl, h⟩
theorem bag_get {x : D} (hb : Bag (rest ++ [x]) st) : st[rest.length + 1]? = some x := by
  obtain ⟨xs, a, c, m, n, rfl, h⟩ := hb
  rw [List.getElem?_cons_succ]
  simp
theorem bag_getD {x : D} (hb : Bag (rest ++ [x]) st) : st.getD (rest.length + 1) .non = x := by
  rw [List.getD_eq_getElem?_getD, bag_get hb]
  rfl
theorem bag_set {x : D} (y : D) (hb : Bag (rest ++ [x]) st) : Bag (rest ++ [y]) (st.set (rest.length + 1) y) := by
  obtain ⟨xs, a, c, m, n, rfl, h⟩ := hb
  refine ⟨xs, a, c, m, n, ?_, h⟩
  rw [List.set_cons_succ]
  simp
theorem cen_mod (n : Int) : cen q n % q = n % q := by
  have e := Int.mul_ediv_add_emod n q
  unfold cen
  split
  · have : n % q - q = n + q * (-(n / q) - 1) := by rw [Int.mul_sub, Int.mul_neg]; omega
    rw [this, Int.add_mul_emod_self_left]
  · exact Int.emod_emod_of_dvd _ (Int.dvd_refl _)
theorem cen_eq {n m : Int} (h : n % q = m % q) : cen q n = cen q m := by unfold cen; rw [h]
theorem nso_ok (h : Par l N B s w q g) (n : Int) (hb : Bag rest st) : (w__law_number_so [.ref 0, frame l N B s w q, five l N B s w, .int q, .int n] st).Wp (fun p st' => p = (.bl true, .fz) ∧ ∃ x, Bag (rest ++ [x]) st') NX := by
  have hq := h.q0; have hB := h.B4; have hB2 := h.B6; have hs := h.s1; have hs8 := h.s8
  unfold w__law_number_so
  rw [f_fn]
  unfold b__law_number_so
  simp only [wp_ok, wp_ex, wp_no, wp_bind, wp_bindS, wp_noX, slp_v, slp_o, rtp_v, rtp_o, kdp_fz, kdp_fl, kdp_fi, intp_i, blp_b, trp_b, trp_i, trp_l, trp_t, trp_n, optp_s, itp_t, itp_f, itp_nd, itp_ne, lsp_l, nbp_fz, nbp_fr, typ_int, typ_bl, typ_str, typ_non, typ_lst, typ_tup, icp_ins, icp_int, icp_bl, icp_str, icp_non, icp_lst, icp_tup, zpp_l, zpp_t, prp_i, w_var, w_cst, fzp_fz, fzp_fr, w_fzd, w_nil, w_cons, w_bin, w_idx, w_neg, o_add, o_sub, o_mul, o_fdiv, o_mod, o_pow, o_shl, o_shr, o_and, o_or, o_xor, o_eq, o_ne, o_neB, o_lt, o_le, o_gt, o_ge, o_ixl, o_ixt, o_addl, w_tup, w_lst, w_sl, w_eno, w_part, o_sll, o_sls, w_fld, o_fld, w_prop, w_call, w_callK, w_fun1, o_lenl, o_lent, o_listl, o_listt, o_tuplel, o_tuplet, o_int, o_intb, o_abs, o_all, o_any, o_sum, w_is, w_isC, w_isN, w_notN, w_chain, w_tval, w_tand, w_tor, w_tnot, w_yes, w_eand, w_eor, w_enot, w_eif, wkp_s, wk_l, wk_t, wk_r, wk_rl, w_ilist, w_irev, w_ienum, w_range1, w_range2, w_zip, w_comp, s_next, flp_nx, flp_bk, flp_ct, flp_rt, flp_xx, s_seq, s_fz, fr_nil, fr_cons, fr_1, fr_o, fr_v, fr_u, s_set, kd_fz, kd_fl, kd_fi, s_ref, s_asgG, s_par, s_par3, s_ret, s_retV, s_retN, s_drop, s_if, s_no, s_bk, s_ct, s_for, plp_o, plp_r, llp_l, ilp_i, p_putu, s_app, s_put, p_putIu, s_attr, endP_nx, endP_rt, endP_xx, endP_bk, endP_ct, f_fn, f_init, at_0, ix_0, at_1, ix_1, at_2, ix_2, at_3, ix_3, at_4, ix_4, at_5, ix_5, at_6, ix_6, at_7, ix_7, at_8, ix_8, at_9, ix_9, at_10, ix_10, at_11, ix_11, rs_ref, rs_non, rs_bl, rs_int, rs_str, rs_tup, rs_scr, rs_lst, rs_dct, rs_ins, isL, atKs, atVs, gName, enS, List.map_cons, List.map_nil, List.length_cons, List.length_nil, List.cons_append, List.nil_append, List.getElem?_cons_succ, List.getElem?_cons_zero, List.set_cons_succ, List.set_cons_zero, List.replicate, Nat.reduceSub, Nat.reduceAdd, List.getD_cons_zero, List.getD_cons_succ, gTup, gAll, Option.bind_some, isTy, List.any_cons, List.any_nil, Bool.or_false, Bool.false_or, Bool.true_or, Bool.or_true, D.isNon, true_and, Bool.not_true, Bool.not_false, perm, Int.reduceToNat, Nat.reduceLT, Option.map_some, Nat.zero_lt_succ, decide_true, decide_false, Nat.lt_add_left_iff_pos, Nat.lt_add_one]
  refine (dso_ok h n).imp0 ?_
  rintro _ st1 ⟨rfl, rfl⟩
  have hb1 := bag_app hb [.lst ((digs B s.toNat (n % q)).map D.int)]
  rw [bag_len hb]
  have hlen := digs_len B s.toNat (n % q)
  have hds : ∀ m : Int, m % q = n % q → digs B s.toNat (m % q) = digs B s.toNat (n % q) := fun m hm => by rw [hm]
  generalize st ++ [D.lst ((digs B s.toNat (n % q)).map D.int)] = st1 at hb1
  generalize digs B s.toNat (n % q) = ds at hb1 hlen hds
  simp only [wp_ok, wp_ex, wp_no, wp_bind, wp_bindS, wp_noX, slp_v, slp_o, rtp_v, rtp_o, kdp_fz, kdp_fl, kdp_fi, intp_i, blp_b, trp_b, trp_i, trp_l, trp_t, trp_n, optp_s, itp_t, itp_f, itp_nd, itp_ne, lsp_l, nbp_fz, nbp_fr, typ_int, typ_bl, typ_str, typ_non, typ_lst, typ_tup, icp_ins, icp_int, icp_bl, icp_str, icp_non, icp_lst, icp_tup, zpp_l, zpp_t, prp_i, w_var, w_cst, fzp_fz, fzp_fr, w_fzd, w_nil, w_cons, w_bin, w_idx, w_neg, o_add, o_sub, o_mul, o_fdiv, o_mod, o_pow, o_shl, o_shr, o_and, o_or, o_xor, o_eq, o_ne, o_neB, o_lt, o_le, o_gt, o_ge, o_ixl, o_ixt, o_addl, w_tup, w_lst, w_sl, w_eno, w_part, o_sll, o_sls, w_fld, o_fld, w_prop, w_call, w_callK, w_fun1, o_lenl, o_lent, o_listl, o_listt, o_tuplel, o_tuplet, o_int, o_intb, o_abs, o_all, o_any, o_sum, w_is, w_isC, w_isN, w_notN, w_chain, w_tval, w_tand, w_tor, w_tnot, w_yes, w_eand, w_eor, w_enot, w_eif, wkp_s, wk_l, wk_t, wk_r, wk_rl, w_ilist, w_irev, w_ienum, w_range1, w_range2, w_zip, w_comp, s_next, flp_nx, flp_bk, flp_ct, flp_rt, flp_xx, s_seq, s_fz, fr_nil, fr_cons, fr_1, fr_o, fr_v, fr_u, s_set, kd_fz, kd_fl, kd_fi, s_ref, s_asgG, s_par, s_par3, s_ret, s_retV, s_retN, s_drop, s_if, s_no, s_bk, s_ct, s_for, plp_o, plp_r, llp_l, ilp_i, p_putu, s_app, s_put, p_putIu, s_attr, endP_nx, endP_rt, endP_xx, endP_bk, endP_ct, f_fn, f_init, at_0, ix_0, at_1, ix_1, at_2, ix_2, at_3, ix_3, at_4, ix_4, at_5, ix_5, at_6, ix_6, at_7, ix_7, at_8, ix_8, at_9, ix_9, at_10, ix_10, at_11, ix_11, rs_ref, rs_non, rs_bl, rs_int, rs_str, rs_tup, rs_scr, rs_lst, rs_dct, rs_ins, isL, atKs, atVs, gName, enS, List.map_cons, List.map_nil, List.length_cons, List.length_nil, List.cons_append, List.nil_append, List.getElem?_cons_succ, List.getElem?_cons_zero, List.set_cons_succ, List.set_cons_zero, List.replicate, Nat.reduceSub, Nat.reduceAdd, List.getD_cons_zero, List.getD_cons_succ, gTup, gAll, Option.bind_some, isTy, List.any_cons, List.any_nil, Bool.or_false, Bool.false_or, Bool.true_or, Bool.or_true, D.isNon, true_and, Bool.not_true, Bool.not_false, perm, Int.reduceToNat, Nat.reduceLT, Option.map_some, Nat.zero_lt_succ, decide_true, decide_false, Nat.lt_add_left_iff_pos, Nat.lt_add_one]
  refine (center_ok h n).imp0 ?_
  rintro _ st2 ⟨rfl, rfl⟩
  simp only [wp_ok, wp_ex, wp_no, wp_bind, wp_bindS, wp_noX, slp_v, slp_o, rtp_v, rtp_o, kdp_fz, kdp_fl, kdp_fi, intp_i, blp_b, trp_b, trp_i, trp_l, trp_t, trp_n, optp_s, itp_t, itp_f, itp_nd, itp_ne, lsp_l, nbp_fz, nbp_fr, typ_int, typ_bl, typ_str, typ_non, typ_lst, typ_tup, icp_ins, icp_int, icp_bl, icp_str, icp_non, icp_lst, icp_tup, zpp_l, zpp_t, prp_i, w_var, w_cst, fzp_fz, fzp_fr, w_fzd, w_nil, w_cons, w_bin, w_idx, w_neg, o_add, o_sub, o_mul, o_fdiv, o_mod, o_pow, o_shl, o_shr, o_and, o_or, o_xor, o_eq, o_ne, o_neB, o_lt, o_le, o_gt, o_ge, o_ixl, o_ixt, o_addl, w_tup, w_lst, w_sl, w_eno, w_part, o_sll, o_sls, w_fld, o_fld, w_prop, w_call, w_callK, w_fun1, o_lenl, o_lent, o_listl, o_listt, o_tuplel, o_tuplet, o_int, o_intb, o_abs, o_all, o_any, o_sum, w_is, w_isC, w_isN, w_notN, w_chain, w_tval, w_tand, w_tor, w_tnot, w_yes, w_eand, w_eor, w_enot, w_eif, wkp_s, wk_l, wk_t, wk_r, wk_rl, w_ilist, w_irev, w_ienum, w_range1, w_range2, w_zip, w_comp, s_next, flp_nx, flp_bk, flp_ct, flp_rt, flp_xx, s_seq, s_fz, fr_nil, fr_cons, fr_1, fr_o, fr_v, fr_u, s_set, kd_fz, kd_fl, kd_fi, s_ref, s_asgG, s_par, s_par3, s_ret, s_retV, s_retN, s_drop, s_if, s_no, s_bk, s_ct, s_for, plp_o, plp_r, llp_l, ilp_i, p_putu, s_app, s_put, p_putIu, s_attr, endP_nx, endP_rt, endP_xx, endP_bk, endP_ct, f_fn, f_init, at_0, ix_0, at_1, ix_1, at_2, ix_2, at_3, ix_3, at_4, ix_4, at_5, ix_5, at_6, ix_6, at_7, ix_7, at_8, ix_8, at_9, ix_9, at_10, ix_10, at_11, ix_11, rs_ref, rs_non, rs_bl, rs_int, rs_str, rs_tup, rs_scr, rs_lst, rs_dct, rs_ins, isL, atKs, atVs, gName, enS, List.map_cons, List.map_nil, List.length_cons, List.length_nil, List.cons_append, List.nil_append, List.getElem?_cons_succ, List.getElem?_cons_zero, List.set_cons_succ, List.set_cons_zero, List.replicate, Nat.reduceSub, Nat.reduceAdd, List.getD_cons_zero, List.getD_cons_succ, gTup, gAll, Option.bind_some, isTy, List.any_cons, List.any_nil, Bool.or_false, Bool.false_or, Bool.true_or, Bool.or_true, D.isNon, true_and, Bool.not_true, Bool.not_false, perm, Int.reduceToNat, Nat.reduceLT, Option.map_some, Nat.zero_lt_succ, decide_true, decide_false, Nat.lt_add_left_iff_pos, Nat.lt_add_one, bag_getD hb1, bag_get hb1, List.length_map, hlen]
  refine ⟨⟨by decide, by decide, by decide⟩, (draw_ok hb1 (by omega) (big_of (by omega))).imp0 ?_⟩
  rintro _ st3 ⟨r, rfl, r0, r1, hb3⟩
  obtain ⟨rn, rfl⟩ := Int.eq_ofNat_of_zero_le r0
  have hr : rn < s.toNat := by exact_mod_cast r1
  have hix : ixN (ds.map D.int).length ((rn : Nat) : Int) = some rn := ixN_of (by rw [List.length_map, hlen]; exact hr)
  simp only [wp_ok, wp_ex, wp_no, wp_bind, wp_bindS, wp_noX, slp_v, slp_o, rtp_v, rtp_o, kdp_fz, kdp_fl, kdp_fi, intp_i, blp_b, trp_b, trp_i, trp_l, trp_t, trp_n, optp_s, itp_t, itp_f, itp_nd, itp_ne, lsp_l, nbp_fz, nbp_fr, typ_int, typ_bl, typ_str, typ_non, typ_lst, typ_tup, icp_ins, icp_int, icp_bl, icp_str, icp_non, icp_lst, icp_tup, zpp_l, zpp_t, prp_i, w_var, w_cst, fzp_fz, fzp_fr, w_fzd, w_nil, w_cons, w_bin, w_idx, w_neg, o_add, o_sub, o_mul, o_fdiv, o_mod, o_pow, o_shl, o_shr, o_and, o_or, o_xor, o_eq, o_ne, o_neB, o_lt, o_le, o_gt, o_ge, o_ixl, o_ixt, o_addl, w_tup, w_lst, w_sl, w_eno, w_part, o_sll, o_sls, w_fld, o_fld, w_prop, w_call, w_callK, w_fun1, o_lenl, o_lent, o_listl, o_listt, o_tuplel, o_tuplet, o_int, o_intb, o_abs, o_all, o_any, o_sum, w_is, w_isC, w_isN, w_notN, w_chain, w_tval, w_tand, w_tor, w_tnot, w_yes, w_eand, w_eor, w_enot, w_eif, wkp_s, wk_l, wk_t, wk_r, wk_rl, w_ilist, w_irev, w_ienum, w_range1, w_range2, w_zip, w_comp, s_next, flp_nx, flp_bk, flp_ct, flp_rt, flp_xx, s_seq, s_fz, fr_nil, fr_cons, fr_1, fr_o, fr_v, fr_u, s_set, kd_fz, kd_fl, kd_fi, s_ref, s_asgG, s_par, s_par3, s_ret, s_retV, s_retN, s_drop, s_if, s_no, s_bk, s_ct, s_for, plp_o, plp_r, llp_l, ilp_i, p_putu, s_app, s_put, p_putIu, s_attr, endP_nx, endP_rt, endP_xx, endP_bk, endP_ct, f_fn, f_init, at_0, ix_0, at_1, ix_1, at_2, ix_2, at_3, ix_3, at_4, ix_4, at_5, ix_5, at_6, ix_6, at_7, ix_7, at_8, ix_8, at_9, ix_9, at_10, ix_10, at_11, ix_11, rs_ref, rs_non, rs_bl, rs_int, rs_str, rs_tup, rs_scr, rs_lst, rs_dct, rs_ins, isL, atKs, atVs, gName, enS, List.map_cons, List.map_nil, List.length_cons, List.length_nil, List.cons_append, List.nil_append, List.getElem?_cons_succ, List.getElem?_cons_zero, List.set_cons_succ, List.set_cons_zero, List.replicate, Nat.reduceSub, Nat.reduceAdd, List.getD_cons_zero, List.getD_cons_succ, gTup, gAll, Option.bind_some, isTy, List.any_cons, List.any_nil, Bool.or_false, Bool.false_or, Bool.true_or, Bool.or_true, D.isNon, true_and, Bool.not_true, Bool.not_false, perm, Int.reduceToNat, Nat.reduceLT, Option.map_some, Nat.zero_lt_succ, decide_true, decide_false, Nat.lt_add_left_iff_pos, Nat.lt_add_one, bag_getD hb3, bag_get hb3]
  show optp (Option.map _ (ixN (ds.map D.int).length ((rn : Nat) : Int))) _
  rw [hix]
  have hset : (ds.map D.int).set rn (.int (10 ^ (9 : Nat))) = (ds.set rn (10 ^ 9)).map D.int := by rw [List.map_set]
  simp only [wp_ok, wp_ex, wp_no, wp_bind, wp_bindS, wp_noX, slp_v, slp_o, rtp_v, rtp_o, kdp_fz, kdp_fl, kdp_fi, intp_i, blp_b, trp_b, trp_i, trp_l, trp_t, trp_n, optp_s, itp_t, itp_f, itp_nd, itp_ne, lsp_l, nbp_fz, nbp_fr, typ_int, typ_bl, typ_str, typ_non, typ_lst, typ_tup, icp_ins, icp_int, icp_bl, icp_str, icp_non, icp_lst, icp_tup, zpp_l, zpp_t, prp_i, w_var, w_cst, fzp_fz, fzp_fr, w_fzd, w_nil, w_cons, w_bin, w_idx, w_neg, o_add, o_sub, o_mul, o_fdiv, o_mod, o_pow, o_shl, o_shr, o_and, o_or, o_xor, o_eq, o_ne, o_neB, o_lt, o_le, o_gt, o_ge, o_ixl, o_ixt, o_addl, w_tup, w_lst, w_sl, w_eno, w_part, o_sll, o_sls, w_fld, o_fld, w_prop, w_call, w_callK, w_fun1, o_lenl, o_lent, o_listl, o_listt, o_tuplel, o_tuplet, o_int, o_intb, o_abs, o_all, o_any, o_sum, w_is, w_isC, w_isN, w_notN, w_chain, w_tval, w_tand, w_tor, w_tnot, w_yes, w_eand, w_eor, w_enot, w_eif, wkp_s, wk_l, wk_t, wk_r, wk_rl, w_ilist, w_irev, w_ienum, w_range1, w_range2, w_zip, w_comp, s_next, flp_nx, flp_bk, flp_ct, flp_rt, flp_xx, s_seq, s_fz, fr_nil, fr_cons, fr_1, fr_o, fr_v, fr_u, s_set, kd_fz, kd_fl, kd_fi, s_ref, s_asgG, s_par, s_par3, s_ret, s_retV, s_retN, s_drop, s_if, s_no, s_bk, s_ct, s_for, plp_o, plp_r, llp_l, ilp_i, p_putu, s_app, s_put, p_putIu, s_attr, endP_nx, endP_rt, endP_xx, endP_bk, endP_ct, f_fn, f_init, at_0, ix_0, at_1, ix_1, at_2, ix_2, at_3, ix_3, at_4, ix_4, at_5, ix_5, at_6, ix_6, at_7, ix_7, at_8, ix_8, at_9, ix_9, at_10, ix_10, at_11, ix_11, rs_ref, rs_non, rs_bl, rs_int, rs_str, rs_tup, rs_scr, rs_lst, rs_dct, rs_ins, isL, atKs, atVs, gName, enS, List.map_cons, List.map_nil, List.length_cons, List.length_nil, List.cons_append, List.nil_append, List.getElem?_cons_succ, List.getElem?_cons_zero, List.set_cons_succ, List.set_cons_zero, List.replicate, Nat.reduceSub, Nat.reduceAdd, List.getD_cons_zero, List.getD_cons_succ, gTup, gAll, Option.bind_some, isTy, List.any_cons, List.any_nil, Bool.or_false, Bool.false_or, Bool.true_or, Bool.or_true, D.isNon, true_and, Bool.not_true, Bool.not_false, perm, Int.reduceToNat, Nat.reduceLT, Option.map_some, Nat.zero_lt_succ, decide_true, decide_false, Nat.lt_add_left_iff_pos, Nat.lt_add_one, hset]
  have hb4 := bag_set (.lst ((ds.set rn (10 ^ 9)).map D.int)) hb3
  have hl4 : (ds.set rn (10 ^ 9)).length = s.toNat := by rw [List.length_set, hlen]
  generalize ds.set rn (10 ^ 9) = es at hb4 hl4
  generalize st3.set (rest.length + 1) (D.lst (es.map D.int)) = st4 at hb4
  simp only [wp_ok, wp_ex, wp_no, wp_bind, wp_bindS, wp_noX, slp_v, slp_o, rtp_v, rtp_o, kdp_fz, kdp_fl, kdp_fi, intp_i, blp_b, trp_b, trp_i, trp_l, trp_t, trp_n, optp_s, itp_t, itp_f, itp_nd, itp_ne, lsp_l, nbp_fz, nbp_fr, typ_int, typ_bl, typ_str, typ_non, typ_lst, typ_tup, icp_ins, icp_int, icp_bl, icp_str, icp_non, icp_lst, icp_tup, zpp_l, zpp_t, prp_i, w_var, w_cst, fzp_fz, fzp_fr, w_fzd, w_nil, w_cons, w_bin, w_idx, w_neg, o_add, o_sub, o_mul, o_fdiv, o_mod, o_pow, o_shl, o_shr, o_and, o_or, o_xor, o_eq, o_ne, o_neB, o_lt, o_le, o_gt, o_ge, o_ixl, o_ixt, o_addl, w_tup, w_lst, w_sl, w_eno, w_part, o_sll, o_sls, w_fld, o_fld, w_prop, w_call, w_callK, w_fun1, o_lenl, o_lent, o_listl, o_listt, o_tuplel, o_tuplet, o_int, o_intb, o_abs, o_all, o_any, o_sum, w_is, w_isC, w_isN, w_notN, w_chain, w_tval, w_tand, w_tor, w_tnot, w_yes, w_eand, w_eor, w_enot, w_eif, wkp_s, wk_l, wk_t, wk_r, wk_rl, w_ilist, w_irev, w_ienum, w_range1, w_range2, w_zip, w_comp, s_next, flp_nx, flp_bk, flp_ct, flp_rt, flp_xx, s_seq, s_fz, fr_nil, fr_cons, fr_1, fr_o, fr_v, fr_u, s_set, kd_fz, kd_fl, kd_fi, s_ref, s_asgG, s_par, s_par3, s_ret, s_retV, s_retN, s_drop, s_if, s_no, s_bk, s_ct, s_for, plp_o, plp_r, llp_l, ilp_i, p_putu, s_app, s_put, p_putIu, s_attr, endP_nx, endP_rt, endP_xx, endP_bk, endP_ct, f_fn, f_init, at_0, ix_0, at_1, ix_1, at_2, ix_2, at_3, ix_3, at_4, ix_4, at_5, ix_5, at_6, ix_6, at_7, ix_7, at_8, ix_8, at_9, ix_9, at_10, ix_10, at_11, ix_11, rs_ref, rs_non, rs_bl, rs_int, rs_str, rs_tup, rs_scr, rs_lst, rs_dct, rs_ins, isL, atKs, atVs, gName, enS, List.map_cons, List.map_nil, List.length_cons, List.length_nil, List.cons_append, List.nil_append, List.getElem?_cons_succ, List.getElem?_cons_zero, List.set_cons_succ, List.set_cons_zero, List.replicate, Nat.reduceSub, Nat.reduceAdd, List.getD_cons_zero, List.getD_cons_succ, gTup, gAll, Option.bind_some, isTy, List.any_cons, List.any_nil, Bool.or_false, Bool.false_or, Bool.true_or, Bool.or_true, D.isNon, true_and, Bool.not_true, Bool.not_false, perm, Int.reduceToNat, Nat.reduceLT, Option.map_some, Nat.zero_lt_succ, decide_true, decide_false, Nat.lt_add_left_iff_pos, Nat.lt_add_one, bag_getD hb4, bag_get hb4, List.length_map, hl4]
  rw [if_pos (by unfold maxLen; omega)]
  have happ : es.map D.int ++ [D.int 5] = (es ++ [5]).map D.int := by rw [List.map_append]; rfl
  simp only [wp_ok, wp_ex, wp_no, wp_bind, wp_bindS, wp_noX, slp_v, slp_o, rtp_v, rtp_o, kdp_fz, kdp_fl, kdp_fi, intp_i, blp_b, trp_b, trp_i, trp_l, trp_t, trp_n, optp_s, itp_t, itp_f, itp_nd, itp_ne, lsp_l, nbp_fz, nbp_fr, typ_int, typ_bl, typ_str, typ_non, typ_lst, typ_tup, icp_ins, icp_int, icp_bl, icp_str, icp_non, icp_lst, icp_tup, zpp_l, zpp_t, prp_i, w_var, w_cst, fzp_fz, fzp_fr, w_fzd, w_nil, w_cons, w_bin, w_idx, w_neg, o_add, o_sub, o_mul, o_fdiv, o_mod, o_pow, o_shl, o_shr, o_and, o_or, o_xor, o_eq, o_ne, o_neB, o_lt, o_le, o_gt, o_ge, o_ixl, o_ixt, o_addl, w_tup, w_lst, w_sl, w_eno, w_part, o_sll, o_sls, w_fld, o_fld, w_prop, w_call, w_callK, w_fun1, o_lenl, o_lent, o_listl, o_listt, o_tuplel, o_tuplet, o_int, o_intb, o_abs, o_all, o_any, o_sum, w_is, w_isC, w_isN, w_notN, w_chain, w_tval, w_tand, w_tor, w_tnot, w_yes, w_eand, w_eor, w_enot, w_eif, wkp_s, wk_l, wk_t, wk_r, wk_rl, w_ilist, w_irev, w_ienum, w_range1, w_range2, w_zip, w_comp, s_next, flp_nx, flp_bk, flp_ct, flp_rt, flp_xx, s_seq, s_fz, fr_nil, fr_cons, fr_1, fr_o, fr_v, fr_u, s_set, kd_fz, kd_fl, kd_fi, s_ref, s_asgG, s_par, s_par3, s_ret, s_retV, s_retN, s_drop, s_if, s_no, s_bk, s_ct, s_for, plp_o, plp_r, llp_l, ilp_i, p_putu, s_app, s_put, p_putIu, s_attr, endP_nx, endP_rt, endP_xx, endP_bk, endP_ct, f_fn, f_init, at_0, ix_0, at_1, ix_1, at_2, ix_2, at_3, ix_3, at_4, ix_4, at_5, ix_5, at_6, ix_6, at_7, ix_7, at_8, ix_8, at_9, ix_9, at_10, ix_10, at_11, ix_11, rs_ref, rs_non, rs_bl, rs_int, rs_str, rs_tup, rs_scr, rs_lst, rs_dct, rs_ins, isL, atKs, atVs, gName, enS, List.map_cons, List.map_nil, List.length_cons, List.length_nil, List.cons_append, List.nil_append, List.getElem?_cons_succ, List.getElem?_cons_zero, List.set_cons_succ, List.set_cons_zero, List.replicate, Nat.reduceSub, Nat.reduceAdd, List.getD_cons_zero, List.getD_cons_succ, gTup, gAll, Option.bind_some, isTy, List.any_cons, List.any_nil, Bool.or_false, Bool.false_or, Bool.true_or, Bool.or_true, D.isNon, true_and, Bool.not_true, Bool.not_false, perm, Int.reduceToNat, Nat.reduceLT, Option.map_some, Nat.zero_lt_succ, decide_true, decide_false, Nat.lt_add_left_iff_pos, Nat.lt_add_one, happ]
  have hb5 := bag_set (.lst ((es ++ [5]).map D.int)) hb4
  have hl5 : (es ++ [5]).length = s.toNat + 1 := by rw [List.length_append, hl4]; rfl
  generalize es ++ [5] = es5 at hb5 hl5
  generalize st4.set (rest.length + 1) (D.lst (es5.map D.int)) = st5 at hb5
  refine ⟨by decide, (of_i (ks := [1, 0 - 1, 3, 0 - 1000]) hb5 (by simp) (by decide)).imp0 ?_⟩
  rintro _ st6 ⟨k, hk, rfl, hb6⟩
  have hk : -(2 ^ 64) < k ∧ k < 2 ^ 64 := by
    simp only [List.mem_cons, List.not_mem_nil, or_false] at hk
    omega
  simp only [wp_ok, wp_ex, wp_no, wp_bind, wp_bindS, wp_noX, slp_v, slp_o, rtp_v, rtp_o, kdp_fz, kdp_fl, kdp_fi, intp_i, blp_b, trp_b, trp_i, trp_l, trp_t, trp_n, optp_s, itp_t, itp_f, itp_nd, itp_ne, lsp_l, nbp_fz, nbp_fr, typ_int, typ_bl, typ_str, typ_non, typ_lst, typ_tup, icp_ins, icp_int, icp_bl, icp_str, icp_non, icp_lst, icp_tup, zpp_l, zpp_t, prp_i, w_var, w_cst, fzp_fz, fzp_fr, w_fzd, w_nil, w_cons, w_bin, w_idx, w_neg, o_add, o_sub, o_mul, o_fdiv, o_mod, o_pow, o_shl, o_shr, o_and, o_or, o_xor, o_eq, o_ne, o_neB, o_lt, o_le, o_gt, o_ge, o_ixl, o_ixt, o_addl, w_tup, w_lst, w_sl, w_eno, w_part, o_sll, o_sls, w_fld, o_fld, w_prop, w_call, w_callK, w_fun1, o_lenl, o_lent, o_listl, o_listt, o_tuplel, o_tuplet, o_int, o_intb, o_abs, o_all, o_any, o_sum, w_is, w_isC, w_isN, w_notN, w_chain, w_tval, w_tand, w_tor, w_tnot, w_yes, w_eand, w_eor, w_enot, w_eif, wkp_s, wk_l, wk_t, wk_r, wk_rl, w_ilist, w_irev, w_ienum, w_range1, w_range2, w_zip, w_comp, s_next, flp_nx, flp_bk, flp_ct, flp_rt, flp_xx, s_seq, s_fz, fr_nil, fr_cons, fr_1, fr_o, fr_v, fr_u, s_set, kd_fz, kd_fl, kd_fi, s_ref, s_asgG, s_par, s_par3, s_ret, s_retV, s_retN, s_drop, s_if, s_no, s_bk, s_ct, s_for, plp_o, plp_r, llp_l, ilp_i, p_putu, s_app, s_put, p_putIu, s_attr, endP_nx, endP_rt, endP_xx, endP_bk, endP_ct, f_fn, f_init, at_0, ix_0, at_1, ix_1, at_2, ix_2, at_3, ix_3, at_4, ix_4, at_5, ix_5, at_6, ix_6, at_7, ix_7, at_8, ix_8, at_9, ix_9, at_10, ix_10, at_11, ix_11, rs_ref, rs_non, rs_bl, rs_int, rs_str, rs_tup, rs_scr, rs_lst, rs_dct, rs_ins, isL, atKs, atVs, gName, enS, List.map_cons, List.map_nil, List.length_cons, List.length_nil, List.cons_append, List.nil_append, List.getElem?_cons_succ, List.getElem?_cons_zero, List.set_cons_succ, List.set_cons_zero, List.replicate, Nat.reduceSub, Nat.reduceAdd, List.getD_cons_zero, List.getD_cons_succ, gTup, gAll, Option.bind_some, isTy, List.any_cons, List.any_nil, Bool.or_false, Bool.false_or, Bool.true_or, Bool.or_true, D.isNon, true_and, Bool.not_true, Bool.not_false, perm, Int.reduceToNat, Nat.reduceLT, Option.map_some, Nat.zero_lt_succ, decide_true, decide_false, Nat.lt_add_left_iff_pos, Nat.lt_add_one]
  refine ⟨mulOk_r hk.1 hk.2, (digits_ok h _).imp0 ?_⟩
  rintro _ st7 ⟨rfl, rfl⟩
  rw [hds _ (Int.add_mul_emod_self_left n q k)]
  simp only [wp_ok, wp_ex, wp_no, wp_bind, wp_bindS, wp_noX, slp_v, slp_o, rtp_v, rtp_o, kdp_fz, kdp_fl, kdp_fi, intp_i, blp_b, trp_b, trp_i, trp_l, trp_t, trp_n, optp_s, itp_t, itp_f, itp_nd, itp_ne, lsp_l, nbp_fz, nbp_fr, typ_int, typ_bl, typ_str, typ_non, typ_lst, typ_tup, icp_ins, icp_int, icp_bl, icp_str, icp_non, icp_lst, icp_tup, zpp_l, zpp_t, prp_i, w_var, w_cst, fzp_fz, fzp_fr, w_fzd, w_nil, w_cons, w_bin, w_idx, w_neg, o_add, o_sub, o_mul, o_fdiv, o_mod, o_pow, o_shl, o_shr, o_and, o_or, o_xor, o_eq, o_ne, o_neB, o_lt, o_le, o_gt, o_ge, o_ixl, o_ixt, o_addl, w_tup, w_lst, w_sl, w_eno, w_part, o_sll, o_sls, w_fld, o_fld, w_prop, w_call, w_callK, w_fun1, o_lenl, o_lent, o_listl, o_listt, o_tuplel, o_tuplet, o_int, o_intb, o_abs, o_all, o_any, o_sum, w_is, w_isC, w_isN, w_notN, w_chain, w_tval, w_tand, w_tor, w_tnot, w_yes, w_eand, w_eor, w_enot, w_eif, wkp_s, wk_l, wk_t, wk_r, wk_rl, w_ilist, w_irev, w_ienum, w_range1, w_range2, w_zip, w_comp, s_next, flp_nx, flp_bk, flp_ct, flp_rt, flp_xx, s_seq, s_fz, fr_nil, fr_cons, fr_1, fr_o, fr_v, fr_u, s_set, kd_fz, kd_fl, kd_fi, s_ref, s_asgG, s_par, s_par3, s_ret, s_retV, s_retN, s_drop, s_if, s_no, s_bk, s_ct, s_for, plp_o, plp_r, llp_l, ilp_i, p_putu, s_app, s_put, p_putIu, s_attr, endP_nx, endP_rt, endP_xx, endP_bk, endP_ct, f_fn, f_init, at_0, ix_0, at_1, ix_1, at_2, ix_2, at_3, ix_3, at_4, ix_4, at_5, ix_5, at_6, ix_6, at_7, ix_7, at_8, ix_8, at_9, ix_9, at_10, ix_10, at_11, ix_11, rs_ref, rs_non, rs_bl, rs_int, rs_str, rs_tup, rs_scr, rs_lst, rs_dct, rs_ins, isL, atKs, atVs, gName, enS, List.map_cons, List.map_nil, List.length_cons, List.length_nil, List.cons_append, List.nil_append, List.getElem?_cons_succ, List.getElem?_cons_zero, List.set_cons_succ, List.set_cons_zero, List.replicate, Nat.reduceSub, Nat.reduceAdd, List.getD_cons_zero, List.getD_cons_succ, gTup, gAll, Option.bind_some, isTy, List.any_cons, List.any_nil, Bool.or_false, Bool.false_or, Bool.true_or, Bool.or_true, D.isNon, true_and, Bool.not_true, Bool.not_false, perm, Int.reduceToNat, Nat.reduceLT, Option.map_some, Nat.zero_lt_succ, decide_true, decide_false, Nat.lt_add_left_iff_pos, Nat.lt_add_one]
  refine (digits_ok h _).imp0 ?_
  rintro _ st8 ⟨rfl, rfl⟩
  rw [hds _ rfl]
  simp only [wp_ok, wp_ex, wp_no, wp_bind, wp_bindS, wp_noX, slp_v, slp_o, rtp_v, rtp_o, kdp_fz, kdp_fl, kdp_fi, intp_i, blp_b, trp_b, trp_i, trp_l, trp_t, trp_n, optp_s, itp_t, itp_f, itp_nd, itp_ne, lsp_l, nbp_fz, nbp_fr, typ_int, typ_bl, typ_str, typ_non, typ_lst, typ_tup, icp_ins, icp_int, icp_bl, icp_str, icp_non, icp_lst, icp_tup, zpp_l, zpp_t, prp_i, w_var, w_cst, fzp_fz, fzp_fr, w_fzd, w_nil, w_cons, w_bin, w_idx, w_neg, o_add, o_sub, o_mul, o_fdiv, o_mod, o_pow, o_shl, o_shr, o_and, o_or, o_xor, o_eq, o_ne, o_neB, o_lt, o_le, o_gt, o_ge, o_ixl, o_ixt, o_addl, w_tup, w_lst, w_sl, w_eno, w_part, o_sll, o_sls, w_fld, o_fld, w_prop, w_call, w_callK, w_fun1, o_lenl, o_lent, o_listl, o_listt, o_tuplel, o_tuplet, o_int, o_intb, o_abs, o_all, o_any, o_sum, w_is, w_isC, w_isN, w_notN, w_chain, w_tval, w_tand, w_tor, w_tnot, w_yes, w_eand, w_eor, w_enot, w_eif, wkp_s, wk_l, wk_t, wk_r, wk_rl, w_ilist, w_irev, w_ienum, w_range1, w_range2, w_zip, w_comp, s_next, flp_nx, flp_bk, flp_ct, flp_rt, flp_xx, s_seq, s_fz, fr_nil, fr_cons, fr_1, fr_o, fr_v, fr_u, s_set, kd_fz, kd_fl, kd_fi, s_ref, s_asgG, s_par, s_par3, s_ret, s_retV, s_retN, s_drop, s_if, s_no, s_bk, s_ct, s_for, plp_o, plp_r, llp_l, ilp_i, p_putu, s_app, s_put, p_putIu, s_attr, endP_nx, endP_rt, endP_xx, endP_bk, endP_ct, f_fn, f_init, at_0, ix_0, at_1, ix_1, at_2, ix_2, at_3, ix_3, at_4, ix_4, at_5, ix_5, at_6, ix_6, at_7, ix_7, at_8, ix_8, at_9, ix_9, at_10, ix_10, at_11, ix_11, rs_ref, rs_non, rs_bl, rs_int, rs_str, rs_tup, rs_scr, rs_lst, rs_dct, rs_ins, isL, atKs, atVs, gName, enS, List.map_cons, List.map_nil, List.length_cons, List.length_nil, List.cons_append, List.nil_append, List.getElem?_cons_succ, List.getElem?_cons_zero, List.set_cons_succ, List.set_cons_zero, List.replicate, Nat.reduceSub, Nat.reduceAdd, List.getD_cons_zero, List.getD_cons_succ, gTup, gAll, Option.bind_some, isTy, List.any_cons, List.any_nil, Bool.or_false, Bool.false_or, Bool.true_or, Bool.or_true, D.isNon, true_and, Bool.not_true, Bool.not_false, perm, Int.reduceToNat, Nat.reduceLT, Option.map_some, Nat.zero_lt_succ, decide_true, decide_false, Nat.lt_add_left_iff_pos, Nat.lt_add_one]
  have pds : pl 7 (.lst (ds.map D.int)) := pl_ints (by rw [hlen]; unfold maxLen; omega)
  refine ⟨by show (2 : Nat) ≤ maxLen; decide, by show (2 : Nat) ≤ maxLen; decide, (like_same 8 (.lst [.lst (ds.map D.int), .lst (ds.map D.int)]) ⟨by show (2 : Nat) ≤ maxLen; decide, fun x hx => ?_⟩).imp0 ?_⟩
  · simp only [List.mem_cons, List.not_mem_nil, or_false, or_self] at hx
    rw [hx]; exact pds
  rintro _ st9 ⟨rfl, rfl⟩
  simp only [wp_ok, wp_ex, wp_no, wp_bind, wp_bindS, wp_noX, slp_v, slp_o, rtp_v, rtp_o, kdp_fz, kdp_fl, kdp_fi, intp_i, blp_b, trp_b, trp_i, trp_l, trp_t, trp_n, optp_s, itp_t, itp_f, itp_nd, itp_ne, lsp_l, nbp_fz, nbp_fr, typ_int, typ_bl, typ_str, typ_non, typ_lst, typ_tup, icp_ins, icp_int, icp_bl, icp_str, icp_non, icp_lst, icp_tup, zpp_l, zpp_t, prp_i, w_var, w_cst, fzp_fz, fzp_fr, w_fzd, w_nil, w_cons, w_bin, w_idx, w_neg, o_add, o_sub, o_mul, o_fdiv, o_mod, o_pow, o_shl, o_shr, o_and, o_or, o_xor, o_eq, o_ne, o_neB, o_lt, o_le, o_gt, o_ge, o_ixl, o_ixt, o_addl, w_tup, w_lst, w_sl, w_eno, w_part, o_sll, o_sls, w_fld, o_fld, w_prop, w_call, w_callK, w_fun1, o_lenl, o_lent, o_listl, o_listt, o_tuplel, o_tuplet, o_int, o_intb, o_abs, o_all, o_any, o_sum, w_is, w_isC, w_isN, w_notN, w_chain, w_tval, w_tand, w_tor, w_tnot, w_yes, w_eand, w_eor, w_enot, w_eif, wkp_s, wk_l, wk_t, wk_r, wk_rl, w_ilist, w_irev, w_ienum, w_range1, w_range2, w_zip, w_comp, s_next, flp_nx, flp_bk, flp_ct, flp_rt, flp_xx, s_seq, s_fz, fr_nil, fr_cons, fr_1, fr_o, fr_v, fr_u, s_set, kd_fz, kd_fl, kd_fi, s_ref, s_asgG, s_par, s_par3, s_ret, s_retV, s_retN, s_drop, s_if, s_no, s_bk, s_ct, s_for, plp_o, plp_r, llp_l, ilp_i, p_putu, s_app, s_put, p_putIu, s_attr, endP_nx, endP_rt, endP_xx, endP_bk, endP_ct, f_fn, f_init, at_0, ix_0, at_1, ix_1, at_2, ix_2, at_3, ix_3, at_4, ix_4, at_5, ix_5, at_6, ix_6, at_7, ix_7, at_8, ix_8, at_9, ix_9, at_10, ix_10, at_11, ix_11, rs_ref, rs_non, rs_bl, rs_int, rs_str, rs_tup, rs_scr, rs_lst, rs_dct, rs_ins, isL, atKs, atVs, gName, enS, List.map_cons, List.map_nil, List.length_cons, List.length_nil, List.cons_append, List.nil_append, List.getElem?_cons_succ, List.getElem?_cons_zero, List.set_cons_succ, List.set_cons_zero, List.replicate, Nat.reduceSub, Nat.reduceAdd, List.getD_cons_zero, List.getD_cons_succ, gTup, gAll, Option.bind_some, isTy, List.any_cons, List.any_nil, Bool.or_false, Bool.false_or, Bool.true_or, Bool.or_true, D.isNon, true_and, Bool.not_true, Bool.not_false, perm, Int.reduceToNat, Nat.reduceLT, Option.map_some, Nat.zero_lt_succ, decide_true, decide_false, Nat.lt_add_left_iff_pos, Nat.lt_add_one]
  refine (cen_ok h _).imp0 ?_
  rintro _ st10 ⟨rfl, rfl⟩
  simp only [wp_ok, wp_ex, wp_no, wp_bind, wp_bindS, wp_noX, slp_v, slp_o, rtp_v, rtp_o, kdp_fz, kdp_fl, kdp_fi, intp_i, blp_b, trp_b, trp_i, trp_l, trp_t, trp_n, optp_s, itp_t, itp_f, itp_nd, itp_ne, lsp_l, nbp_fz, nbp_fr, typ_int, typ_bl, typ_str, typ_non, typ_lst, typ_tup, icp_ins, icp_int, icp_bl, icp_str, icp_non, icp_lst, icp_tup, zpp_l, zpp_t, prp_i, w_var, w_cst, fzp_fz, fzp_fr, w_fzd, w_nil, w_cons, w_bin, w_idx, w_neg, o_add, o_sub, o_mul, o_fdiv, o_mod, o_pow, o_shl, o_shr, o_and, o_or, o_xor, o_eq, o_ne, o_neB, o_lt, o_le, o_gt, o_ge, o_ixl, o_ixt, o_addl, w_tup, w_lst, w_sl, w_eno, w_part, o_sll, o_sls, w_fld, o_fld, w_prop, w_call, w_callK, w_fun1, o_lenl, o_lent, o_listl, o_listt, o_tuplel, o_tuplet, o_int, o_intb, o_abs, o_all, o_any, o_sum, w_is, w_isC, w_isN, w_notN, w_chain, w_tval, w_tand, w_tor, w_tnot, w_yes, w_eand, w_eor, w_enot, w_eif, wkp_s, wk_l, wk_t, wk_r, wk_rl, w_ilist, w_irev, w_ienum, w_range1, w_range2, w_zip, w_comp, s_next, flp_nx, flp_bk, flp_ct, flp_rt, flp_xx, s_seq, s_fz, fr_nil, fr_cons, fr_1, fr_o, fr_v, fr_u, s_set, kd_fz, kd_fl, kd_fi, s_ref, s_asgG, s_par, s_par3, s_ret, s_retV, s_retN, s_drop, s_if, s_no, s_bk, s_ct, s_for, plp_o, plp_r, llp_l, ilp_i, p_putu, s_app, s_put, p_putIu, s_attr, endP_nx, endP_rt, endP_xx, endP_bk, endP_ct, f_fn, f_init, at_0, ix_0, at_1, ix_1, at_2, ix_2, at_3, ix_3, at_4, ix_4, at_5, ix_5, at_6, ix_6, at_7, ix_7, at_8, ix_8, at_9, ix_9, at_10, ix_10, at_11, ix_11, rs_ref, rs_non, rs_bl, rs_int, rs_str, rs_tup, rs_scr, rs_lst, rs_dct, rs_ins, isL, atKs, atVs, gName, enS, List.map_cons, List.map_nil, List.length_cons, List.length_nil, List.cons_append, List.nil_append, List.getElem?_cons_succ, List.getElem?_cons_zero, List.set_cons_succ, List.set_cons_zero, List.replicate, Nat.reduceSub, Nat.reduceAdd, List.getD_cons_zero, List.getD_cons_succ, gTup, gAll, Option.bind_some, isTy, List.any_cons, List.any_nil, Bool.or_false, Bool.false_or, Bool.true_or, Bool.or_true, D.isNon, true_and, Bool.not_true, Bool.not_false, perm, Int.reduceToNat, Nat.reduceLT, Option.map_some, Nat.zero_lt_succ, decide_true, decide_false, Nat.lt_add_left_iff_pos, Nat.lt_add_one]
  refine (cen_ok h _).imp0 ?_
  rintro _ st11 ⟨rfl, rfl⟩
  rw [cen_eq (Int.add_mul_emod_self_left n q k)]
  simp only [wp_ok, wp_ex, wp_no, wp_bind, wp_bindS, wp_noX, slp_v, slp_o, rtp_v, rtp_o, kdp_fz, kdp_fl, kdp_fi, intp_i, blp_b, trp_b, trp_i, trp_l, trp_t, trp_n, optp_s, itp_t, itp_f, itp_nd, itp_ne, lsp_l, nbp_fz, nbp_fr, typ_int, typ_bl, typ_str, typ_non, typ_lst, typ_tup, icp_ins, icp_int, icp_bl, icp_str, icp_non, icp_lst, icp_tup, zpp_l, zpp_t, prp_i, w_var, w_cst, fzp_fz, fzp_fr, w_fzd, w_nil, w_cons, w_bin, w_idx, w_neg, o_add, o_sub, o_mul, o_fdiv, o_mod, o_pow, o_shl, o_shr, o_and, o_or, o_xor, o_eq, o_ne, o_neB, o_lt, o_le, o_gt, o_ge, o_ixl, o_ixt, o_addl, w_tup, w_lst, w_sl, w_eno, w_part, o_sll, o_sls, w_fld, o_fld, w_prop, w_call, w_callK, w_fun1, o_lenl, o_lent, o_listl, o_listt, o_tuplel, o_tuplet, o_int, o_intb, o_abs, o_all, o_any, o_sum, w_is, w_isC, w_isN, w_notN, w_chain, w_tval, w_tand, w_tor, w_tnot, w_yes, w_eand, w_eor, w_enot, w_eif, wkp_s, wk_l, wk_t, wk_r, wk_rl, w_ilist, w_irev, w_ienum, w_range1, w_range2, w_zip, w_comp, s_next, flp_nx, flp_bk, flp_ct, flp_rt, flp_xx, s_seq, s_fz, fr_nil, fr_cons, fr_1, fr_o, fr_v, fr_u, s_set, kd_fz, kd_fl, kd_fi, s_ref, s_asgG, s_par, s_par3, s_ret, s_retV, s_retN, s_drop, s_if, s_no, s_bk, s_ct, s_for, plp_o, plp_r, llp_l, ilp_i, p_putu, s_app, s_put, p_putIu, s_attr, endP_nx, endP_rt, endP_xx, endP_bk, endP_ct, f_fn, f_init, at_0, ix_0, at_1, ix_1, at_2, ix_2, at_3, ix_3, at_4, ix_4, at_5, ix_5, at_6, ix_6, at_7, ix_7, at_8, ix_8, at_9, ix_9, at_10, ix_10, at_11, ix_11, rs_ref, rs_non, rs_bl, rs_int, rs_str, rs_tup, rs_scr, rs_lst, rs_dct, rs_ins, isL, atKs, atVs, gName, enS, List.map_cons, List.map_nil, List.length_cons, List.length_nil, List.cons_append, List.nil_append, List.getElem?_cons_succ, List.getElem?_cons_zero, List.set_cons_succ, List.set_cons_zero, List.replicate, Nat.reduceSub, Nat.reduceAdd, List.getD_cons_zero, List.getD_cons_succ, gTup, gAll, Option.bind_some, isTy, List.any_cons, List.any_nil, Bool.or_false, Bool.false_or, Bool.true_or, Bool.or_true, D.isNon, true_and, Bool.not_true, Bool.not_false, perm, Int.reduceToNat, Nat.reduceLT, Option.map_some, Nat.zero_lt_succ, decide_true, decide_false, Nat.lt_add_left_iff_pos, Nat.lt_add_one]
  refine (cen_ok h _).imp0 ?_
  rintro _ st12 ⟨rfl, rfl⟩
  rw [cen_eq (n := cen q n) (m := n) (cen_mod n)]
  simp only [wp_ok, wp_ex, wp_no, wp_bind, wp_bindS, wp_noX, slp_v, slp_o, rtp_v, rtp_o, kdp_fz, kdp_fl, kdp_fi, intp_i, blp_b, trp_b, trp_i, trp_l, trp_t, trp_n, optp_s, itp_t, itp_f, itp_nd, itp_ne, lsp_l, nbp_fz, nbp_fr, typ_int, typ_bl, typ_str, typ_non, typ_lst, typ_tup, icp_ins, icp_int, icp_bl, icp_str, icp_non, icp_lst, icp_tup, zpp_l, zpp_t, prp_i, w_var, w_cst, fzp_fz, fzp_fr, w_fzd, w_nil, w_cons, w_bin, w_idx, w_neg, o_add, o_sub, o_mul, o_fdiv, o_mod, o_pow, o_shl, o_shr, o_and, o_or, o_xor, o_eq, o_ne, o_neB, o_lt, o_le, o_gt, o_ge, o_ixl, o_ixt, o_addl, w_tup, w_lst, w_sl, w_eno, w_part, o_sll, o_sls, w_fld, o_fld, w_prop, w_call, w_callK, w_fun1, o_lenl, o_lent, o_listl, o_listt, o_tuplel, o_tuplet, o_int, o_intb, o_abs, o_all, o_any, o_sum, w_is, w_isC, w_isN, w_notN, w_chain, w_tval, w_tand, w_tor, w_tnot, w_yes, w_eand, w_eor, w_enot, w_eif, wkp_s, wk_l, wk_t, wk_r, wk_rl, w_ilist, w_irev, w_ienum, w_range1, w_range2, w_zip, w_comp, s_next, flp_nx, flp_bk, flp_ct, flp_rt, flp_xx, s_seq, s_fz, fr_nil, fr_cons, fr_1, fr_o, fr_v, fr_u, s_set, kd_fz, kd_fl, kd_fi, s_ref, s_asgG, s_par, s_par3, s_ret, s_retV, s_retN, s_drop, s_if, s_no, s_bk, s_ct, s_for, plp_o, plp_r, llp_l, ilp_i, p_putu, s_app, s_put, p_putIu, s_attr, endP_nx, endP_rt, endP_xx, endP_bk, endP_ct, f_fn, f_init, at_0, ix_0, at_1, ix_1, at_2, ix_2, at_3, ix_3, at_4, ix_4, at_5, ix_5, at_6, ix_6, at_7, ix_7, at_8, ix_8, at_9, ix_9, at_10, ix_10, at_11, ix_11, rs_ref, rs_non, rs_bl, rs_int, rs_str, rs_tup, rs_scr, rs_lst, rs_dct, rs_ins, isL, atKs, atVs, gName, enS, List.map_cons, List.map_nil, List.length_cons, List.length_nil, List.cons_append, List.nil_append, List.getElem?_cons_succ, List.getElem?_cons_zero, List.set_cons_succ, List.set_cons_zero, List.replicate, Nat.reduceSub, Nat.reduceAdd, List.getD_cons_zero, List.getD_cons_succ, gTup, gAll, Option.bind_some, isTy, List.any_cons, List.any_nil, Bool.or_false, Bool.false_or, Bool.true_or, Bool.or_true, D.isNon, true_and, Bool.not_true, Bool.not_false, perm, Int.reduceToNat, Nat.reduceLT, Option.map_some, Nat.zero_lt_succ, decide_true, decide_false, Nat.lt_add_left_iff_pos, Nat.lt_add_one]
  refine ⟨by decide, by decide, (like_two 6 _ _ _ _ rfl rfl).imp0 ?_⟩
  rintro _ st13 ⟨rfl, rfl⟩
  simp only [wp_ok, wp_ex, wp_no, wp_bind, wp_bindS, wp_noX, slp_v, slp_o, rtp_v, rtp_o, kdp_fz, kdp_fl, kdp_fi, intp_i, blp_b, trp_b, trp_i, trp_l, trp_t, trp_n, optp_s, itp_t, itp_f, itp_nd, itp_ne, lsp_l, nbp_fz, nbp_fr, typ_int, typ_bl, typ_str, typ_non, typ_lst, typ_tup, icp_ins, icp_int, icp_bl, icp_str, icp_non, icp_lst, icp_tup, zpp_l, zpp_t, prp_i, w_var, w_cst, fzp_fz, fzp_fr, w_fzd, w_nil, w_cons, w_bin, w_idx, w_neg, o_add, o_sub, o_mul, o_fdiv, o_mod, o_pow, o_shl, o_shr, o_and, o_or, o_xor, o_eq, o_ne, o_neB, o_lt, o_le, o_gt, o_ge, o_ixl, o_ixt, o_addl, w_tup, w_lst, w_sl, w_eno, w_part, o_sll, o_sls, w_fld, o_fld, w_prop, w_call, w_callK, w_fun1, o_lenl, o_lent, o_listl, o_listt, o_tuplel, o_tuplet, o_int, o_intb, o_abs, o_all, o_any, o_sum, w_is, w_isC, w_isN, w_notN, w_chain, w_tval, w_tand, w_tor, w_tnot, w_yes, w_eand, w_eor, w_enot, w_eif, wkp_s, wk_l, wk_t, wk_r, wk_rl, w_ilist, w_irev, w_ienum, w_range1, w_range2, w_zip, w_comp, s_next, flp_nx, flp_bk, flp_ct, flp_rt, flp_xx, s_seq, s_fz, fr_nil, fr_cons, fr_1, fr_o, fr_v, fr_u, s_set, kd_fz, kd_fl, kd_fi, s_ref, s_asgG, s_par, s_par3, s_ret, s_retV, s_retN, s_drop, s_if, s_no, s_bk, s_ct, s_for, plp_o, plp_r, llp_l, ilp_i, p_putu, s_app, s_put, p_putIu, s_attr, endP_nx, endP_rt, endP_xx, endP_bk, endP_ct, f_fn, f_init, at_0, ix_0, at_1, ix_1, at_2, ix_2, at_3, ix_3, at_4, ix_4, at_5, ix_5, at_6, ix_6, at_7, ix_7, at_8, ix_8, at_9, ix_9, at_10, ix_10, at_11, ix_11, rs_ref, rs_non, rs_bl, rs_int, rs_str, rs_tup, rs_scr, rs_lst, rs_dct, rs_ins, isL, atKs, atVs, gName, enS, List.map_cons, List.map_nil, List.length_cons, List.length_nil, List.cons_append, List.nil_append, List.getElem?_cons_succ, List.getElem?_cons_zero, List.set_cons_succ, List.set_cons_zero, List.replicate, Nat.reduceSub, Nat.reduceAdd, List.getD_cons_zero, List.getD_cons_succ, gTup, gAll, Option.bind_some, isTy, List.any_cons, List.any_nil, Bool.or_false, Bool.false_or, Bool.true_or, Bool.or_true, D.isNon, true_and, Bool.not_true, Bool.not_false, perm, Int.reduceToNat, Nat.reduceLT, Option.map_some, Nat.zero_lt_succ, decide_true, decide_false, Nat.lt_add_left_iff_pos, Nat.lt_add_one]
  refine (digits_ok h _).imp0 ?_
  rintro _ st14 ⟨rfl, rfl⟩
  rw [hds _ (cen_mod n)]
  simp only [wp_ok, wp_ex, wp_no, wp_bind, wp_bindS, wp_noX, slp_v, slp_o, rtp_v, rtp_o, kdp_fz, kdp_fl, kdp_fi, intp_i, blp_b, trp_b, trp_i, trp_l, trp_t, trp_n, optp_s, itp_t, itp_f, itp_nd, itp_ne, lsp_l, nbp_fz, nbp_fr, typ_int, typ_bl, typ_str, typ_non, typ_lst, typ_tup, icp_ins, icp_int, icp_bl, icp_str, icp_non, icp_lst, icp_tup, zpp_l, zpp_t, prp_i, w_var, w_cst, fzp_fz, fzp_fr, w_fzd, w_nil, w_cons, w_bin, w_idx, w_neg, o_add, o_sub, o_mul, o_fdiv, o_mod, o_pow, o_shl, o_shr, o_and, o_or, o_xor, o_eq, o_ne, o_neB, o_lt, o_le, o_gt, o_ge, o_ixl, o_ixt, o_addl, w_tup, w_lst, w_sl, w_eno, w_part, o_sll, o_sls, w_fld, o_fld, w_prop, w_call, w_callK, w_fun1, o_lenl, o_lent, o_listl, o_listt, o_tuplel, o_tuplet, o_int, o_intb, o_abs, o_all, o_any, o_sum, w_is, w_isC, w_isN, w_notN, w_chain, w_tval, w_tand, w_tor, w_tnot, w_yes, w_eand, w_eor, w_enot, w_eif, wkp_s, wk_l, wk_t, wk_r, wk_rl, w_ilist, w_irev, w_ienum, w_range1, w_range2, w_zip, w_comp, s_next, flp_nx, flp_bk, flp_ct, flp_rt, flp_xx, s_seq, s_fz, fr_nil, fr_cons, fr_1, fr_o, fr_v, fr_u, s_set, kd_fz, kd_fl, kd_fi, s_ref, s_asgG, s_par, s_par3, s_ret, s_retV, s_retN, s_drop, s_if, s_no, s_bk, s_ct, s_for, plp_o, plp_r, llp_l, ilp_i, p_putu, s_app, s_put, p_putIu, s_attr, endP_nx, endP_rt, endP_xx, endP_bk, endP_ct, f_fn, f_init, at_0, ix_0, at_1, ix_1, at_2, ix_2, at_3, ix_3, at_4, ix_4, at_5, ix_5, at_6, ix_6, at_7, ix_7, at_8, ix_8, at_9, ix_9, at_10, ix_10, at_11, ix_11, rs_ref, rs_non, rs_bl, rs_int, rs_str, rs_tup, rs_scr, rs_lst, rs_dct, rs_ins, isL, atKs, atVs, gName, enS, List.map_cons, List.map_nil, List.length_cons, List.length_nil, List.cons_append, List.nil_append, List.getElem?_cons_succ, List.getElem?_cons_zero, List.set_cons_succ, List.set_cons_zero, List.replicate, Nat.reduceSub, Nat.reduceAdd, List.getD_cons_zero, List.getD_cons_succ, gTup, gAll, Option.bind_some, isTy, List.any_cons, List.any_nil, Bool.or_false, Bool.false_or, Bool.true_or, Bool.or_true, D.isNon, true_and, Bool.not_true, Bool.not_false, perm, Int.reduceToNat, Nat.reduceLT, Option.map_some, Nat.zero_lt_succ, decide_true, decide_false, Nat.lt_add_left_iff_pos, Nat.lt_add_one]
  refine (whole_gen h (xs := es5) (gs := [(rest.length + 1, es5.map D.int)]) (by rw [wk_r, bag_get hb6]; rfl) (gd_same (bag_get hb6))).imp0 ?_
  rintro _ st15 ⟨rfl, rfl⟩
  simp only [wp_ok, wp_ex, wp_no, wp_bind, wp_bindS, wp_noX, slp_v, slp_o, rtp_v, rtp_o, kdp_fz, kdp_fl, kdp_fi, intp_i, blp_b, trp_b, trp_i, trp_l, trp_t, trp_n, optp_s, itp_t, itp_f, itp_nd, itp_ne, lsp_l, nbp_fz, nbp_fr, typ_int, typ_bl, typ_str, typ_non, typ_lst, typ_tup, icp_ins, icp_int, icp_bl, icp_str, icp_non, icp_lst, icp_tup, zpp_l, zpp_t, prp_i, w_var, w_cst, fzp_fz, fzp_fr, w_fzd, w_nil, w_cons, w_bin, w_idx, w_neg, o_add, o_sub, o_mul, o_fdiv, o_mod, o_pow, o_shl, o_shr, o_and, o_or, o_xor, o_eq, o_ne, o_neB, o_lt, o_le, o_gt, o_ge, o_ixl, o_ixt, o_addl, w_tup, w_lst, w_sl, w_eno, w_part, o_sll, o_sls, w_fld, o_fld, w_prop, w_call, w_callK, w_fun1, o_lenl, o_lent, o_listl, o_listt, o_tuplel, o_tuplet, o_int, o_intb, o_abs, o_all, o_any, o_sum, w_is, w_isC, w_isN, w_notN, w_chain, w_tval, w_tand, w_tor, w_tnot, w_yes, w_eand, w_eor, w_enot, w_eif, wkp_s, wk_l, wk_t, wk_r, wk_rl, w_ilist, w_irev, w_ienum, w_range1, w_range2, w_zip, w_comp, s_next, flp_nx, flp_bk, flp_ct, flp_rt, flp_xx, s_seq, s_fz, fr_nil, fr_cons, fr_1, fr_o, fr_v, fr_u, s_set, kd_fz, kd_fl, kd_fi, s_ref, s_asgG, s_par, s_par3, s_ret, s_retV, s_retN, s_drop, s_if, s_no, s_bk, s_ct, s_for, plp_o, plp_r, llp_l, ilp_i, p_putu, s_app, s_put, p_putIu, s_attr, endP_nx, endP_rt, endP_xx, endP_bk, endP_ct, f_fn, f_init, at_0, ix_0, at_1, ix_1, at_2, ix_2, at_3, ix_3, at_4, ix_4, at_5, ix_5, at_6, ix_6, at_7, ix_7, at_8, ix_8, at_9, ix_9, at_10, ix_10, at_11, ix_11, rs_ref, rs_non, rs_bl, rs_int, rs_str, rs_tup, rs_scr, rs_lst, rs_dct, rs_ins, isL, atKs, atVs, gName, enS, List.map_cons, List.map_nil, List.length_cons, List.length_nil, List.cons_append, List.nil_append, List.getElem?_cons_succ, List.getElem?_cons_zero, List.set_cons_succ, List.set_cons_zero, List.replicate, Nat.reduceSub, Nat.reduceAdd, List.getD_cons_zero, List.getD_cons_succ, gTup, gAll, Option.bind_some, isTy, List.any_cons, List.any_nil, Bool.or_false, Bool.false_or, Bool.true_or, Bool.or_true, D.isNon, true_and, Bool.not_true, Bool.not_false, perm, Int.reduceToNat, Nat.reduceLT, Option.map_some, Nat.zero_lt_succ, decide_true, decide_false, Nat.lt_add_left_iff_pos, Nat.lt_add_one, rs_five, five_2]
  refine ⟨by decide, (sum_ok hq hB hB2 (by rw [hl5]; omega) (by rw [rs_ref, bag_getD hb6])).imp0 ?_⟩
  rintro _ st16 ⟨rfl, rfl⟩
  simp only [wp_ok, wp_ex, wp_no, wp_bind, wp_bindS, wp_noX, slp_v, slp_o, rtp_v, rtp_o, kdp_fz, kdp_fl, kdp_fi, intp_i, blp_b, trp_b, trp_i, trp_l, trp_t, trp_n, optp_s, itp_t, itp_f, itp_nd, itp_ne, lsp_l, nbp_fz, nbp_fr, typ_int, typ_bl, typ_str, typ_non, typ_lst, typ_tup, icp_ins, icp_int, icp_bl, icp_str, icp_non, icp_lst, icp_tup, zpp_l, zpp_t, prp_i, w_var, w_cst, fzp_fz, fzp_fr, w_fzd, w_nil, w_cons, w_bin, w_idx, w_neg, o_add, o_sub, o_mul, o_fdiv, o_mod, o_pow, o_shl, o_shr, o_and, o_or, o_xor, o_eq, o_ne, o_neB, o_lt, o_le, o_gt, o_ge, o_ixl, o_ixt, o_addl, w_tup, w_lst, w_sl, w_eno, w_part, o_sll, o_sls, w_fld, o_fld, w_prop, w_call, w_callK, w_fun1, o_lenl, o_lent, o_listl, o_listt, o_tuplel, o_tuplet, o_int, o_intb, o_abs, o_all, o_any, o_sum, w_is, w_isC, w_isN, w_notN, w_chain, w_tval, w_tand, w_tor, w_tnot, w_yes, w_eand, w_eor, w_enot, w_eif, wkp_s, wk_l, wk_t, wk_r, wk_rl, w_ilist, w_irev, w_ienum, w_range1, w_range2, w_zip, w_comp, s_next, flp_nx, flp_bk, flp_ct, flp_rt, flp_xx, s_seq, s_fz, fr_nil, fr_cons, fr_1, fr_o, fr_v, fr_u, s_set, kd_fz, kd_fl, kd_fi, s_ref, s_asgG, s_par, s_par3, s_ret, s_retV, s_retN, s_drop, s_if, s_no, s_bk, s_ct, s_for, plp_o, plp_r, llp_l, ilp_i, p_putu, s_app, s_put, p_putIu, s_attr, endP_nx, endP_rt, endP_xx, endP_bk, endP_ct, f_fn, f_init, at_0, ix_0, at_1, ix_1, at_2, ix_2, at_3, ix_3, at_4, ix_4, at_5, ix_5, at_6, ix_6, at_7, ix_7, at_8, ix_8, at_9, ix_9, at_10, ix_10, at_11, ix_11, rs_ref, rs_non, rs_bl, rs_int, rs_str, rs_tup, rs_scr, rs_lst, rs_dct, rs_ins, isL, atKs, atVs, gName, enS, List.map_cons, List.map_nil, List.length_cons, List.length_nil, List.cons_append, List.nil_append, List.getElem?_cons_succ, List.getElem?_cons_zero, List.set_cons_succ, List.set_cons_zero, List.replicate, Nat.reduceSub, Nat.reduceAdd, List.getD_cons_zero, List.getD_cons_succ, gTup, gAll, Option.bind_some, isTy, List.any_cons, List.any_nil, Bool.or_false, Bool.false_or, Bool.true_or, Bool.or_true, D.isNon, true_and, Bool.not_true, Bool.not_false, perm, Int.reduceToNat, Nat.reduceLT, Option.map_some, Nat.zero_lt_succ, decide_true, decide_false, Nat.lt_add_left_iff_pos, Nat.lt_add_one]
  refine ⟨by decide, (like_same 8 (.lst [.lst (ds.map D.int), .int (wf B q es5)]) ⟨by show (2 : Nat) ≤ maxLen; decide, fun x hx => ?_⟩).imp0 ?_⟩
  · simp only [List.mem_cons, List.not_mem_nil, or_false] at hx
    rcases hx with rfl | rfl
    · exact pds
    · trivial
  rintro _ st17 ⟨rfl, rfl⟩
  simp only [wp_ok, wp_ex, wp_no, wp_bind, wp_bindS, wp_noX, slp_v, slp_o, rtp_v, rtp_o, kdp_fz, kdp_fl, kdp_fi, intp_i, blp_b, trp_b, trp_i, trp_l, trp_t, trp_n, optp_s, itp_t, itp_f, itp_nd, itp_ne, lsp_l, nbp_fz, nbp_fr, typ_int, typ_bl, typ_str, typ_non, typ_lst, typ_tup, icp_ins, icp_int, icp_bl, icp_str, icp_non, icp_lst, icp_tup, zpp_l, zpp_t, prp_i, w_var, w_cst, fzp_fz, fzp_fr, w_fzd, w_nil, w_cons, w_bin, w_idx, w_neg, o_add, o_sub, o_mul, o_fdiv, o_mod, o_pow, o_shl, o_shr, o_and, o_or, o_xor, o_eq, o_ne, o_neB, o_lt, o_le, o_gt, o_ge, o_ixl, o_ixt, o_addl, w_tup, w_lst, w_sl, w_eno, w_part, o_sll, o_sls, w_fld, o_fld, w_prop, w_call, w_callK, w_fun1, o_lenl, o_lent, o_listl, o_listt, o_tuplel, o_tuplet, o_int, o_intb, o_abs, o_all, o_any, o_sum, w_is, w_isC, w_isN, w_notN, w_chain, w_tval, w_tand, w_tor, w_tnot, w_yes, w_eand, w_eor, w_enot, w_eif, wkp_s, wk_l, wk_t, wk_r, wk_rl, w_ilist, w_irev, w_ienum, w_range1, w_range2, w_zip, w_comp, s_next, flp_nx, flp_bk, flp_ct, flp_rt, flp_xx, s_seq, s_fz, fr_nil, fr_cons, fr_1, fr_o, fr_v, fr_u, s_set, kd_fz, kd_fl, kd_fi, s_ref, s_asgG, s_par, s_par3, s_ret, s_retV, s_retN, s_drop, s_if, s_no, s_bk, s_ct, s_for, plp_o, plp_r, llp_l, ilp_i, p_putu, s_app, s_put, p_putIu, s_attr, endP_nx, endP_rt, endP_xx, endP_bk, endP_ct, f_fn, f_init, at_0, ix_0, at_1, ix_1, at_2, ix_2, at_3, ix_3, at_4, ix_4, at_5, ix_5, at_6, ix_6, at_7, ix_7, at_8, ix_8, at_9, ix_9, at_10, ix_10, at_11, ix_11, rs_ref, rs_non, rs_bl, rs_int, rs_str, rs_tup, rs_scr, rs_lst, rs_dct, rs_ins, isL, atKs, atVs, gName, enS, List.map_cons, List.map_nil, List.length_cons, List.length_nil, List.cons_append, List.nil_append, List.getElem?_cons_succ, List.getElem?_cons_zero, List.set_cons_succ, List.set_cons_zero, List.replicate, Nat.reduceSub, Nat.reduceAdd, List.getD_cons_zero, List.getD_cons_succ, gTup, gAll, Option.bind_some, isTy, List.any_cons, List.any_nil, Bool.or_false, Bool.false_or, Bool.true_or, Bool.or_true, D.isNon, true_and, Bool.not_true, Bool.not_false, perm, Int.reduceToNat, Nat.reduceLT, Option.map_some, Nat.zero_lt_succ, decide_true, decide_false, Nat.lt_add_left_iff_pos, Nat.lt_add_one]
  exact ⟨_, hb6⟩
theorem drawn_ok (h : Par l N B s w q g) (hb : Bag rest st) : (w__law_drawn_digits [.ref 0, five l N B s w] st).Wp (fun p st' => ∃ xs : List Int, p = (.lst (xs.map D.int), .fr) ∧ xs.length = s.toNat ∧ (∀ x ∈ xs, 0 - B / 2 ≤ x ∧ x ≤ B / 2 - 1) ∧ Bag rest st') NX := by
  have hB := h.B4; have hB2 := h.B6; have hs := h.s1; have hs8 := h.s8; have hBe := h.Be
  unfold w__law_drawn_digits
  rw [f_fn]
  unfold b__law_drawn_digits
  simp only [wp_ok, wp_ex, wp_no, wp_bind, wp_bindS, wp_noX, slp_v, slp_o, rtp_v, rtp_o, kdp_fz, kdp_fl, kdp_fi, intp_i, blp_b, trp_b, trp_i, trp_l, trp_t, trp_n, optp_s, itp_t, itp_f, itp_nd, itp_ne, lsp_l, nbp_fz, nbp_fr, typ_int, typ_bl, typ_str, typ_non, typ_lst, typ_tup, icp_ins, icp_int, icp_bl, icp_str, icp_non, icp_lst, icp_tup, zpp_l, zpp_t, prp_i, w_var, w_cst, fzp_fz, fzp_fr, w_fzd, w_nil, w_cons, w_bin, w_idx, w_neg, o_add, o_sub, o_mul, o_fdiv, o_mod, o_pow, o_shl, o_shr, o_and, o_or, o_xor, o_eq, o_ne, o_neB, o_lt, o_le, o_gt, o_ge, o_ixl, o_ixt, o_addl, w_tup, w_lst, w_sl, w_eno, w_part, o_sll, o_sls, w_fld, o_fld, w_prop, w_call, w_callK, w_fun1, o_lenl, o_lent, o_listl, o_listt, o_tuplel, o_tuplet, o_int, o_intb, o_abs, o_all, o_any, o_sum, w_is, w_isC, w_isN, w_notN, w_chain, w_tval, w_tand, w_tor, w_tnot, w_yes, w_eand, w_eor, w_enot, w_eif, wkp_s, wk_l, wk_t, wk_r, wk_rl, w_ilist, w_irev, w_ienum, w_range1, w_range2, w_zip, w_comp, s_next, flp_nx, flp_bk, flp_ct, flp_rt, flp_xx, s_seq, s_fz, fr_nil, fr_cons, fr_1, fr_o, fr_v, fr_u, s_set, kd_fz, kd_fl, kd_fi, s_ref, s_asgG, s_par, s_par3, s_ret, s_retV, s_retN, s_drop, s_if, s_no, s_bk, s_ct, s_for, plp_o, plp_r, llp_l, ilp_i, p_putu, s_app, s_put, p_putIu, s_attr, endP_nx, endP_rt, endP_xx, endP_bk, endP_ct, f_fn, f_init, at_0, ix_0, at_1, ix_1, at_2, ix_2, at_3, ix_3, at_4, ix_4, at_5, ix_5, at_6, ix_6, at_7, ix_7, at_8, ix_8, at_9, ix_9, at_10, ix_10, at_11, ix_11, rs_ref, rs_non, rs_bl, rs_int, rs_str, rs_tup, rs_scr, rs_lst, rs_dct, rs_ins, isL, atKs, atVs, gName, enS, List.map_cons, List.map_nil, List.length_cons, List.length_nil, List.cons_append, List.nil_append, List.getElem?_cons_succ, List.getElem?_cons_zero, List.set_cons_succ, List.set_cons_zero, List.replicate, Nat.reduceSub, Nat.reduceAdd, List.getD_cons_zero, List.getD_cons_succ, gTup, gAll, Option.bind_some, isTy, List.any_cons, List.any_nil, Bool.or_false, Bool.false_or, Bool.true_or, Bool.or_true, D.isNon, true_and, Bool.not_true, Bool.not_false, perm, Int.reduceToNat, Nat.reduceLT, Option.map_some, Nat.zero_lt_succ, decide_true, decide_false, Nat.lt_add_left_iff_pos, Nat.lt_add_one, rs_five, five_2, five_3]
  refine ⟨⟨by decide, by decide⟩, by decide, decide_eq_true ⟨by omega, by omega⟩, for_ok (J := fun i ρ st' => ∃ (xs : List Int) (s4 : Sl), ρ = [.val (.ref 0), .val (five l N B s w), .val (.int (B / 2)), .own (.lst (xs.map D.int)), s4] ∧ xs.length = i ∧ (∀ x ∈ xs, 0 - B / 2 ≤ x ∧ x ≤ B / 2 - 1) ∧ Bag rest st') ⟨[], _, rfl, rfl, (fun x hx => by cases hx), hb⟩ ?_ ?_⟩
  · rintro i d ρ st2 hd ⟨xs, s4, rfl, hl, hx, hb2⟩
    obtain ⟨rfl, hi⟩ := rangeL_get hd
    refine ⟨_, rfl, ?_⟩
    simp only [wp_ok, wp_ex, wp_no, wp_bind, wp_bindS, wp_noX, slp_v, slp_o, rtp_v, rtp_o, kdp_fz, kdp_fl, kdp_fi, intp_i, blp_b, trp_b, trp_i, trp_l, trp_t, trp_n, optp_s, itp_t, itp_f, itp_nd, itp_ne, lsp_l, nbp_fz, nbp_fr, typ_int, typ_bl, typ_str, typ_non, typ_lst, typ_tup, icp_ins, icp_int, icp_bl, icp_str, icp_non, icp_lst, icp_tup, zpp_l, zpp_t, prp_i, w_var, w_cst, fzp_fz, fzp_fr, w_fzd, w_nil, w_cons, w_bin, w_idx, w_neg, o_add, o_sub, o_mul, o_fdiv, o_mod, o_pow, o_shl, o_shr, o_and, o_or, o_xor, o_eq, o_ne, o_neB, o_lt, o_le, o_gt, o_ge, o_ixl, o_ixt, o_addl, w_tup, w_lst, w_sl, w_eno, w_part, o_sll, o_sls, w_fld, o_fld, w_prop, w_call, w_callK, w_fun1, o_lenl, o_lent, o_listl, o_listt, o_tuplel, o_tuplet, o_int, o_intb, o_abs, o_all, o_any, o_sum, w_is, w_isC, w_isN, w_notN, w_chain, w_tval, w_tand, w_tor, w_tnot, w_yes, w_eand, w_eor, w_enot, w_eif, wkp_s, wk_l, wk_t, wk_r, wk_rl, w_ilist, w_irev, w_ienum, w_range1, w_range2, w_zip, w_comp, s_next, flp_nx, flp_bk, flp_ct, flp_rt, flp_xx, s_seq, s_fz, fr_nil, fr_cons, fr_1, fr_o, fr_v, fr_u, s_set, kd_fz, kd_fl, kd_fi, s_ref, s_asgG, s_par, s_par3, s_ret, s_retV, s_retN, s_drop, s_if, s_no, s_bk, s_ct, s_for, plp_o, plp_r, llp_l, ilp_i, p_putu, s_app, s_put, p_putIu, s_attr, endP_nx, endP_rt, endP_xx, endP_bk, endP_ct, f_fn, f_init, at_0, ix_0, at_1, ix_1, at_2, ix_2, at_3, ix_3, at_4, ix_4, at_5, ix_5, at_6, ix_6, at_7, ix_7, at_8, ix_8, at_9, ix_9, at_10, ix_10, at_11, ix_11, rs_ref, rs_non, rs_bl, rs_int, rs_str, rs_tup, rs_scr, rs_lst, rs_dct, rs_ins, isL, atKs, atVs, gName, enS, List.map_cons, List.map_nil, List.length_cons, List.length_nil, List.cons_append, List.nil_append, List.getElem?_cons_succ, List.getElem?_cons_zero, List.set_cons_succ, List.set_cons_zero, List.replicate, Nat.reduceSub, Nat.reduceAdd, List.getD_cons_zero, List.getD_cons_succ, gTup, gAll, Option.bind_some, isTy, List.any_cons, List.any_nil, Bool.or_false, Bool.false_or, Bool.true_or, Bool.or_true, D.isNon, true_and, Bool.not_true, Bool.not_false, perm, Int.reduceToNat, Nat.reduceLT, Option.map_some, Nat.zero_lt_succ, decide_true, decide_false, Nat.lt_add_left_iff_pos, Nat.lt_add_one, rs_five, five_2]
    refine (draw_ok hb2 (by omega) (big_of (by omega))).imp0 ?_
    rintro _ st3 ⟨r, rfl, r0, r1, hb3⟩
    simp only [wp_ok, wp_ex, wp_no, wp_bind, wp_bindS, wp_noX, slp_v, slp_o, rtp_v, rtp_o, kdp_fz, kdp_fl, kdp_fi, intp_i, blp_b, trp_b, trp_i, trp_l, trp_t, trp_n, optp_s, itp_t, itp_f, itp_nd, itp_ne, lsp_l, nbp_fz, nbp_fr, typ_int, typ_bl, typ_str, typ_non, typ_lst, typ_tup, icp_ins, icp_int, icp_bl, icp_str, icp_non, icp_lst, icp_tup, zpp_l, zpp_t, prp_i, w_var, w_cst, fzp_fz, fzp_fr, w_fzd, w_nil, w_cons, w_bin, w_idx, w_neg, o_add, o_sub, o_mul, o_fdiv, o_mod, o_pow, o_shl, o_shr, o_and, o_or, o_xor, o_eq, o_ne, o_neB, o_lt, o_le, o_gt, o_ge, o_ixl, o_ixt, o_addl, w_tup, w_lst, w_sl, w_eno, w_part, o_sll, o_sls, w_fld, o_fld, w_prop, w_call, w_callK, w_fun1, o_lenl, o_lent, o_listl, o_listt, o_tuplel, o_tuplet, o_int, o_intb, o_abs, o_all, o_any, o_sum, w_is, w_isC, w_isN, w_notN, w_chain, w_tval, w_tand, w_tor, w_tnot, w_yes, w_eand, w_eor, w_enot, w_eif, wkp_s, wk_l, wk_t, wk_r, wk_rl, w_ilist, w_irev, w_ienum, w_range1, w_range2, w_zip, w_comp, s_next, flp_nx, flp_bk, flp_ct, flp_rt, flp_xx, s_seq, s_fz, fr_nil, fr_cons, fr_1, fr_o, fr_v, fr_u, s_set, kd_fz, kd_fl, kd_fi, s_ref, s_asgG, s_par, s_par3, s_ret, s_retV, s_retN, s_drop, s_if, s_no, s_bk, s_ct, s_for, plp_o, plp_r, llp_l, ilp_i, p_putu, s_app, s_put, p_putIu, s_attr, endP_nx, endP_rt, endP_xx, endP_bk, endP_ct, f_fn, f_init, at_0, ix_0, at_1, ix_1, at_2, ix_2, at_3, ix_3, at_4, ix_4, at_5, ix_5, at_6, ix_6, at_7, ix_7, at_8, ix_8, at_9, ix_9, at_10, ix_10, at_11, ix_11, rs_ref, rs_non, rs_bl, rs_int, rs_str, rs_tup, rs_scr, rs_lst, rs_dct, rs_ins, isL, atKs, atVs, gName, enS, List.map_cons, List.map_nil, List.length_cons, List.length_nil, List.cons_append, List.nil_append, List.getElem?_cons_succ, List.getElem?_cons_zero, List.set_cons_succ, List.set_cons_zero, List.replicate, Nat.reduceSub, Nat.reduceAdd, List.getD_cons_zero, List.getD_cons_succ, gTup, gAll, Option.bind_some, isTy, List.any_cons, List.any_nil, Bool.or_false, Bool.false_or, Bool.true_or, Bool.or_true, D.isNon, true_and, Bool.not_true, Bool.not_false, perm, Int.reduceToNat, Nat.reduceLT, Option.map_some, Nat.zero_lt_succ, decide_true, decide_false, Nat.lt_add_left_iff_pos, Nat.lt_add_one]
    refine ⟨by show (7 : Nat) ≤ maxLen; decide, (of_i (ks := [0, B / 2 - 1, 0 - B / 2, 1, 0 - 1, 1 - B / 2, r - B / 2]) hb3 (by simp) (by show (7 : Nat) < 1000; decide)).imp0 ?_⟩
    rintro _ st4 ⟨k, hk, rfl, hb4⟩
    have hk : 0 - B / 2 ≤ k ∧ k ≤ B / 2 - 1 := by
      simp only [List.mem_cons, List.not_mem_nil, or_false] at hk
      omega
    simp only [wp_ok, wp_ex, wp_no, wp_bind, wp_bindS, wp_noX, slp_v, slp_o, rtp_v, rtp_o, kdp_fz, kdp_fl, kdp_fi, intp_i, blp_b, trp_b, trp_i, trp_l, trp_t, trp_n, optp_s, itp_t, itp_f, itp_nd, itp_ne, lsp_l, nbp_fz, nbp_fr, typ_int, typ_bl, typ_str, typ_non, typ_lst, typ_tup, icp_ins, icp_int, icp_bl, icp_str, icp_non, icp_lst, icp_tup, zpp_l, zpp_t, prp_i, w_var, w_cst, fzp_fz, fzp_fr, w_fzd, w_nil, w_cons, w_bin, w_idx, w_neg, o_add, o_sub, o_mul, o_fdiv, o_mod, o_pow, o_shl, o_shr, o_and, o_or, o_xor, o_eq, o_ne, o_neB, o_lt, o_le, o_gt, o_ge, o_ixl, o_ixt, o_addl, w_tup, w_lst, w_sl, w_eno, w_part, o_sll, o_sls, w_fld, o_fld, w_prop, w_call, w_callK, w_fun1, o_lenl, o_lent, o_listl, o_listt, o_tuplel, o_tuplet, o_int, o_intb, o_abs, o_all, o_any, o_sum, w_is, w_isC, w_isN, w_notN, w_chain, w_tval, w_tand, w_tor, w_tnot, w_yes, w_eand, w_eor, w_enot, w_eif, wkp_s, wk_l, wk_t, wk_r, wk_rl, w_ilist, w_irev, w_ienum, w_range1, w_range2, w_zip, w_comp, s_next, flp_nx, flp_bk, flp_ct, flp_rt, flp_xx, s_seq, s_fz, fr_nil, fr_cons, fr_1, fr_o, fr_v, fr_u, s_set, kd_fz, kd_fl, kd_fi, s_ref, s_asgG, s_par, s_par3, s_ret, s_retV, s_retN, s_drop, s_if, s_no, s_bk, s_ct, s_for, plp_o, plp_r, llp_l, ilp_i, p_putu, s_app, s_put, p_putIu, s_attr, endP_nx, endP_rt, endP_xx, endP_bk, endP_ct, f_fn, f_init, at_0, ix_0, at_1, ix_1, at_2, ix_2, at_3, ix_3, at_4, ix_4, at_5, ix_5, at_6, ix_6, at_7, ix_7, at_8, ix_8, at_9, ix_9, at_10, ix_10, at_11, ix_11, rs_ref, rs_non, rs_bl, rs_int, rs_str, rs_tup, rs_scr, rs_lst, rs_dct, rs_ins, isL, atKs, atVs, gName, enS, List.map_cons, List.map_nil, List.length_cons, List.length_nil, List.cons_append, List.nil_append, List.getElem?_cons_succ, List.getElem?_cons_zero, List.set_cons_succ, List.set_cons_zero, List.replicate, Nat.reduceSub, Nat.reduceAdd, List.getD_cons_zero, List.getD_cons_succ, gTup, gAll, Option.bind_some, isTy, List.any_cons, List.any_nil, Bool.or_false, Bool.false_or, Bool.true_or, Bool.or_true, D.isNon, true_and, Bool.not_true, Bool.not_false, perm, Int.reduceToNat, Nat.reduceLT, Option.map_some, Nat.zero_lt_succ, decide_true, decide_false, Nat.lt_add_left_iff_pos, Nat.lt_add_one, List.length_map, hl]
    rw [if_pos (by unfold maxLen; omega)]
    simp only [wp_ok, wp_ex, wp_no, wp_bind, wp_bindS, wp_noX, slp_v, slp_o, rtp_v, rtp_o, kdp_fz, kdp_fl, kdp_fi, intp_i, blp_b, trp_b, trp_i, trp_l, trp_t, trp_n, optp_s, itp_t, itp_f, itp_nd, itp_ne, lsp_l, nbp_fz, nbp_fr, typ_int, typ_bl, typ_str, typ_non, typ_lst, typ_tup, icp_ins, icp_int, icp_bl, icp_str, icp_non, icp_lst, icp_tup, zpp_l, zpp_t, prp_i, w_var, w_cst, fzp_fz, fzp_fr, w_fzd, w_nil, w_cons, w_bin, w_idx, w_neg, o_add, o_sub, o_mul, o_fdiv, o_mod, o_pow, o_shl, o_shr, o_and, o_or, o_xor, o_eq, o_ne, o_neB, o_lt, o_le, o_gt, o_ge, o_ixl, o_ixt, o_addl, w_tup, w_lst, w_sl, w_eno, w_part, o_sll, o_sls, w_fld, o_fld, w_prop, w_call, w_callK, w_fun1, o_lenl, o_lent, o_listl, o_listt, o_tuplel, o_tuplet, o_int, o_intb, o_abs, o_all, o_any, o_sum, w_is, w_isC, w_isN, w_notN, w_chain, w_tval, w_tand, w_tor, w_tnot, w_yes, w_eand, w_eor, w_enot, w_eif, wkp_s, wk_l, wk_t, wk_r, wk_rl, w_ilist, w_irev, w_ienum, w_range1, w_range2, w_zip, w_comp, s_next, flp_nx, flp_bk, flp_ct, flp_rt, flp_xx, s_seq, s_fz, fr_nil, fr_cons, fr_1, fr_o, fr_v, fr_u, s_set, kd_fz, kd_fl, kd_fi, s_ref, s_asgG, s_par, s_par3, s_ret, s_retV, s_retN, s_drop, s_if, s_no, s_bk, s_ct, s_for, plp_o, plp_r, llp_l, ilp_i, p_putu, s_app, s_put, p_putIu, s_attr, endP_nx, endP_rt, endP_xx, endP_bk, endP_ct, f_fn, f_init, at_0, ix_0, at_1, ix_1, at_2, ix_2, at_3, ix_3, at_4, ix_4, at_5, ix_5, at_6, ix_6, at_7, ix_7, at_8, ix_8, at_9, ix_9, at_10, ix_10, at_11, ix_11, rs_ref, rs_non, rs_bl, rs_int, rs_str, rs_tup, rs_scr, rs_lst, rs_dct, rs_ins, isL, atKs, atVs, gName, enS, List.map_cons, List.map_nil, List.length_cons, List.length_nil, List.cons_append, List.nil_append, List.getElem?_cons_succ, List.getElem?_cons_zero, List.set_cons_succ, List.set_cons_zero, List.replicate, Nat.reduceSub, Nat.reduceAdd, List.getD_cons_zero, List.getD_cons_succ, gTup, gAll, Option.bind_some, isTy, List.any_cons, List.any_nil, Bool.or_false, Bool.false_or, Bool.true_or, Bool.or_true, D.isNon, true_and, Bool.not_true, Bool.not_false, perm, Int.reduceToNat, Nat.reduceLT, Option.map_some, Nat.zero_lt_succ, decide_true, decide_false, Nat.lt_add_left_iff_pos, Nat.lt_add_one]
    refine ⟨xs ++ [k], .val (.int i), ?_, ?_⟩
    · rw [List.map_append]; rfl
    · refine ⟨by rw [List.length_append, hl]; rfl, fun x hx' => ?_, hb4⟩
      rcases List.mem_append.mp hx' with hx' | hx'
      · exact hx x hx'
      · rw [List.mem_singleton.mp hx']; exact hk
  · rintro ρ st2 ⟨xs, s4, rfl, hl, hx, hb2⟩
    rw [rangeL_len] at hl
    simp only [wp_ok, wp_ex, wp_no, wp_bind, wp_bindS, wp_noX, slp_v, slp_o, rtp_v, rtp_o, kdp_fz, kdp_fl, kdp_fi, intp_i, blp_b, trp_b, trp_i, trp_l, trp_t, trp_n, optp_s, itp_t, itp_f, itp_nd, itp_ne, lsp_l, nbp_fz, nbp_fr, typ_int, typ_bl, typ_str, typ_non, typ_lst, typ_tup, icp_ins, icp_int, icp_bl, icp_str, icp_non, icp_lst, icp_tup, zpp_l, zpp_t, prp_i, w_var, w_cst, fzp_fz, fzp_fr, w_fzd, w_nil, w_cons, w_bin, w_idx, w_neg, o_add, o_sub, o_mul, o_fdiv, o_mod, o_pow, o_shl, o_shr, o_and, o_or, o_xor, o_eq, o_ne, o_neB, o_lt, o_le, o_gt, o_ge, o_ixl, o_ixt, o_addl, w_tup, w_lst, w_sl, w_eno, w_part, o_sll, o_sls, w_fld, o_fld, w_prop, w_call, w_callK, w_fun1, o_lenl, o_lent, o_listl, o_listt, o_tuplel, o_tuplet, o_int, o_intb, o_abs, o_all, o_any, o_sum, w_is, w_isC, w_isN, w_notN, w_chain, w_tval, w_tand, w_tor, w_tnot, w_yes, w_eand, w_eor, w_enot, w_eif, wkp_s, wk_l, wk_t, wk_r, wk_rl, w_ilist, w_irev, w_ienum, w_range1, w_range2, w_zip, w_comp, s_next, flp_nx, flp_bk, flp_ct, flp_rt, flp_xx, s_seq, s_fz, fr_nil, fr_cons, fr_1, fr_o, fr_v, fr_u, s_set, kd_fz, kd_fl, kd_fi, s_ref, s_asgG, s_par, s_par3, s_ret, s_retV, s_retN, s_drop, s_if, s_no, s_bk, s_ct, s_for, plp_o, plp_r, llp_l, ilp_i, p_putu, s_app, s_put, p_putIu, s_attr, endP_nx, endP_rt, endP_xx, endP_bk, endP_ct, f_fn, f_init, at_0, ix_0, at_1, ix_1, at_2, ix_2, at_3, ix_3, at_4, ix_4, at_5, ix_5, at_6, ix_6, at_7, ix_7, at_8, ix_8, at_9, ix_9, at_10, ix_10, at_11, ix_11, rs_ref, rs_non, rs_bl, rs_int, rs_str, rs_tup, rs_scr, rs_lst, rs_dct, rs_ins, isL, atKs, atVs, gName, enS, List.map_cons, List.map_nil, List.length_cons, List.length_nil, List.cons_append, List.nil_append, List.getElem?_cons_succ, List.getElem?_cons_zero, List.set_cons_succ, List.set_cons_zero, List.replicate, Nat.reduceSub, Nat.reduceAdd, List.getD_cons_zero, List.getD_cons_succ, gTup, gAll, Option.bind_some, isTy, List.any_cons, List.any_nil, Bool.or_false, Bool.false_or, Bool.true_or, Bool.or_true, D.isNon, true_and, Bool.not_true, Bool.not_false, perm, Int.reduceToNat, Nat.reduceLT, Option.map_some, Nat.zero_lt_succ, decide_true, decide_false, Nat.lt_add_left_iff_pos, Nat.lt_add_one]
    exact ⟨xs, rfl, hl, hx, hb2⟩
theorem o_repl {P : D × Fg → List D → Prop} {X : XP} {xs : List D} {j : Int} : R.Wp (bMul (.lst xs) (.int j) st) P X = ((j ≤ maxLen ∧ -maxLen ≤ j ∧ xs.length * j.toNat ≤ maxLen) ∧ P (.lst (List.replicate j.toNat xs).flatten, .fr) st) := ite_and.trans (congrArg _ wp_ok)
theorem flat_map (k : Nat) (xs : List Int) : (List.replicate k (xs.map D.int)).flatten = ((List.replicate k xs).flatten).map D.int := by
  induction k with
  | zero => rfl
  | succ k ih => rw [List.replicate_succ, List.flatten_cons, ih, List.replicate_succ, List.flatten_cons, List.map_append]
theorem flat_len (k : Nat) (xs : List Int) : ((List.replicate k xs).flatten).length = k * xs.length := by
  induction k with
  | zero => simp
  | succ k ih => rw [List.replicate_succ, List.flatten_cons, List.length_append, ih, Nat.succ_mul]; omega
theorem cut_pre {α : Type} (xs : List α) (k : Nat) : cut xs none (some (k : Int)) = xs.take k := by
  unfold cut
  show (xs.drop 0).take (sIx xs.length xs.length (some (k : Int)) - 0) = _
  have : sIx xs.length xs.length (some (k : Int)) = min k xs.length := by
    unfold sIx
    dsimp only
    rw [if_neg (by omega), Int.toNat_natCast]
  rw [this, List.drop_zero, Nat.sub_zero]
  by_cases hk : k ≤ xs.length
  · rw [Nat.min_eq_left hk]
  · rw [Nat.min_eq_right (by omega), List.take_of_length_le (Nat.le_refl _), List.take_of_length_le (by omega)]
def rows_t : SS := sSeq (sSet 6 (eFun1 fTuple (eVar 5))) (sSeq (sFz [5] (sSet 7 (eCall w__law_sum (eCons (eVar 5) (eCons (eIdx (eVar 2) (eCst (.int 2))) (eCons (eVar 3) (eNil))))))) (sSeq (sFz [5, 6, 7] (sIf (tOr (tNot (tVal (eCall (w__law_like 8) (eCons (eLst (eCons (eCall w_whole (eCons (eVar 5) (eCons (eVar 1) (eNil)))) (eCons (eCallK w_whole [1, 0] eNil (eCons (eVar 1) (eCons (eVar 6) (eNil)))) (eNil)))) (eCons (eLst (eCons (eVar 7) (eCons (eVar 7) (eNil)))) (eNil)))))) (tNot (tVal (eCall (w__law_like 8) (eCons (eVar 5) (eCons (eFun1 fList (eVar 6)) (eNil))))))) (sRet (eCst (.bl false))) (sNext))) (sSeq (sSet 8 (eBin bAdd (eSl (eVar 5) (eNo) (ePart (eIdx (eVar 2) (eCst (.int 3))))) (eComp (iRange1 (eCst (.int 2))) (gName 9) (tYes) (eCall w__law_loose (eCons (eVar 0) (eCons (eVar 3) (eNil)))) [9]))) (sSeq (sFz [8] (sIf (tAnd (tVal (eBin cGe (eFun1 fLen (eVar 5)) (eIdx (eVar 2) (eCst (.int 3))))) (tNot (tVal (eCall (w__law_like 8) (eCons (eCall w_whole (eCons (eVar 8) (eCons (eVar 1) (eNil)))) (eCons (eCall w_whole (eCons (eSl (eVar 8) (eNo) (ePart (eIdx (eVar 2) (eCst (.int 3))))) (eCons (eVar 1) (eNil)))) (eNil))))))) (sRet (eCst (.bl false))) (sNext))) (sFz [7] (sRet (eCall (w__law_like 8) (eCons (eCall w_whole (eCons (eCall w_digits (eCons (eVar 7) (eCons (eVar 1) (eNil)))) (eCons (eVar 1) (eNil)))) (eCons (eVar 7) (eNil))))))))))
theorem rows_tail (h : Par l N B s w q g) {mn : Int} (ys : List Int) (hy : ys.length ≤ 4000) (hb5 : Bag rest st) : R.Wp (rows_t [.val (.ref 0), .val (frame l N B s w q), .val (five l N B s w), .val (.int q), .val (.int mn), .own (.lst (ys.map D.int)), .un, .un, .un, .un] st) (endP (fun p st' => p = (.bl true, .fz) ∧ Bag rest st') NX) NX := by
  have hq := h.q0; have hB := h.B4; have hB2 := h.B6; have hs := h.s1; have hs8 := h.s8
  have w0 := wf_lo (B := B) hq ys
  have w1 := wf_hi (B := B) hq ys
  unfold rows_t
  simp only [wp_ok, wp_ex, wp_no, wp_bind, wp_bindS, wp_noX, slp_v, slp_o, rtp_v, rtp_o, kdp_fz, kdp_fl, kdp_fi, intp_i, blp_b, trp_b, trp_i, trp_l, trp_t, trp_n, optp_s, itp_t, itp_f, itp_nd, itp_ne, lsp_l, nbp_fz, nbp_fr, typ_int, typ_bl, typ_str, typ_non, typ_lst, typ_tup, icp_ins, icp_int, icp_bl, icp_str, icp_non, icp_lst, icp_tup, zpp_l, zpp_t, prp_i, w_var, w_cst, fzp_fz, fzp_fr, w_fzd, w_nil, w_cons, w_bin, w_idx, w_neg, o_add, o_sub, o_mul, o_fdiv, o_mod, o_pow, o_shl, o_shr, o_and, o_or, o_xor, o_eq, o_ne, o_neB, o_lt, o_le, o_gt, o_ge, o_ixl, o_ixt, o_addl, w_tup, w_lst, w_sl, w_eno, w_part, o_sll, o_sls, w_fld, o_fld, w_prop, w_call, w_callK, w_fun1, o_lenl, o_lent, o_listl, o_listt, o_tuplel, o_tuplet, o_int, o_intb, o_abs, o_all, o_any, o_sum, w_is, w_isC, w_isN, w_notN, w_chain, w_tval, w_tand, w_tor, w_tnot, w_yes, w_eand, w_eor, w_enot, w_eif, wkp_s, wk_l, wk_t, wk_r, wk_rl, w_ilist, w_irev, w_ienum, w_range1, w_range2, w_zip, w_comp, s_next, flp_nx, flp_bk, flp_ct, flp_rt, flp_xx, s_seq, s_fz, fr_nil, fr_cons, fr_1, fr_o, fr_v, fr_u, s_set, kd_fz, kd_fl, kd_fi, s_ref, s_asgG, s_par, s_par3, s_ret, s_retV, s_retN, s_drop, s_if, s_no, s_bk, s_ct, s_for, plp_o, plp_r, llp_l, ilp_i, p_putu, s_app, s_put, p_putIu, s_attr, endP_nx, endP_rt, endP_xx, endP_bk, endP_ct, f_fn, f_init, at_0, ix_0, at_1, ix_1, at_2, ix_2, at_3, ix_3, at_4, ix_4, at_5, ix_5, at_6, ix_6, at_7, ix_7, at_8, ix_8, at_9, ix_9, at_10, ix_10, at_11, ix_11, rs_ref, rs_non, rs_bl, rs_int, rs_str, rs_tup, rs_scr, rs_lst, rs_dct, rs_ins, isL, atKs, atVs, gName, enS, List.map_cons, List.map_nil, List.length_cons, List.length_nil, List.cons_append, List.nil_append, List.getElem?_cons_succ, List.getElem?_cons_zero, List.set_cons_succ, List.set_cons_zero, List.replicate, Nat.reduceSub, Nat.reduceAdd, List.getD_cons_zero, List.getD_cons_succ, gTup, gAll, Option.bind_some, isTy, List.any_cons, List.any_nil, Bool.or_false, Bool.false_or, Bool.true_or, Bool.or_true, D.isNon, true_and, Bool.not_true, Bool.not_false, perm, Int.reduceToNat, Nat.reduceLT, Option.map_some, Nat.zero_lt_succ, decide_true, decide_false, Nat.lt_add_left_iff_pos, Nat.lt_add_one, rs_five, five_2]
  refine (sum_ok hq hB hB2 (by omega) rfl).imp0 ?_
  rintro _ st5 ⟨rfl, rfl⟩
  simp only [wp_ok, wp_ex, wp_no, wp_bind, wp_bindS, wp_noX, slp_v, slp_o, rtp_v, rtp_o, kdp_fz, kdp_fl, kdp_fi, intp_i, blp_b, trp_b, trp_i, trp_l, trp_t, trp_n, optp_s, itp_t, itp_f, itp_nd, itp_ne, lsp_l, nbp_fz, nbp_fr, typ_int, typ_bl, typ_str, typ_non, typ_lst, typ_tup, icp_ins, icp_int, icp_bl, icp_str, icp_non, icp_lst, icp_tup, zpp_l, zpp_t, prp_i, w_var, w_cst, fzp_fz, fzp_fr, w_fzd, w_nil, w_cons, w_bin, w_idx, w_neg, o_add, o_sub, o_mul, o_fdiv, o_mod, o_pow, o_shl, o_shr, o_and, o_or, o_xor, o_eq, o_ne, o_neB, o_lt, o_le, o_gt, o_ge, o_ixl, o_ixt, o_addl, w_tup, w_lst, w_sl, w_eno, w_part, o_sll, o_sls, w_fld, o_fld, w_prop, w_call, w_callK, w_fun1, o_lenl, o_lent, o_listl, o_listt, o_tuplel, o_tuplet, o_int, o_intb, o_abs, o_all, o_any, o_sum, w_is, w_isC, w_isN, w_notN, w_chain, w_tval, w_tand, w_tor, w_tnot, w_yes, w_eand, w_eor, w_enot, w_eif, wkp_s, wk_l, wk_t, wk_r, wk_rl, w_ilist, w_irev, w_ienum, w_range1, w_range2, w_zip, w_comp, s_next, flp_nx, flp_bk, flp_ct, flp_rt, flp_xx, s_seq, s_fz, fr_nil, fr_cons, fr_1, fr_o, fr_v, fr_u, s_set, kd_fz, kd_fl, kd_fi, s_ref, s_asgG, s_par, s_par3, s_ret, s_retV, s_retN, s_drop, s_if, s_no, s_bk, s_ct, s_for, plp_o, plp_r, llp_l, ilp_i, p_putu, s_app, s_put, p_putIu, s_attr, endP_nx, endP_rt, endP_xx, endP_bk, endP_ct, f_fn, f_init, at_0, ix_0, at_1, ix_1, at_2, ix_2, at_3, ix_3, at_4, ix_4, at_5, ix_5, at_6, ix_6, at_7, ix_7, at_8, ix_8, at_9, ix_9, at_10, ix_10, at_11, ix_11, rs_ref, rs_non, rs_bl, rs_int, rs_str, rs_tup, rs_scr, rs_lst, rs_dct, rs_ins, isL, atKs, atVs, gName, enS, List.map_cons, List.map_nil, List.length_cons, List.length_nil, List.cons_append, List.nil_append, List.getElem?_cons_succ, List.getElem?_cons_zero, List.set_cons_succ, List.set_cons_zero, List.replicate, Nat.reduceSub, Nat.reduceAdd, List.getD_cons_zero, List.getD_cons_succ, gTup, gAll, Option.bind_some, isTy, List.any_cons, List.any_nil, Bool.or_false, Bool.false_or, Bool.true_or, Bool.or_true, D.isNon, true_and, Bool.not_true, Bool.not_false, perm, Int.reduceToNat, Nat.reduceLT, Option.map_some, Nat.zero_lt_succ, decide_true, decide_false, Nat.lt_add_left_iff_pos, Nat.lt_add_one]
  refine (whole_gen h (xs := ys) (gs := []) rfl rfl).imp0 ?_
  rintro _ st6 ⟨rfl, rfl⟩
  simp only [wp_ok, wp_ex, wp_no, wp_bind, wp_bindS, wp_noX, slp_v, slp_o, rtp_v, rtp_o, kdp_fz, kdp_fl, kdp_fi, intp_i, blp_b, trp_b, trp_i, trp_l, trp_t, trp_n, optp_s, itp_t, itp_f, itp_nd, itp_ne, lsp_l, nbp_fz, nbp_fr, typ_int, typ_bl, typ_str, typ_non, typ_lst, typ_tup, icp_ins, icp_int, icp_bl, icp_str, icp_non, icp_lst, icp_tup, zpp_l, zpp_t, prp_i, w_var, w_cst, fzp_fz, fzp_fr, w_fzd, w_nil, w_cons, w_bin, w_idx, w_neg, o_add, o_sub, o_mul, o_fdiv, o_mod, o_pow, o_shl, o_shr, o_and, o_or, o_xor, o_eq, o_ne, o_neB, o_lt, o_le, o_gt, o_ge, o_ixl, o_ixt, o_addl, w_tup, w_lst, w_sl, w_eno, w_part, o_sll, o_sls, w_fld, o_fld, w_prop, w_call, w_callK, w_fun1, o_lenl, o_lent, o_listl, o_listt, o_tuplel, o_tuplet, o_int, o_intb, o_abs, o_all, o_any, o_sum, w_is, w_isC, w_isN, w_notN, w_chain, w_tval, w_tand, w_tor, w_tnot, w_yes, w_eand, w_eor, w_enot, w_eif, wkp_s, wk_l, wk_t, wk_r, wk_rl, w_ilist, w_irev, w_ienum, w_range1, w_range2, w_zip, w_comp, s_next, flp_nx, flp_bk, flp_ct, flp_rt, flp_xx, s_seq, s_fz, fr_nil, fr_cons, fr_1, fr_o, fr_v, fr_u, s_set, kd_fz, kd_fl, kd_fi, s_ref, s_asgG, s_par, s_par3, s_ret, s_retV, s_retN, s_drop, s_if, s_no, s_bk, s_ct, s_for, plp_o, plp_r, llp_l, ilp_i, p_putu, s_app, s_put, p_putIu, s_attr, endP_nx, endP_rt, endP_xx, endP_bk, endP_ct, f_fn, f_init, at_0, ix_0, at_1, ix_1, at_2, ix_2, at_3, ix_3, at_4, ix_4, at_5, ix_5, at_6, ix_6, at_7, ix_7, at_8, ix_8, at_9, ix_9, at_10, ix_10, at_11, ix_11, rs_ref, rs_non, rs_bl, rs_int, rs_str, rs_tup, rs_scr, rs_lst, rs_dct, rs_ins, isL, atKs, atVs, gName, enS, List.map_cons, List.map_nil, List.length_cons, List.length_nil, List.cons_append, List.nil_append, List.getElem?_cons_succ, List.getElem?_cons_zero, List.set_cons_succ, List.set_cons_zero, List.replicate, Nat.reduceSub, Nat.reduceAdd, List.getD_cons_zero, List.getD_cons_succ, gTup, gAll, Option.bind_some, isTy, List.any_cons, List.any_nil, Bool.or_false, Bool.false_or, Bool.true_or, Bool.or_true, D.isNon, true_and, Bool.not_true, Bool.not_false, perm, Int.reduceToNat, Nat.reduceLT, Option.map_some, Nat.zero_lt_succ, decide_true, decide_false, Nat.lt_add_left_iff_pos, Nat.lt_add_one]
  refine (whole_gen h (xs := ys) (gs := []) rfl rfl).imp0 ?_
  rintro _ st7 ⟨rfl, rfl⟩
  simp only [wp_ok, wp_ex, wp_no, wp_bind, wp_bindS, wp_noX, slp_v, slp_o, rtp_v, rtp_o, kdp_fz, kdp_fl, kdp_fi, intp_i, blp_b, trp_b, trp_i, trp_l, trp_t, trp_n, optp_s, itp_t, itp_f, itp_nd, itp_ne, lsp_l, nbp_fz, nbp_fr, typ_int, typ_bl, typ_str, typ_non, typ_lst, typ_tup, icp_ins, icp_int, icp_bl, icp_str, icp_non, icp_lst, icp_tup, zpp_l, zpp_t, prp_i, w_var, w_cst, fzp_fz, fzp_fr, w_fzd, w_nil, w_cons, w_bin, w_idx, w_neg, o_add, o_sub, o_mul, o_fdiv, o_mod, o_pow, o_shl, o_shr, o_and, o_or, o_xor, o_eq, o_ne, o_neB, o_lt, o_le, o_gt, o_ge, o_ixl, o_ixt, o_addl, w_tup, w_lst, w_sl, w_eno, w_part, o_sll, o_sls, w_fld, o_fld, w_prop, w_call, w_callK, w_fun1, o_lenl, o_lent, o_listl, o_listt, o_tuplel, o_tuplet, o_int, o_intb, o_abs, o_all, o_any, o_sum, w_is, w_isC, w_isN, w_notN, w_chain, w_tval, w_tand, w_tor, w_tnot, w_yes, w_eand, w_eor, w_enot, w_eif, wkp_s, wk_l, wk_t, wk_r, wk_rl, w_ilist, w_irev, w_ienum, w_range1, w_range2, w_zip, w_comp, s_next, flp_nx, flp_bk, flp_ct, flp_rt, flp_xx, s_seq, s_fz, fr_nil, fr_cons, fr_1, fr_o, fr_v, fr_u, s_set, kd_fz, kd_fl, kd_fi, s_ref, s_asgG, s_par, s_par3, s_ret, s_retV, s_retN, s_drop, s_if, s_no, s_bk, s_ct, s_for, plp_o, plp_r, llp_l, ilp_i, p_putu, s_app, s_put, p_putIu, s_attr, endP_nx, endP_rt, endP_xx, endP_bk, endP_ct, f_fn, f_init, at_0, ix_0, at_1, ix_1, at_2, ix_2, at_3, ix_3, at_4, ix_4, at_5, ix_5, at_6, ix_6, at_7, ix_7, at_8, ix_8, at_9, ix_9, at_10, ix_10, at_11, ix_11, rs_ref, rs_non, rs_bl, rs_int, rs_str, rs_tup, rs_scr, rs_lst, rs_dct, rs_ins, isL, atKs, atVs, gName, enS, List.map_cons, List.map_nil, List.length_cons, List.length_nil, List.cons_append, List.nil_append, List.getElem?_cons_succ, List.getElem?_cons_zero, List.set_cons_succ, List.set_cons_zero, List.replicate, Nat.reduceSub, Nat.reduceAdd, List.getD_cons_zero, List.getD_cons_succ, gTup, gAll, Option.bind_some, isTy, List.any_cons, List.any_nil, Bool.or_false, Bool.false_or, Bool.true_or, Bool.or_true, D.isNon, true_and, Bool.not_true, Bool.not_false, perm, Int.reduceToNat, Nat.reduceLT, Option.map_some, Nat.zero_lt_succ, decide_true, decide_false, Nat.lt_add_left_iff_pos, Nat.lt_add_one]
  refine ⟨by decide, by decide, (like_two 6 _ _ _ _ rfl rfl).imp0 ?_⟩
  rintro _ st8 ⟨rfl, rfl⟩
  simp only [wp_ok, wp_ex, wp_no, wp_bind, wp_bindS, wp_noX, slp_v, slp_o, rtp_v, rtp_o, kdp_fz, kdp_fl, kdp_fi, intp_i, blp_b, trp_b, trp_i, trp_l, trp_t, trp_n, optp_s, itp_t, itp_f, itp_nd, itp_ne, lsp_l, nbp_fz, nbp_fr, typ_int, typ_bl, typ_str, typ_non, typ_lst, typ_tup, icp_ins, icp_int, icp_bl, icp_str, icp_non, icp_lst, icp_tup, zpp_l, zpp_t, prp_i, w_var, w_cst, fzp_fz, fzp_fr, w_fzd, w_nil, w_cons, w_bin, w_idx, w_neg, o_add, o_sub, o_mul, o_fdiv, o_mod, o_pow, o_shl, o_shr, o_and, o_or, o_xor, o_eq, o_ne, o_neB, o_lt, o_le, o_gt, o_ge, o_ixl, o_ixt, o_addl, w_tup, w_lst, w_sl, w_eno, w_part, o_sll, o_sls, w_fld, o_fld, w_prop, w_call, w_callK, w_fun1, o_lenl, o_lent, o_listl, o_listt, o_tuplel, o_tuplet, o_int, o_intb, o_abs, o_all, o_any, o_sum, w_is, w_isC, w_isN, w_notN, w_chain, w_tval, w_tand, w_tor, w_tnot, w_yes, w_eand, w_eor, w_enot, w_eif, wkp_s, wk_l, wk_t, wk_r, wk_rl, w_ilist, w_irev, w_ienum, w_range1, w_range2, w_zip, w_comp, s_next, flp_nx, flp_bk, flp_ct, flp_rt, flp_xx, s_seq, s_fz, fr_nil, fr_cons, fr_1, fr_o, fr_v, fr_u, s_set, kd_fz, kd_fl, kd_fi, s_ref, s_asgG, s_par, s_par3, s_ret, s_retV, s_retN, s_drop, s_if, s_no, s_bk, s_ct, s_for, plp_o, plp_r, llp_l, ilp_i, p_putu, s_app, s_put, p_putIu, s_attr, endP_nx, endP_rt, endP_xx, endP_bk, endP_ct, f_fn, f_init, at_0, ix_0, at_1, ix_1, at_2, ix_2, at_3, ix_3, at_4, ix_4, at_5, ix_5, at_6, ix_6, at_7, ix_7, at_8, ix_8, at_9, ix_9, at_10, ix_10, at_11, ix_11, rs_ref, rs_non, rs_bl, rs_int, rs_str, rs_tup, rs_scr, rs_lst, rs_dct, rs_ins, isL, atKs, atVs, gName, enS, List.map_cons, List.map_nil, List.length_cons, List.length_nil, List.cons_append, List.nil_append, List.getElem?_cons_succ, List.getElem?_cons_zero, List.set_cons_succ, List.set_cons_zero, List.replicate, Nat.reduceSub, Nat.reduceAdd, List.getD_cons_zero, List.getD_cons_succ, gTup, gAll, Option.bind_some, isTy, List.any_cons, List.any_nil, Bool.or_false, Bool.false_or, Bool.true_or, Bool.or_true, D.isNon, true_and, Bool.not_true, Bool.not_false, perm, Int.reduceToNat, Nat.reduceLT, Option.map_some, Nat.zero_lt_succ, decide_true, decide_false, Nat.lt_add_left_iff_pos, Nat.lt_add_one]
  refine (like_same 8 (.lst (ys.map D.int)) (pl_ints (by unfold maxLen; omega))).imp0 ?_
  rintro _ st9 ⟨rfl, rfl⟩
  simp only [wp_ok, wp_ex, wp_no, wp_bind, wp_bindS, wp_noX, slp_v, slp_o, rtp_v, rtp_o, kdp_fz, kdp_fl, kdp_fi, intp_i, blp_b, trp_b, trp_i, trp_l, trp_t, trp_n, optp_s, itp_t, itp_f, itp_nd, itp_ne, lsp_l, nbp_fz, nbp_fr, typ_int, typ_bl, typ_str, typ_non, typ_lst, typ_tup, icp_ins, icp_int, icp_bl, icp_str, icp_non, icp_lst, icp_tup, zpp_l, zpp_t, prp_i, w_var, w_cst, fzp_fz, fzp_fr, w_fzd, w_nil, w_cons, w_bin, w_idx, w_neg, o_add, o_sub, o_mul, o_fdiv, o_mod, o_pow, o_shl, o_shr, o_and, o_or, o_xor, o_eq, o_ne, o_neB, o_lt, o_le, o_gt, o_ge, o_ixl, o_ixt, o_addl, w_tup, w_lst, w_sl, w_eno, w_part, o_sll, o_sls, w_fld, o_fld, w_prop, w_call, w_callK, w_fun1, o_lenl, o_lent, o_listl, o_listt, o_tuplel, o_tuplet, o_int, o_intb, o_abs, o_all, o_any, o_sum, w_is, w_isC, w_isN, w_notN, w_chain, w_tval, w_tand, w_tor, w_tnot, w_yes, w_eand, w_eor, w_enot, w_eif, wkp_s, wk_l, wk_t, wk_r, wk_rl, w_ilist, w_irev, w_ienum, w_range1, w_range2, w_zip, w_comp, s_next, flp_nx, flp_bk, flp_ct, flp_rt, flp_xx, s_seq, s_fz, fr_nil, fr_cons, fr_1, fr_o, fr_v, fr_u, s_set, kd_fz, kd_fl, kd_fi, s_ref, s_asgG, s_par, s_par3, s_ret, s_retV, s_retN, s_drop, s_if, s_no, s_bk, s_ct, s_for, plp_o, plp_r, llp_l, ilp_i, p_putu, s_app, s_put, p_putIu, s_attr, endP_nx, endP_rt, endP_xx, endP_bk, endP_ct, f_fn, f_init, at_0, ix_0, at_1, ix_1, at_2, ix_2, at_3, ix_3, at_4, ix_4, at_5, ix_5, at_6, ix_6, at_7, ix_7, at_8, ix_8, at_9, ix_9, at_10, ix_10, at_11, ix_11, rs_ref, rs_non, rs_bl, rs_int, rs_str, rs_tup, rs_scr, rs_lst, rs_dct, rs_ins, isL, atKs, atVs, gName, enS, List.map_cons, List.map_nil, List.length_cons, List.length_nil, List.cons_append, List.nil_append, List.getElem?_cons_succ, List.getElem?_cons_zero, List.set_cons_succ, List.set_cons_zero, List.replicate, Nat.reduceSub, Nat.reduceAdd, List.getD_cons_zero, List.getD_cons_succ, gTup, gAll, Option.bind_some, isTy, List.any_cons, List.any_nil, Bool.or_false, Bool.false_or, Bool.true_or, Bool.or_true, D.isNon, true_and, Bool.not_true, Bool.not_false, perm, Int.reduceToNat, Nat.reduceLT, Option.map_some, Nat.zero_lt_succ, decide_true, decide_false, Nat.lt_add_left_iff_pos, Nat.lt_add_one, rs_five, five_3]
  refine ⟨decide_eq_true ⟨by omega, by omega⟩, comp_ok (fun i acc st' => ∃ xs : List Int, acc = xs.map D.int ∧ xs.length = i ∧ Bag rest st') ⟨[], rfl, rfl, hb5⟩ ?_ ?_⟩
  · rintro i d acc st4 hd ⟨xs, rfl, hl, hb4⟩
    obtain ⟨rfl, hi⟩ := rangeL_get hd
    refine ⟨_, rfl, ?_⟩
    rw [w_yes, if_pos rfl]
    simp only [wp_ok, wp_ex, wp_no, wp_bind, wp_bindS, wp_noX, slp_v, slp_o, rtp_v, rtp_o, kdp_fz, kdp_fl, kdp_fi, intp_i, blp_b, trp_b, trp_i, trp_l, trp_t, trp_n, optp_s, itp_t, itp_f, itp_nd, itp_ne, lsp_l, nbp_fz, nbp_fr, typ_int, typ_bl, typ_str, typ_non, typ_lst, typ_tup, icp_ins, icp_int, icp_bl, icp_str, icp_non, icp_lst, icp_tup, zpp_l, zpp_t, prp_i, w_var, w_cst, fzp_fz, fzp_fr, w_fzd, w_nil, w_cons, w_bin, w_idx, w_neg, o_add, o_sub, o_mul, o_fdiv, o_mod, o_pow, o_shl, o_shr, o_and, o_or, o_xor, o_eq, o_ne, o_neB, o_lt, o_le, o_gt, o_ge, o_ixl, o_ixt, o_addl, w_tup, w_lst, w_sl, w_eno, w_part, o_sll, o_sls, w_fld, o_fld, w_prop, w_call, w_callK, w_fun1, o_lenl, o_lent, o_listl, o_listt, o_tuplel, o_tuplet, o_int, o_intb, o_abs, o_all, o_any, o_sum, w_is, w_isC, w_isN, w_notN, w_chain, w_tval, w_tand, w_tor, w_tnot, w_yes, w_eand, w_eor, w_enot, w_eif, wkp_s, wk_l, wk_t, wk_r, wk_rl, w_ilist, w_irev, w_ienum, w_range1, w_range2, w_zip, w_comp, s_next, flp_nx, flp_bk, flp_ct, flp_rt, flp_xx, s_seq, s_fz, fr_nil, fr_cons, fr_1, fr_o, fr_v, fr_u, s_set, kd_fz, kd_fl, kd_fi, s_ref, s_asgG, s_par, s_par3, s_ret, s_retV, s_retN, s_drop, s_if, s_no, s_bk, s_ct, s_for, plp_o, plp_r, llp_l, ilp_i, p_putu, s_app, s_put, p_putIu, s_attr, endP_nx, endP_rt, endP_xx, endP_bk, endP_ct, f_fn, f_init, at_0, ix_0, at_1, ix_1, at_2, ix_2, at_3, ix_3, at_4, ix_4, at_5, ix_5, at_6, ix_6, at_7, ix_7, at_8, ix_8, at_9, ix_9, at_10, ix_10, at_11, ix_11, rs_ref, rs_non, rs_bl, rs_int, rs_str, rs_tup, rs_scr, rs_lst, rs_dct, rs_ins, isL, atKs, atVs, gName, enS, List.map_cons, List.map_nil, List.length_cons, List.length_nil, List.cons_append, List.nil_append, List.getElem?_cons_succ, List.getElem?_cons_zero, List.set_cons_succ, List.set_cons_zero, List.replicate, Nat.reduceSub, Nat.reduceAdd, List.getD_cons_zero, List.getD_cons_succ, gTup, gAll, Option.bind_some, isTy, List.any_cons, List.any_nil, Bool.or_false, Bool.false_or, Bool.true_or, Bool.or_true, D.isNon, true_and, Bool.not_true, Bool.not_false, perm, Int.reduceToNat, Nat.reduceLT, Option.map_some, Nat.zero_lt_succ, decide_true, decide_false, Nat.lt_add_left_iff_pos, Nat.lt_add_one, wipeE]
    refine (loose_ok hb4 hq).imp0 ?_
    rintro _ st5 ⟨k1, rfl, hb5⟩
    refine ⟨by rw [List.length_map, hl]; unfold maxLen; omega, xs ++ [k1], ?_, ?_⟩
    · rw [List.map_append]; rfl
    · exact ⟨by rw [List.length_append, hl]; rfl, hb5⟩
  rintro _ st10 ⟨xs, rfl, hl, hb10⟩
  rw [rangeL_len] at hl
  have hl : xs.length = 2 := hl
  have sn : s = ((s.toNat : Nat) : Int) := by omega
  have ecut : cut (ys.map D.int) none (some s) = (ys.take s.toNat).map D.int := by rw [sn, cut_pre, List.map_take, Int.toNat_natCast]
  simp only [wp_ok, wp_ex, wp_no, wp_bind, wp_bindS, wp_noX, slp_v, slp_o, rtp_v, rtp_o, kdp_fz, kdp_fl, kdp_fi, intp_i, blp_b, trp_b, trp_i, trp_l, trp_t, trp_n, optp_s, itp_t, itp_f, itp_nd, itp_ne, lsp_l, nbp_fz, nbp_fr, typ_int, typ_bl, typ_str, typ_non, typ_lst, typ_tup, icp_ins, icp_int, icp_bl, icp_str, icp_non, icp_lst, icp_tup, zpp_l, zpp_t, prp_i, w_var, w_cst, fzp_fz, fzp_fr, w_fzd, w_nil, w_cons, w_bin, w_idx, w_neg, o_add, o_sub, o_mul, o_fdiv, o_mod, o_pow, o_shl, o_shr, o_and, o_or, o_xor, o_eq, o_ne, o_neB, o_lt, o_le, o_gt, o_ge, o_ixl, o_ixt, o_addl, w_tup, w_lst, w_sl, w_eno, w_part, o_sll, o_sls, w_fld, o_fld, w_prop, w_call, w_callK, w_fun1, o_lenl, o_lent, o_listl, o_listt, o_tuplel, o_tuplet, o_int, o_intb, o_abs, o_all, o_any, o_sum, w_is, w_isC, w_isN, w_notN, w_chain, w_tval, w_tand, w_tor, w_tnot, w_yes, w_eand, w_eor, w_enot, w_eif, wkp_s, wk_l, wk_t, wk_r, wk_rl, w_ilist, w_irev, w_ienum, w_range1, w_range2, w_zip, w_comp, s_next, flp_nx, flp_bk, flp_ct, flp_rt, flp_xx, s_seq, s_fz, fr_nil, fr_cons, fr_1, fr_o, fr_v, fr_u, s_set, kd_fz, kd_fl, kd_fi, s_ref, s_asgG, s_par, s_par3, s_ret, s_retV, s_retN, s_drop, s_if, s_no, s_bk, s_ct, s_for, plp_o, plp_r, llp_l, ilp_i, p_putu, s_app, s_put, p_putIu, s_attr, endP_nx, endP_rt, endP_xx, endP_bk, endP_ct, f_fn, f_init, at_0, ix_0, at_1, ix_1, at_2, ix_2, at_3, ix_3, at_4, ix_4, at_5, ix_5, at_6, ix_6, at_7, ix_7, at_8, ix_8, at_9, ix_9, at_10, ix_10, at_11, ix_11, rs_ref, rs_non, rs_bl, rs_int, rs_str, rs_tup, rs_scr, rs_lst, rs_dct, rs_ins, isL, atKs, atVs, gName, enS, List.map_cons, List.map_nil, List.length_cons, List.length_nil, List.cons_append, List.nil_append, List.getElem?_cons_succ, List.getElem?_cons_zero, List.set_cons_succ, List.set_cons_zero, List.replicate, Nat.reduceSub, Nat.reduceAdd, List.getD_cons_zero, List.getD_cons_succ, gTup, gAll, Option.bind_some, isTy, List.any_cons, List.any_nil, Bool.or_false, Bool.false_or, Bool.true_or, Bool.or_true, D.isNon, true_and, Bool.not_true, Bool.not_false, perm, Int.reduceToNat, Nat.reduceLT, Option.map_some, Nat.zero_lt_succ, decide_true, decide_false, Nat.lt_add_left_iff_pos, Nat.lt_add_one, ecut]
  rw [← List.map_append]
  refine ⟨by rw [List.length_map, List.length_map, List.length_take, hl]; unfold maxLen; omega, ?_⟩
  simp only [wp_ok, wp_ex, wp_no, wp_bind, wp_bindS, wp_noX, slp_v, slp_o, rtp_v, rtp_o, kdp_fz, kdp_fl, kdp_fi, intp_i, blp_b, trp_b, trp_i, trp_l, trp_t, trp_n, optp_s, itp_t, itp_f, itp_nd, itp_ne, lsp_l, nbp_fz, nbp_fr, typ_int, typ_bl, typ_str, typ_non, typ_lst, typ_tup, icp_ins, icp_int, icp_bl, icp_str, icp_non, icp_lst, icp_tup, zpp_l, zpp_t, prp_i, w_var, w_cst, fzp_fz, fzp_fr, w_fzd, w_nil, w_cons, w_bin, w_idx, w_neg, o_add, o_sub, o_mul, o_fdiv, o_mod, o_pow, o_shl, o_shr, o_and, o_or, o_xor, o_eq, o_ne, o_neB, o_lt, o_le, o_gt, o_ge, o_ixl, o_ixt, o_addl, w_tup, w_lst, w_sl, w_eno, w_part, o_sll, o_sls, w_fld, o_fld, w_prop, w_call, w_callK, w_fun1, o_lenl, o_lent, o_listl, o_listt, o_tuplel, o_tuplet, o_int, o_intb, o_abs, o_all, o_any, o_sum, w_is, w_isC, w_isN, w_notN, w_chain, w_tval, w_tand, w_tor, w_tnot, w_yes, w_eand, w_eor, w_enot, w_eif, wkp_s, wk_l, wk_t, wk_r, wk_rl, w_ilist, w_irev, w_ienum, w_range1, w_range2, w_zip, w_comp, s_next, flp_nx, flp_bk, flp_ct, flp_rt, flp_xx, s_seq, s_fz, fr_nil, fr_cons, fr_1, fr_o, fr_v, fr_u, s_set, kd_fz, kd_fl, kd_fi, s_ref, s_asgG, s_par, s_par3, s_ret, s_retV, s_retN, s_drop, s_if, s_no, s_bk, s_ct, s_for, plp_o, plp_r, llp_l, ilp_i, p_putu, s_app, s_put, p_putIu, s_attr, endP_nx, endP_rt, endP_xx, endP_bk, endP_ct, f_fn, f_init, at_0, ix_0, at_1, ix_1, at_2, ix_2, at_3, ix_3, at_4, ix_4, at_5, ix_5, at_6, ix_6, at_7, ix_7, at_8, ix_8, at_9, ix_9, at_10, ix_10, at_11, ix_11, rs_ref, rs_non, rs_bl, rs_int, rs_str, rs_tup, rs_scr, rs_lst, rs_dct, rs_ins, isL, atKs, atVs, gName, enS, List.map_cons, List.map_nil, List.length_cons, List.length_nil, List.cons_append, List.nil_append, List.getElem?_cons_succ, List.getElem?_cons_zero, List.set_cons_succ, List.set_cons_zero, List.replicate, Nat.reduceSub, Nat.reduceAdd, List.getD_cons_zero, List.getD_cons_succ, gTup, gAll, Option.bind_some, isTy, List.any_cons, List.any_nil, Bool.or_false, Bool.false_or, Bool.true_or, Bool.or_true, D.isNon, true_and, Bool.not_true, Bool.not_false, perm, Int.reduceToNat, Nat.reduceLT, Option.map_some, Nat.zero_lt_succ, decide_true, decide_false, Nat.lt_add_left_iff_pos, Nat.lt_add_one, rs_five, five_3, List.length_map]
  have last : ∀ st', Bag rest st' → R.Wp (sFz [7] (sRet (eCall (w__law_like 8) (eCons (eCall w_whole (eCons (eCall w_digits (eCons (eVar 7) (eCons (eVar 1) (eNil)))) (eCons (eVar 1) (eNil)))) (eCons (eVar 7) (eNil))))) [.val (.ref 0), .val (frame l N B s w q), .val (five l N B s w), .val (.int q), .val (.int mn), .val (.lst (ys.map D.int)), .val (.tup (ys.map D.int)), .val (.int (wf B q ys)), .val (.lst ((ys.take s.toNat ++ xs).map D.int)), .un] st') (endP (fun p st' => p = (.bl true, .fz) ∧ Bag rest st') NX) NX := fun st' hb' => by
    simp only [wp_ok, wp_ex, wp_no, wp_bind, wp_bindS, wp_noX, slp_v, slp_o, rtp_v, rtp_o, kdp_fz, kdp_fl, kdp_fi, intp_i, blp_b, trp_b, trp_i, trp_l, trp_t, trp_n, optp_s, itp_t, itp_f, itp_nd, itp_ne, lsp_l, nbp_fz, nbp_fr, typ_int, typ_bl, typ_str, typ_non, typ_lst, typ_tup, icp_ins, icp_int, icp_bl, icp_str, icp_non, icp_lst, icp_tup, zpp_l, zpp_t, prp_i, w_var, w_cst, fzp_fz, fzp_fr, w_fzd, w_nil, w_cons, w_bin, w_idx, w_neg, o_add, o_sub, o_mul, o_fdiv, o_mod, o_pow, o_shl, o_shr, o_and, o_or, o_xor, o_eq, o_ne, o_neB, o_lt, o_le, o_gt, o_ge, o_ixl, o_ixt, o_addl, w_tup, w_lst, w_sl, w_eno, w_part, o_sll, o_sls, w_fld, o_fld, w_prop, w_call, w_callK, w_fun1, o_lenl, o_lent, o_listl, o_listt, o_tuplel, o_tuplet, o_int, o_intb, o_abs, o_all, o_any, o_sum, w_is, w_isC, w_isN, w_notN, w_chain, w_tval, w_tand, w_tor, w_tnot, w_yes, w_eand, w_eor, w_enot, w_eif, wkp_s, wk_l, wk_t, wk_r, wk_rl, w_ilist, w_irev, w_ienum, w_range1, w_range2, w_zip, w_comp, s_next, flp_nx, flp_bk, flp_ct, flp_rt, flp_xx, s_seq, s_fz, fr_nil, fr_cons, fr_1, fr_o, fr_v, fr_u, s_set, kd_fz, kd_fl, kd_fi, s_ref, s_asgG, s_par, s_par3, s_ret, s_retV, s_retN, s_drop, s_if, s_no, s_bk, s_ct, s_for, plp_o, plp_r, llp_l, ilp_i, p_putu, s_app, s_put, p_putIu, s_attr, endP_nx, endP_rt, endP_xx, endP_bk, endP_ct, f_fn, f_init, at_0, ix_0, at_1, ix_1, at_2, ix_2, at_3, ix_3, at_4, ix_4, at_5, ix_5, at_6, ix_6, at_7, ix_7, at_8, ix_8, at_9, ix_9, at_10, ix_10, at_11, ix_11, rs_ref, rs_non, rs_bl, rs_int, rs_str, rs_tup, rs_scr, rs_lst, rs_dct, rs_ins, isL, atKs, atVs, gName, enS, List.map_cons, List.map_nil, List.length_cons, List.length_nil, List.cons_append, List.nil_append, List.getElem?_cons_succ, List.getElem?_cons_zero, List.set_cons_succ, List.set_cons_zero, List.replicate, Nat.reduceSub, Nat.reduceAdd, List.getD_cons_zero, List.getD_cons_succ, gTup, gAll, Option.bind_some, isTy, List.any_cons, List.any_nil, Bool.or_false, Bool.false_or, Bool.true_or, Bool.or_true, D.isNon, true_and, Bool.not_true, Bool.not_false, perm, Int.reduceToNat, Nat.reduceLT, Option.map_some, Nat.zero_lt_succ, decide_true, decide_false, Nat.lt_add_left_iff_pos, Nat.lt_add_one]
    refine (digits_ok h _).imp0 ?_
    rintro _ st11 ⟨rfl, rfl⟩
    simp only [wp_ok, wp_ex, wp_no, wp_bind, wp_bindS, wp_noX, slp_v, slp_o, rtp_v, rtp_o, kdp_fz, kdp_fl, kdp_fi, intp_i, blp_b, trp_b, trp_i, trp_l, trp_t, trp_n, optp_s, itp_t, itp_f, itp_nd, itp_ne, lsp_l, nbp_fz, nbp_fr, typ_int, typ_bl, typ_str, typ_non, typ_lst, typ_tup, icp_ins, icp_int, icp_bl, icp_str, icp_non, icp_lst, icp_tup, zpp_l, zpp_t, prp_i, w_var, w_cst, fzp_fz, fzp_fr, w_fzd, w_nil, w_cons, w_bin, w_idx, w_neg, o_add, o_sub, o_mul, o_fdiv, o_mod, o_pow, o_shl, o_shr, o_and, o_or, o_xor, o_eq, o_ne, o_neB, o_lt, o_le, o_gt, o_ge, o_ixl, o_ixt, o_addl, w_tup, w_lst, w_sl, w_eno, w_part, o_sll, o_sls, w_fld, o_fld, w_prop, w_call, w_callK, w_fun1, o_lenl, o_lent, o_listl, o_listt, o_tuplel, o_tuplet, o_int, o_intb, o_abs, o_all, o_any, o_sum, w_is, w_isC, w_isN, w_notN, w_chain, w_tval, w_tand, w_tor, w_tnot, w_yes, w_eand, w_eor, w_enot, w_eif, wkp_s, wk_l, wk_t, wk_r, wk_rl, w_ilist, w_irev, w_ienum, w_range1, w_range2, w_zip, w_comp, s_next, flp_nx, flp_bk, flp_ct, flp_rt, flp_xx, s_seq, s_fz, fr_nil, fr_cons, fr_1, fr_o, fr_v, fr_u, s_set, kd_fz, kd_fl, kd_fi, s_ref, s_asgG, s_par, s_par3, s_ret, s_retV, s_retN, s_drop, s_if, s_no, s_bk, s_ct, s_for, plp_o, plp_r, llp_l, ilp_i, p_putu, s_app, s_put, p_putIu, s_attr, endP_nx, endP_rt, endP_xx, endP_bk, endP_ct, f_fn, f_init, at_0, ix_0, at_1, ix_1, at_2, ix_2, at_3, ix_3, at_4, ix_4, at_5, ix_5, at_6, ix_6, at_7, ix_7, at_8, ix_8, at_9, ix_9, at_10, ix_10, at_11, ix_11, rs_ref, rs_non, rs_bl, rs_int, rs_str, rs_tup, rs_scr, rs_lst, rs_dct, rs_ins, isL, atKs, atVs, gName, enS, List.map_cons, List.map_nil, List.length_cons, List.length_nil, List.cons_append, List.nil_append, List.getElem?_cons_succ, List.getElem?_cons_zero, List.set_cons_succ, List.set_cons_zero, List.replicate, Nat.reduceSub, Nat.reduceAdd, List.getD_cons_zero, List.getD_cons_succ, gTup, gAll, Option.bind_some, isTy, List.any_cons, List.any_nil, Bool.or_false, Bool.false_or, Bool.true_or, Bool.or_true, D.isNon, true_and, Bool.not_true, Bool.not_false, perm, Int.reduceToNat, Nat.reduceLT, Option.map_some, Nat.zero_lt_succ, decide_true, decide_false, Nat.lt_add_left_iff_pos, Nat.lt_add_one]
    refine (whole_gen h (gs := []) rfl rfl).imp0 ?_
    rintro _ st12 ⟨rfl, rfl⟩
    have e : wf B q (digs B s.toNat (wf B q ys % q)) = wf B q ys := by
      have := whole_mod B q (by omega) s.toNat h.qe (wf B q ys)
      have h2 : wf B q (digs B s.toNat (wf B q ys % q)) % q = wf B q ys % q := this
      rw [Int.emod_eq_of_lt (wf_lo hq _) (wf_hi hq _), Int.emod_eq_of_lt w0 w1] at h2
      rw [Int.emod_eq_of_lt w0 w1]
      exact h2
    rw [e]
    simp only [wp_ok, wp_ex, wp_no, wp_bind, wp_bindS, wp_noX, slp_v, slp_o, rtp_v, rtp_o, kdp_fz, kdp_fl, kdp_fi, intp_i, blp_b, trp_b, trp_i, trp_l, trp_t, trp_n, optp_s, itp_t, itp_f, itp_nd, itp_ne, lsp_l, nbp_fz, nbp_fr, typ_int, typ_bl, typ_str, typ_non, typ_lst, typ_tup, icp_ins, icp_int, icp_bl, icp_str, icp_non, icp_lst, icp_tup, zpp_l, zpp_t, prp_i, w_var, w_cst, fzp_fz, fzp_fr, w_fzd, w_nil, w_cons, w_bin, w_idx, w_neg, o_add, o_sub, o_mul, o_fdiv, o_mod, o_pow, o_shl, o_shr, o_and, o_or, o_xor, o_eq, o_ne, o_neB, o_lt, o_le, o_gt, o_ge, o_ixl, o_ixt, o_addl, w_tup, w_lst, w_sl, w_eno, w_part, o_sll, o_sls, w_fld, o_fld, w_prop, w_call, w_callK, w_fun1, o_lenl, o_lent, o_listl, o_listt, o_tuplel, o_tuplet, o_int, o_intb, o_abs, o_all, o_any, o_sum, w_is, w_isC, w_isN, w_notN, w_chain, w_tval, w_tand, w_tor, w_tnot, w_yes, w_eand, w_eor, w_enot, w_eif, wkp_s, wk_l, wk_t, wk_r, wk_rl, w_ilist, w_irev, w_ienum, w_range1, w_range2, w_zip, w_comp, s_next, flp_nx, flp_bk, flp_ct, flp_rt, flp_xx, s_seq, s_fz, fr_nil, fr_cons, fr_1, fr_o, fr_v, fr_u, s_set, kd_fz, kd_fl, kd_fi, s_ref, s_asgG, s_par, s_par3, s_ret, s_retV, s_retN, s_drop, s_if, s_no, s_bk, s_ct, s_for, plp_o, plp_r, llp_l, ilp_i, p_putu, s_app, s_put, p_putIu, s_attr, endP_nx, endP_rt, endP_xx, endP_bk, endP_ct, f_fn, f_init, at_0, ix_0, at_1, ix_1, at_2, ix_2, at_3, ix_3, at_4, ix_4, at_5, ix_5, at_6, ix_6, at_7, ix_7, at_8, ix_8, at_9, ix_9, at_10, ix_10, at_11, ix_11, rs_ref, rs_non, rs_bl, rs_int, rs_str, rs_tup, rs_scr, rs_lst, rs_dct, rs_ins, isL, atKs, atVs, gName, enS, List.map_cons, List.map_nil, List.length_cons, List.length_nil, List.cons_append, List.nil_append, List.getElem?_cons_succ, List.getElem?_cons_zero, List.set_cons_succ, List.set_cons_zero, List.replicate, Nat.reduceSub, Nat.reduceAdd, List.getD_cons_zero, List.getD_cons_succ, gTup, gAll, Option.bind_some, isTy, List.any_cons, List.any_nil, Bool.or_false, Bool.false_or, Bool.true_or, Bool.or_true, D.isNon, true_and, Bool.not_true, Bool.not_false, perm, Int.reduceToNat, Nat.reduceLT, Option.map_some, Nat.zero_lt_succ, decide_true, decide_false, Nat.lt_add_left_iff_pos, Nat.lt_add_one]
    refine (like_int 7 _ _).imp0 ?_
    rintro _ st13 ⟨rfl, rfl⟩
    rw [decide_eq_true rfl]
    simp only [wp_ok, wp_ex, wp_no, wp_bind, wp_bindS, wp_noX, slp_v, slp_o, rtp_v, rtp_o, kdp_fz, kdp_fl, kdp_fi, intp_i, blp_b, trp_b, trp_i, trp_l, trp_t, trp_n, optp_s, itp_t, itp_f, itp_nd, itp_ne, lsp_l, nbp_fz, nbp_fr, typ_int, typ_bl, typ_str, typ_non, typ_lst, typ_tup, icp_ins, icp_int, icp_bl, icp_str, icp_non, icp_lst, icp_tup, zpp_l, zpp_t, prp_i, w_var, w_cst, fzp_fz, fzp_fr, w_fzd, w_nil, w_cons, w_bin, w_idx, w_neg, o_add, o_sub, o_mul, o_fdiv, o_mod, o_pow, o_shl, o_shr, o_and, o_or, o_xor, o_eq, o_ne, o_neB, o_lt, o_le, o_gt, o_ge, o_ixl, o_ixt, o_addl, w_tup, w_lst, w_sl, w_eno, w_part, o_sll, o_sls, w_fld, o_fld, w_prop, w_call, w_callK, w_fun1, o_lenl, o_lent, o_listl, o_listt, o_tuplel, o_tuplet, o_int, o_intb, o_abs, o_all, o_any, o_sum, w_is, w_isC, w_isN, w_notN, w_chain, w_tval, w_tand, w_tor, w_tnot, w_yes, w_eand, w_eor, w_enot, w_eif, wkp_s, wk_l, wk_t, wk_r, wk_rl, w_ilist, w_irev, w_ienum, w_range1, w_range2, w_zip, w_comp, s_next, flp_nx, flp_bk, flp_ct, flp_rt, flp_xx, s_seq, s_fz, fr_nil, fr_cons, fr_1, fr_o, fr_v, fr_u, s_set, kd_fz, kd_fl, kd_fi, s_ref, s_asgG, s_par, s_par3, s_ret, s_retV, s_retN, s_drop, s_if, s_no, s_bk, s_ct, s_for, plp_o, plp_r, llp_l, ilp_i, p_putu, s_app, s_put, p_putIu, s_attr, endP_nx, endP_rt, endP_xx, endP_bk, endP_ct, f_fn, f_init, at_0, ix_0, at_1, ix_1, at_2, ix_2, at_3, ix_3, at_4, ix_4, at_5, ix_5, at_6, ix_6, at_7, ix_7, at_8, ix_8, at_9, ix_9, at_10, ix_10, at_11, ix_11, rs_ref, rs_non, rs_bl, rs_int, rs_str, rs_tup, rs_scr, rs_lst, rs_dct, rs_ins, isL, atKs, atVs, gName, enS, List.map_cons, List.map_nil, List.length_cons, List.length_nil, List.cons_append, List.nil_append, List.getElem?_cons_succ, List.getElem?_cons_zero, List.set_cons_succ, List.set_cons_zero, List.replicate, Nat.reduceSub, Nat.reduceAdd, List.getD_cons_zero, List.getD_cons_succ, gTup, gAll, Option.bind_some, isTy, List.any_cons, List.any_nil, Bool.or_false, Bool.false_or, Bool.true_or, Bool.or_true, D.isNon, true_and, Bool.not_true, Bool.not_false, perm, Int.reduceToNat, Nat.reduceLT, Option.map_some, Nat.zero_lt_succ, decide_true, decide_false, Nat.lt_add_left_iff_pos, Nat.lt_add_one]
    exact hb'
  refine itp_d (fun hge => ?_) fun _ => ?_
  · simp only [wp_ok, wp_ex, wp_no, wp_bind, wp_bindS, wp_noX, slp_v, slp_o, rtp_v, rtp_o, kdp_fz, kdp_fl, kdp_fi, intp_i, blp_b, trp_b, trp_i, trp_l, trp_t, trp_n, optp_s, itp_t, itp_f, itp_nd, itp_ne, lsp_l, nbp_fz, nbp_fr, typ_int, typ_bl, typ_str, typ_non, typ_lst, typ_tup, icp_ins, icp_int, icp_bl, icp_str, icp_non, icp_lst, icp_tup, zpp_l, zpp_t, prp_i, w_var, w_cst, fzp_fz, fzp_fr, w_fzd, w_nil, w_cons, w_bin, w_idx, w_neg, o_add, o_sub, o_mul, o_fdiv, o_mod, o_pow, o_shl, o_shr, o_and, o_or, o_xor, o_eq, o_ne, o_neB, o_lt, o_le, o_gt, o_ge, o_ixl, o_ixt, o_addl, w_tup, w_lst, w_sl, w_eno, w_part, o_sll, o_sls, w_fld, o_fld, w_prop, w_call, w_callK, w_fun1, o_lenl, o_lent, o_listl, o_listt, o_tuplel, o_tuplet, o_int, o_intb, o_abs, o_all, o_any, o_sum, w_is, w_isC, w_isN, w_notN, w_chain, w_tval, w_tand, w_tor, w_tnot, w_yes, w_eand, w_eor, w_enot, w_eif, wkp_s, wk_l, wk_t, wk_r, wk_rl, w_ilist, w_irev, w_ienum, w_range1, w_range2, w_zip, w_comp, s_next, flp_nx, flp_bk, flp_ct, flp_rt, flp_xx, s_seq, s_fz, fr_nil, fr_cons, fr_1, fr_o, fr_v, fr_u, s_set, kd_fz, kd_fl, kd_fi, s_ref, s_asgG, s_par, s_par3, s_ret, s_retV, s_retN, s_drop, s_if, s_no, s_bk, s_ct, s_for, plp_o, plp_r, llp_l, ilp_i, p_putu, s_app, s_put, p_putIu, s_attr, endP_nx, endP_rt, endP_xx, endP_bk, endP_ct, f_fn, f_init, at_0, ix_0, at_1, ix_1, at_2, ix_2, at_3, ix_3, at_4, ix_4, at_5, ix_5, at_6, ix_6, at_7, ix_7, at_8, ix_8, at_9, ix_9, at_10, ix_10, at_11, ix_11, rs_ref, rs_non, rs_bl, rs_int, rs_str, rs_tup, rs_scr, rs_lst, rs_dct, rs_ins, isL, atKs, atVs, gName, enS, List.map_cons, List.map_nil, List.length_cons, List.length_nil, List.cons_append, List.nil_append, List.getElem?_cons_succ, List.getElem?_cons_zero, List.set_cons_succ, List.set_cons_zero, List.replicate, Nat.reduceSub, Nat.reduceAdd, List.getD_cons_zero, List.getD_cons_succ, gTup, gAll, Option.bind_some, isTy, List.any_cons, List.any_nil, Bool.or_false, Bool.false_or, Bool.true_or, Bool.or_true, D.isNon, true_and, Bool.not_true, Bool.not_false, perm, Int.reduceToNat, Nat.reduceLT, Option.map_some, Nat.zero_lt_succ, decide_true, decide_false, Nat.lt_add_left_iff_pos, Nat.lt_add_one]
    refine (whole_gen h (gs := []) rfl rfl).imp0 ?_
    rintro _ st11 ⟨rfl, rfl⟩
    have htl : (ys.take s.toNat).length = s.toNat := by rw [List.length_take]; omega
    have ecut2 : cut ((ys.take s.toNat ++ xs).map D.int) none (some s) = (ys.take s.toNat).map D.int := by
      rw [sn, cut_pre, ← List.map_take, Int.toNat_natCast]
      congr 1
      exact List.take_left' htl
    simp only [wp_ok, wp_ex, wp_no, wp_bind, wp_bindS, wp_noX, slp_v, slp_o, rtp_v, rtp_o, kdp_fz, kdp_fl, kdp_fi, intp_i, blp_b, trp_b, trp_i, trp_l, trp_t, trp_n, optp_s, itp_t, itp_f, itp_nd, itp_ne, lsp_l, nbp_fz, nbp_fr, typ_int, typ_bl, typ_str, typ_non, typ_lst, typ_tup, icp_ins, icp_int, icp_bl, icp_str, icp_non, icp_lst, icp_tup, zpp_l, zpp_t, prp_i, w_var, w_cst, fzp_fz, fzp_fr, w_fzd, w_nil, w_cons, w_bin, w_idx, w_neg, o_add, o_sub, o_mul, o_fdiv, o_mod, o_pow, o_shl, o_shr, o_and, o_or, o_xor, o_eq, o_ne, o_neB, o_lt, o_le, o_gt, o_ge, o_ixl, o_ixt, o_addl, w_tup, w_lst, w_sl, w_eno, w_part, o_sll, o_sls, w_fld, o_fld, w_prop, w_call, w_callK, w_fun1, o_lenl, o_lent, o_listl, o_listt, o_tuplel, o_tuplet, o_int, o_intb, o_abs, o_all, o_any, o_sum, w_is, w_isC, w_isN, w_notN, w_chain, w_tval, w_tand, w_tor, w_tnot, w_yes, w_eand, w_eor, w_enot, w_eif, wkp_s, wk_l, wk_t, wk_r, wk_rl, w_ilist, w_irev, w_ienum, w_range1, w_range2, w_zip, w_comp, s_next, flp_nx, flp_bk, flp_ct, flp_rt, flp_xx, s_seq, s_fz, fr_nil, fr_cons, fr_1, fr_o, fr_v, fr_u, s_set, kd_fz, kd_fl, kd_fi, s_ref, s_asgG, s_par, s_par3, s_ret, s_retV, s_retN, s_drop, s_if, s_no, s_bk, s_ct, s_for, plp_o, plp_r, llp_l, ilp_i, p_putu, s_app, s_put, p_putIu, s_attr, endP_nx, endP_rt, endP_xx, endP_bk, endP_ct, f_fn, f_init, at_0, ix_0, at_1, ix_1, at_2, ix_2, at_3, ix_3, at_4, ix_4, at_5, ix_5, at_6, ix_6, at_7, ix_7, at_8, ix_8, at_9, ix_9, at_10, ix_10, at_11, ix_11, rs_ref, rs_non, rs_bl, rs_int, rs_str, rs_tup, rs_scr, rs_lst, rs_dct, rs_ins, isL, atKs, atVs, gName, enS, List.map_cons, List.map_nil, List.length_cons, List.length_nil, List.cons_append, List.nil_append, List.getElem?_cons_succ, List.getElem?_cons_zero, List.set_cons_succ, List.set_cons_zero, List.replicate, Nat.reduceSub, Nat.reduceAdd, List.getD_cons_zero, List.getD_cons_succ, gTup, gAll, Option.bind_some, isTy, List.any_cons, List.any_nil, Bool.or_false, Bool.false_or, Bool.true_or, Bool.or_true, D.isNon, true_and, Bool.not_true, Bool.not_false, perm, Int.reduceToNat, Nat.reduceLT, Option.map_some, Nat.zero_lt_succ, decide_true, decide_false, Nat.lt_add_left_iff_pos, Nat.lt_add_one, rs_five, five_3, ecut2]
    refine (whole_gen h (gs := []) rfl rfl).imp0 ?_
    rintro _ st12 ⟨rfl, rfl⟩
    have e : wf B q (ys.take s.toNat ++ xs) = wf B q (ys.take s.toNat) := by
      rw [wf_val hq, wf_val hq, val_app, htl, ← h.qe, Int.add_mul_emod_self_left]
    rw [e]
    simp only [wp_ok, wp_ex, wp_no, wp_bind, wp_bindS, wp_noX, slp_v, slp_o, rtp_v, rtp_o, kdp_fz, kdp_fl, kdp_fi, intp_i, blp_b, trp_b, trp_i, trp_l, trp_t, trp_n, optp_s, itp_t, itp_f, itp_nd, itp_ne, lsp_l, nbp_fz, nbp_fr, typ_int, typ_bl, typ_str, typ_non, typ_lst, typ_tup, icp_ins, icp_int, icp_bl, icp_str, icp_non, icp_lst, icp_tup, zpp_l, zpp_t, prp_i, w_var, w_cst, fzp_fz, fzp_fr, w_fzd, w_nil, w_cons, w_bin, w_idx, w_neg, o_add, o_sub, o_mul, o_fdiv, o_mod, o_pow, o_shl, o_shr, o_and, o_or, o_xor, o_eq, o_ne, o_neB, o_lt, o_le, o_gt, o_ge, o_ixl, o_ixt, o_addl, w_tup, w_lst, w_sl, w_eno, w_part, o_sll, o_sls, w_fld, o_fld, w_prop, w_call, w_callK, w_fun1, o_lenl, o_lent, o_listl, o_listt, o_tuplel, o_tuplet, o_int, o_intb, o_abs, o_all, o_any, o_sum, w_is, w_isC, w_isN, w_notN, w_chain, w_tval, w_tand, w_tor, w_tnot, w_yes, w_eand, w_eor, w_enot, w_eif, wkp_s, wk_l, wk_t, wk_r, wk_rl, w_ilist, w_irev, w_ienum, w_range1, w_range2, w_zip, w_comp, s_next, flp_nx, flp_bk, flp_ct, flp_rt, flp_xx, s_seq, s_fz, fr_nil, fr_cons, fr_1, fr_o, fr_v, fr_u, s_set, kd_fz, kd_fl, kd_fi, s_ref, s_asgG, s_par, s_par3, s_ret, s_retV, s_retN, s_drop, s_if, s_no, s_bk, s_ct, s_for, plp_o, plp_r, llp_l, ilp_i, p_putu, s_app, s_put, p_putIu, s_attr, endP_nx, endP_rt, endP_xx, endP_bk, endP_ct, f_fn, f_init, at_0, ix_0, at_1, ix_1, at_2, ix_2, at_3, ix_3, at_4, ix_4, at_5, ix_5, at_6, ix_6, at_7, ix_7, at_8, ix_8, at_9, ix_9, at_10, ix_10, at_11, ix_11, rs_ref, rs_non, rs_bl, rs_int, rs_str, rs_tup, rs_scr, rs_lst, rs_dct, rs_ins, isL, atKs, atVs, gName, enS, List.map_cons, List.map_nil, List.length_cons, List.length_nil, List.cons_append, List.nil_append, List.getElem?_cons_succ, List.getElem?_cons_zero, List.set_cons_succ, List.set_cons_zero, List.replicate, Nat.reduceSub, Nat.reduceAdd, List.getD_cons_zero, List.getD_cons_succ, gTup, gAll, Option.bind_some, isTy, List.any_cons, List.any_nil, Bool.or_false, Bool.false_or, Bool.true_or, Bool.or_true, D.isNon, true_and, Bool.not_true, Bool.not_false, perm, Int.reduceToNat, Nat.reduceLT, Option.map_some, Nat.zero_lt_succ, decide_true, decide_false, Nat.lt_add_left_iff_pos, Nat.lt_add_one]
    refine (like_int 7 _ _).imp0 ?_
    rintro _ st13 ⟨rfl, rfl⟩
    rw [decide_eq_true rfl]
    simp only [trp_b, rs_bl, Bool.not_true, itp_f, s_next, flp_nx]
    exact last _ hb10
  · simp only [s_next, flp_nx]
    exact last _ hb10
theorem rows_ok (h : Par l N B s w q g) (hb : Bag rest st) : (w__law_rows_so [.ref 0, frame l N B s w q, five l N B s w, .int q] st).Wp (fun p st' => p = (.bl true, .fz) ∧ Bag rest st') NX := by
  have hq := h.q0; have hB := h.B4; have hB2 := h.B6; have hs := h.s1; have hs8 := h.s8
  unfold w__law_rows_so
  rw [f_fn]
  unfold b__law_rows_so
  rw [s_seq]
  simp only [wp_ok, wp_ex, wp_no, wp_bind, wp_bindS, wp_noX, slp_v, slp_o, rtp_v, rtp_o, kdp_fz, kdp_fl, kdp_fi, intp_i, blp_b, trp_b, trp_i, trp_l, trp_t, trp_n, optp_s, itp_t, itp_f, itp_nd, itp_ne, lsp_l, nbp_fz, nbp_fr, typ_int, typ_bl, typ_str, typ_non, typ_lst, typ_tup, icp_ins, icp_int, icp_bl, icp_str, icp_non, icp_lst, icp_tup, zpp_l, zpp_t, prp_i, w_var, w_cst, fzp_fz, fzp_fr, w_fzd, w_nil, w_cons, w_bin, w_idx, w_neg, o_add, o_sub, o_mul, o_fdiv, o_mod, o_pow, o_shl, o_shr, o_and, o_or, o_xor, o_eq, o_ne, o_neB, o_lt, o_le, o_gt, o_ge, o_ixl, o_ixt, o_addl, w_tup, w_lst, w_sl, w_eno, w_part, o_sll, o_sls, w_fld, o_fld, w_prop, w_call, w_callK, w_fun1, o_lenl, o_lent, o_listl, o_listt, o_tuplel, o_tuplet, o_int, o_intb, o_abs, o_all, o_any, o_sum, w_is, w_isC, w_isN, w_notN, w_chain, w_tval, w_tand, w_tor, w_tnot, w_yes, w_eand, w_eor, w_enot, w_eif, wkp_s, wk_l, wk_t, wk_r, wk_rl, w_ilist, w_irev, w_ienum, w_range1, w_range2, w_zip, w_comp, s_next, flp_nx, flp_bk, flp_ct, flp_rt, flp_xx, s_fz, fr_nil, fr_cons, fr_1, fr_o, fr_v, fr_u, s_set, kd_fz, kd_fl, kd_fi, s_ref, s_asgG, s_par, s_par3, s_ret, s_retV, s_retN, s_drop, s_no, s_bk, s_ct, plp_o, plp_r, llp_l, ilp_i, p_putu, s_app, s_put, p_putIu, s_attr, endP_nx, endP_rt, endP_xx, endP_bk, endP_ct, f_fn, f_init, at_0, ix_0, at_1, ix_1, at_2, ix_2, at_3, ix_3, at_4, ix_4, at_5, ix_5, at_6, ix_6, at_7, ix_7, at_8, ix_8, at_9, ix_9, at_10, ix_10, at_11, ix_11, rs_ref, rs_non, rs_bl, rs_int, rs_str, rs_tup, rs_scr, rs_lst, rs_dct, rs_ins, isL, atKs, atVs, gName, enS, List.map_cons, List.map_nil, List.length_cons, List.length_nil, List.cons_append, List.nil_append, List.getElem?_cons_succ, List.getElem?_cons_zero, List.set_cons_succ, List.set_cons_zero, List.replicate, Nat.reduceSub, Nat.reduceAdd, List.getD_cons_zero, List.getD_cons_succ, gTup, gAll, Option.bind_some, isTy, List.any_cons, List.any_nil, Bool.or_false, Bool.false_or, Bool.true_or, Bool.or_true, D.isNon, true_and, Bool.not_true, Bool.not_false, perm, Int.reduceToNat, Nat.reduceLT, Option.map_some, Nat.zero_lt_succ, decide_true, decide_false, Nat.lt_add_left_iff_pos, Nat.lt_add_one, rs_five, five_3]
  refine (draw_ok hb (by decide) (big_of (by decide))).imp0 ?_
  rintro _ st1 ⟨r1, rfl, r10, r11, hb1⟩
  simp only [wp_ok, wp_ex, wp_no, wp_bind, wp_bindS, wp_noX, slp_v, slp_o, rtp_v, rtp_o, kdp_fz, kdp_fl, kdp_fi, intp_i, blp_b, trp_b, trp_i, trp_l, trp_t, trp_n, optp_s, itp_t, itp_f, itp_nd, itp_ne, lsp_l, nbp_fz, nbp_fr, typ_int, typ_bl, typ_str, typ_non, typ_lst, typ_tup, icp_ins, icp_int, icp_bl, icp_str, icp_non, icp_lst, icp_tup, zpp_l, zpp_t, prp_i, w_var, w_cst, fzp_fz, fzp_fr, w_fzd, w_nil, w_cons, w_bin, w_idx, w_neg, o_add, o_sub, o_mul, o_fdiv, o_mod, o_pow, o_shl, o_shr, o_and, o_or, o_xor, o_eq, o_ne, o_neB, o_lt, o_le, o_gt, o_ge, o_ixl, o_ixt, o_addl, w_tup, w_lst, w_sl, w_eno, w_part, o_sll, o_sls, w_fld, o_fld, w_prop, w_call, w_callK, w_fun1, o_lenl, o_lent, o_listl, o_listt, o_tuplel, o_tuplet, o_int, o_intb, o_abs, o_all, o_any, o_sum, w_is, w_isC, w_isN, w_notN, w_chain, w_tval, w_tand, w_tor, w_tnot, w_yes, w_eand, w_eor, w_enot, w_eif, wkp_s, wk_l, wk_t, wk_r, wk_rl, w_ilist, w_irev, w_ienum, w_range1, w_range2, w_zip, w_comp, s_next, flp_nx, flp_bk, flp_ct, flp_rt, flp_xx, s_fz, fr_nil, fr_cons, fr_1, fr_o, fr_v, fr_u, s_set, kd_fz, kd_fl, kd_fi, s_ref, s_asgG, s_par, s_par3, s_ret, s_retV, s_retN, s_drop, s_no, s_bk, s_ct, plp_o, plp_r, llp_l, ilp_i, p_putu, s_app, s_put, p_putIu, s_attr, endP_nx, endP_rt, endP_xx, endP_bk, endP_ct, f_fn, f_init, at_0, ix_0, at_1, ix_1, at_2, ix_2, at_3, ix_3, at_4, ix_4, at_5, ix_5, at_6, ix_6, at_7, ix_7, at_8, ix_8, at_9, ix_9, at_10, ix_10, at_11, ix_11, rs_ref, rs_non, rs_bl, rs_int, rs_str, rs_tup, rs_scr, rs_lst, rs_dct, rs_ins, isL, atKs, atVs, gName, enS, List.map_cons, List.map_nil, List.length_cons, List.length_nil, List.cons_append, List.nil_append, List.getElem?_cons_succ, List.getElem?_cons_zero, List.set_cons_succ, List.set_cons_zero, List.replicate, Nat.reduceSub, Nat.reduceAdd, List.getD_cons_zero, List.getD_cons_succ, gTup, gAll, Option.bind_some, isTy, List.any_cons, List.any_nil, Bool.or_false, Bool.false_or, Bool.true_or, Bool.or_true, D.isNon, true_and, Bool.not_true, Bool.not_false, perm, Int.reduceToNat, Nat.reduceLT, Option.map_some, Nat.zero_lt_succ, decide_true, decide_false, Nat.lt_add_left_iff_pos, Nat.lt_add_one]
  refine (draw_ok hb1 (by decide) (big_of (by decide))).imp0 ?_
  rintro _ st2 ⟨r2, rfl, r20, r21, hb2⟩
  simp only [wp_ok, wp_ex, wp_no, wp_bind, wp_bindS, wp_noX, slp_v, slp_o, rtp_v, rtp_o, kdp_fz, kdp_fl, kdp_fi, intp_i, blp_b, trp_b, trp_i, trp_l, trp_t, trp_n, optp_s, itp_t, itp_f, itp_nd, itp_ne, lsp_l, nbp_fz, nbp_fr, typ_int, typ_bl, typ_str, typ_non, typ_lst, typ_tup, icp_ins, icp_int, icp_bl, icp_str, icp_non, icp_lst, icp_tup, zpp_l, zpp_t, prp_i, w_var, w_cst, fzp_fz, fzp_fr, w_fzd, w_nil, w_cons, w_bin, w_idx, w_neg, o_add, o_sub, o_mul, o_fdiv, o_mod, o_pow, o_shl, o_shr, o_and, o_or, o_xor, o_eq, o_ne, o_neB, o_lt, o_le, o_gt, o_ge, o_ixl, o_ixt, o_addl, w_tup, w_lst, w_sl, w_eno, w_part, o_sll, o_sls, w_fld, o_fld, w_prop, w_call, w_callK, w_fun1, o_lenl, o_lent, o_listl, o_listt, o_tuplel, o_tuplet, o_int, o_intb, o_abs, o_all, o_any, o_sum, w_is, w_isC, w_isN, w_notN, w_chain, w_tval, w_tand, w_tor, w_tnot, w_yes, w_eand, w_eor, w_enot, w_eif, wkp_s, wk_l, wk_t, wk_r, wk_rl, w_ilist, w_irev, w_ienum, w_range1, w_range2, w_zip, w_comp, s_next, flp_nx, flp_bk, flp_ct, flp_rt, flp_xx, s_fz, fr_nil, fr_cons, fr_1, fr_o, fr_v, fr_u, s_set, kd_fz, kd_fl, kd_fi, s_ref, s_asgG, s_par, s_par3, s_ret, s_retV, s_retN, s_drop, s_no, s_bk, s_ct, plp_o, plp_r, llp_l, ilp_i, p_putu, s_app, s_put, p_putIu, s_attr, endP_nx, endP_rt, endP_xx, endP_bk, endP_ct, f_fn, f_init, at_0, ix_0, at_1, ix_1, at_2, ix_2, at_3, ix_3, at_4, ix_4, at_5, ix_5, at_6, ix_6, at_7, ix_7, at_8, ix_8, at_9, ix_9, at_10, ix_10, at_11, ix_11, rs_ref, rs_non, rs_bl, rs_int, rs_str, rs_tup, rs_scr, rs_lst, rs_dct, rs_ins, isL, atKs, atVs, gName, enS, List.map_cons, List.map_nil, List.length_cons, List.length_nil, List.cons_append, List.nil_append, List.getElem?_cons_succ, List.getElem?_cons_zero, List.set_cons_succ, List.set_cons_zero, List.replicate, Nat.reduceSub, Nat.reduceAdd, List.getD_cons_zero, List.getD_cons_succ, gTup, gAll, Option.bind_some, isTy, List.any_cons, List.any_nil, Bool.or_false, Bool.false_or, Bool.true_or, Bool.or_true, D.isNon, true_and, Bool.not_true, Bool.not_false, perm, Int.reduceToNat, Nat.reduceLT, Option.map_some, Nat.zero_lt_succ, decide_true, decide_false, Nat.lt_add_left_iff_pos, Nat.lt_add_one]
  refine ⟨by show (6 : Nat) ≤ maxLen; decide, (of_i (ks := [0, 1, s, s + 1, r1, r2]) hb2 (by simp) (by show (6 : Nat) < 1000; decide)).imp0 ?_⟩
  rintro _ st3 ⟨many, hm, rfl, hb3⟩
  have hm : 0 ≤ many ∧ many ≤ 20 := by
    simp only [List.mem_cons, List.not_mem_nil, or_false] at hm
    omega
  obtain ⟨mn, rfl⟩ := Int.eq_ofNat_of_zero_le hm.1
  simp only [wp_ok, wp_ex, wp_no, wp_bind, wp_bindS, wp_noX, slp_v, slp_o, rtp_v, rtp_o, kdp_fz, kdp_fl, kdp_fi, intp_i, blp_b, trp_b, trp_i, trp_l, trp_t, trp_n, optp_s, itp_t, itp_f, itp_nd, itp_ne, lsp_l, nbp_fz, nbp_fr, typ_int, typ_bl, typ_str, typ_non, typ_lst, typ_tup, icp_ins, icp_int, icp_bl, icp_str, icp_non, icp_lst, icp_tup, zpp_l, zpp_t, prp_i, w_var, w_cst, fzp_fz, fzp_fr, w_fzd, w_nil, w_cons, w_bin, w_idx, w_neg, o_add, o_sub, o_mul, o_fdiv, o_mod, o_pow, o_shl, o_shr, o_and, o_or, o_xor, o_eq, o_ne, o_neB, o_lt, o_le, o_gt, o_ge, o_ixl, o_ixt, o_addl, w_tup, w_lst, w_sl, w_eno, w_part, o_sll, o_sls, w_fld, o_fld, w_prop, w_call, w_callK, w_fun1, o_lenl, o_lent, o_listl, o_listt, o_tuplel, o_tuplet, o_int, o_intb, o_abs, o_all, o_any, o_sum, w_is, w_isC, w_isN, w_notN, w_chain, w_tval, w_tand, w_tor, w_tnot, w_yes, w_eand, w_eor, w_enot, w_eif, wkp_s, wk_l, wk_t, wk_r, wk_rl, w_ilist, w_irev, w_ienum, w_range1, w_range2, w_zip, w_comp, s_next, flp_nx, flp_bk, flp_ct, flp_rt, flp_xx, s_fz, fr_nil, fr_cons, fr_1, fr_o, fr_v, fr_u, s_set, kd_fz, kd_fl, kd_fi, s_ref, s_asgG, s_par, s_par3, s_ret, s_retV, s_retN, s_drop, s_no, s_bk, s_ct, plp_o, plp_r, llp_l, ilp_i, p_putu, s_app, s_put, p_putIu, s_attr, endP_nx, endP_rt, endP_xx, endP_bk, endP_ct, f_fn, f_init, at_0, ix_0, at_1, ix_1, at_2, ix_2, at_3, ix_3, at_4, ix_4, at_5, ix_5, at_6, ix_6, at_7, ix_7, at_8, ix_8, at_9, ix_9, at_10, ix_10, at_11, ix_11, rs_ref, rs_non, rs_bl, rs_int, rs_str, rs_tup, rs_scr, rs_lst, rs_dct, rs_ins, isL, atKs, atVs, gName, enS, List.map_cons, List.map_nil, List.length_cons, List.length_nil, List.cons_append, List.nil_append, List.getElem?_cons_succ, List.getElem?_cons_zero, List.set_cons_succ, List.set_cons_zero, List.replicate, Nat.reduceSub, Nat.reduceAdd, List.getD_cons_zero, List.getD_cons_succ, gTup, gAll, Option.bind_some, isTy, List.any_cons, List.any_nil, Bool.or_false, Bool.false_or, Bool.true_or, Bool.or_true, D.isNon, true_and, Bool.not_true, Bool.not_false, perm, Int.reduceToNat, Nat.reduceLT, Option.map_some, Nat.zero_lt_succ, decide_true, decide_false, Nat.lt_add_left_iff_pos, Nat.lt_add_one]
  rw [s_seq]
  simp only [wp_ok, wp_ex, wp_no, wp_bind, wp_bindS, wp_noX, slp_v, slp_o, rtp_v, rtp_o, kdp_fz, kdp_fl, kdp_fi, intp_i, blp_b, trp_b, trp_i, trp_l, trp_t, trp_n, optp_s, itp_t, itp_f, itp_nd, itp_ne, lsp_l, nbp_fz, nbp_fr, typ_int, typ_bl, typ_str, typ_non, typ_lst, typ_tup, icp_ins, icp_int, icp_bl, icp_str, icp_non, icp_lst, icp_tup, zpp_l, zpp_t, prp_i, w_var, w_cst, fzp_fz, fzp_fr, w_fzd, w_nil, w_cons, w_bin, w_idx, w_neg, o_add, o_sub, o_mul, o_fdiv, o_mod, o_pow, o_shl, o_shr, o_and, o_or, o_xor, o_eq, o_ne, o_neB, o_lt, o_le, o_gt, o_ge, o_ixl, o_ixt, o_addl, w_tup, w_lst, w_sl, w_eno, w_part, o_sll, o_sls, w_fld, o_fld, w_prop, w_call, w_callK, w_fun1, o_lenl, o_lent, o_listl, o_listt, o_tuplel, o_tuplet, o_int, o_intb, o_abs, o_all, o_any, o_sum, w_is, w_isC, w_isN, w_notN, w_chain, w_tval, w_tand, w_tor, w_tnot, w_yes, w_eand, w_eor, w_enot, w_eif, wkp_s, wk_l, wk_t, wk_r, wk_rl, w_ilist, w_irev, w_ienum, w_range1, w_range2, w_zip, w_comp, s_next, flp_nx, flp_bk, flp_ct, flp_rt, flp_xx, s_fz, fr_nil, fr_cons, fr_1, fr_o, fr_v, fr_u, s_set, kd_fz, kd_fl, kd_fi, s_ref, s_asgG, s_par, s_par3, s_ret, s_retV, s_retN, s_drop, s_no, s_bk, s_ct, plp_o, plp_r, llp_l, ilp_i, p_putu, s_app, s_put, p_putIu, s_attr, endP_nx, endP_rt, endP_xx, endP_bk, endP_ct, f_fn, f_init, at_0, ix_0, at_1, ix_1, at_2, ix_2, at_3, ix_3, at_4, ix_4, at_5, ix_5, at_6, ix_6, at_7, ix_7, at_8, ix_8, at_9, ix_9, at_10, ix_10, at_11, ix_11, rs_ref, rs_non, rs_bl, rs_int, rs_str, rs_tup, rs_scr, rs_lst, rs_dct, rs_ins, isL, atKs, atVs, gName, enS, List.map_cons, List.map_nil, List.length_cons, List.length_nil, List.cons_append, List.nil_append, List.getElem?_cons_succ, List.getElem?_cons_zero, List.set_cons_succ, List.set_cons_zero, List.replicate, Nat.reduceSub, Nat.reduceAdd, List.getD_cons_zero, List.getD_cons_succ, gTup, gAll, Option.bind_some, isTy, List.any_cons, List.any_nil, Bool.or_false, Bool.false_or, Bool.true_or, Bool.or_true, D.isNon, true_and, Bool.not_true, Bool.not_false, perm, Int.reduceToNat, Nat.reduceLT, Option.map_some, Nat.zero_lt_succ, decide_true, decide_false, Nat.lt_add_left_iff_pos, Nat.lt_add_one]
  refine ⟨decide_eq_true ⟨by omega, by omega⟩, comp_ok (fun i acc st' => ∃ xs : List Int, acc = xs.map D.int ∧ xs.length = i ∧ Bag rest st') ⟨[], rfl, rfl, hb3⟩ ?_ ?_⟩
  · rintro i d acc st4 hd ⟨xs, rfl, hl, hb4⟩
    obtain ⟨rfl, hi⟩ := rangeL_get hd
    refine ⟨_, rfl, ?_⟩
    rw [w_yes, if_pos rfl]
    simp only [wp_ok, wp_ex, wp_no, wp_bind, wp_bindS, wp_noX, slp_v, slp_o, rtp_v, rtp_o, kdp_fz, kdp_fl, kdp_fi, intp_i, blp_b, trp_b, trp_i, trp_l, trp_t, trp_n, optp_s, itp_t, itp_f, itp_nd, itp_ne, lsp_l, nbp_fz, nbp_fr, typ_int, typ_bl, typ_str, typ_non, typ_lst, typ_tup, icp_ins, icp_int, icp_bl, icp_str, icp_non, icp_lst, icp_tup, zpp_l, zpp_t, prp_i, w_var, w_cst, fzp_fz, fzp_fr, w_fzd, w_nil, w_cons, w_bin, w_idx, w_neg, o_add, o_sub, o_mul, o_fdiv, o_mod, o_pow, o_shl, o_shr, o_and, o_or, o_xor, o_eq, o_ne, o_neB, o_lt, o_le, o_gt, o_ge, o_ixl, o_ixt, o_addl, w_tup, w_lst, w_sl, w_eno, w_part, o_sll, o_sls, w_fld, o_fld, w_prop, w_call, w_callK, w_fun1, o_lenl, o_lent, o_listl, o_listt, o_tuplel, o_tuplet, o_int, o_intb, o_abs, o_all, o_any, o_sum, w_is, w_isC, w_isN, w_notN, w_chain, w_tval, w_tand, w_tor, w_tnot, w_yes, w_eand, w_eor, w_enot, w_eif, wkp_s, wk_l, wk_t, wk_r, wk_rl, w_ilist, w_irev, w_ienum, w_range1, w_range2, w_zip, w_comp, s_next, flp_nx, flp_bk, flp_ct, flp_rt, flp_xx, s_seq, s_fz, fr_nil, fr_cons, fr_1, fr_o, fr_v, fr_u, s_set, kd_fz, kd_fl, kd_fi, s_ref, s_asgG, s_par, s_par3, s_ret, s_retV, s_retN, s_drop, s_if, s_no, s_bk, s_ct, s_for, plp_o, plp_r, llp_l, ilp_i, p_putu, s_app, s_put, p_putIu, s_attr, endP_nx, endP_rt, endP_xx, endP_bk, endP_ct, f_fn, f_init, at_0, ix_0, at_1, ix_1, at_2, ix_2, at_3, ix_3, at_4, ix_4, at_5, ix_5, at_6, ix_6, at_7, ix_7, at_8, ix_8, at_9, ix_9, at_10, ix_10, at_11, ix_11, rs_ref, rs_non, rs_bl, rs_int, rs_str, rs_tup, rs_scr, rs_lst, rs_dct, rs_ins, isL, atKs, atVs, gName, enS, List.map_cons, List.map_nil, List.length_cons, List.length_nil, List.cons_append, List.nil_append, List.getElem?_cons_succ, List.getElem?_cons_zero, List.set_cons_succ, List.set_cons_zero, List.replicate, Nat.reduceSub, Nat.reduceAdd, List.getD_cons_zero, List.getD_cons_succ, gTup, gAll, Option.bind_some, isTy, List.any_cons, List.any_nil, Bool.or_false, Bool.false_or, Bool.true_or, Bool.or_true, D.isNon, true_and, Bool.not_true, Bool.not_false, perm, Int.reduceToNat, Nat.reduceLT, Option.map_some, Nat.zero_lt_succ, decide_true, decide_false, Nat.lt_add_left_iff_pos, Nat.lt_add_one, wipeE]
    refine (loose_ok hb4 hq).imp0 ?_
    rintro _ st5 ⟨k1, rfl, hb5⟩
    simp only [wp_ok, wp_ex, wp_no, wp_bind, wp_bindS, wp_noX, slp_v, slp_o, rtp_v, rtp_o, kdp_fz, kdp_fl, kdp_fi, intp_i, blp_b, trp_b, trp_i, trp_l, trp_t, trp_n, optp_s, itp_t, itp_f, itp_nd, itp_ne, lsp_l, nbp_fz, nbp_fr, typ_int, typ_bl, typ_str, typ_non, typ_lst, typ_tup, icp_ins, icp_int, icp_bl, icp_str, icp_non, icp_lst, icp_tup, zpp_l, zpp_t, prp_i, w_var, w_cst, fzp_fz, fzp_fr, w_fzd, w_nil, w_cons, w_bin, w_idx, w_neg, o_add, o_sub, o_mul, o_fdiv, o_mod, o_pow, o_shl, o_shr, o_and, o_or, o_xor, o_eq, o_ne, o_neB, o_lt, o_le, o_gt, o_ge, o_ixl, o_ixt, o_addl, w_tup, w_lst, w_sl, w_eno, w_part, o_sll, o_sls, w_fld, o_fld, w_prop, w_call, w_callK, w_fun1, o_lenl, o_lent, o_listl, o_listt, o_tuplel, o_tuplet, o_int, o_intb, o_abs, o_all, o_any, o_sum, w_is, w_isC, w_isN, w_notN, w_chain, w_tval, w_tand, w_tor, w_tnot, w_yes, w_eand, w_eor, w_enot, w_eif, wkp_s, wk_l, wk_t, wk_r, wk_rl, w_ilist, w_irev, w_ienum, w_range1, w_range2, w_zip, w_comp, s_next, flp_nx, flp_bk, flp_ct, flp_rt, flp_xx, s_seq, s_fz, fr_nil, fr_cons, fr_1, fr_o, fr_v, fr_u, s_set, kd_fz, kd_fl, kd_fi, s_ref, s_asgG, s_par, s_par3, s_ret, s_retV, s_retN, s_drop, s_if, s_no, s_bk, s_ct, s_for, plp_o, plp_r, llp_l, ilp_i, p_putu, s_app, s_put, p_putIu, s_attr, endP_nx, endP_rt, endP_xx, endP_bk, endP_ct, f_fn, f_init, at_0, ix_0, at_1, ix_1, at_2, ix_2, at_3, ix_3, at_4, ix_4, at_5, ix_5, at_6, ix_6, at_7, ix_7, at_8, ix_8, at_9, ix_9, at_10, ix_10, at_11, ix_11, rs_ref, rs_non, rs_bl, rs_int, rs_str, rs_tup, rs_scr, rs_lst, rs_dct, rs_ins, isL, atKs, atVs, gName, enS, List.map_cons, List.map_nil, List.length_cons, List.length_nil, List.cons_append, List.nil_append, List.getElem?_cons_succ, List.getElem?_cons_zero, List.set_cons_succ, List.set_cons_zero, List.replicate, Nat.reduceSub, Nat.reduceAdd, List.getD_cons_zero, List.getD_cons_succ, gTup, gAll, Option.bind_some, isTy, List.any_cons, List.any_nil, Bool.or_false, Bool.false_or, Bool.true_or, Bool.or_true, D.isNon, true_and, Bool.not_true, Bool.not_false, perm, Int.reduceToNat, Nat.reduceLT, Option.map_some, Nat.zero_lt_succ, decide_true, decide_false, Nat.lt_add_left_iff_pos, Nat.lt_add_one]
    refine (draw_ok hb5 (by decide) (big_of (by decide))).imp0 ?_
    rintro _ st6 ⟨k2, rfl, _, _, hb6⟩
    simp only [wp_ok, wp_ex, wp_no, wp_bind, wp_bindS, wp_noX, slp_v, slp_o, rtp_v, rtp_o, kdp_fz, kdp_fl, kdp_fi, intp_i, blp_b, trp_b, trp_i, trp_l, trp_t, trp_n, optp_s, itp_t, itp_f, itp_nd, itp_ne, lsp_l, nbp_fz, nbp_fr, typ_int, typ_bl, typ_str, typ_non, typ_lst, typ_tup, icp_ins, icp_int, icp_bl, icp_str, icp_non, icp_lst, icp_tup, zpp_l, zpp_t, prp_i, w_var, w_cst, fzp_fz, fzp_fr, w_fzd, w_nil, w_cons, w_bin, w_idx, w_neg, o_add, o_sub, o_mul, o_fdiv, o_mod, o_pow, o_shl, o_shr, o_and, o_or, o_xor, o_eq, o_ne, o_neB, o_lt, o_le, o_gt, o_ge, o_ixl, o_ixt, o_addl, w_tup, w_lst, w_sl, w_eno, w_part, o_sll, o_sls, w_fld, o_fld, w_prop, w_call, w_callK, w_fun1, o_lenl, o_lent, o_listl, o_listt, o_tuplel, o_tuplet, o_int, o_intb, o_abs, o_all, o_any, o_sum, w_is, w_isC, w_isN, w_notN, w_chain, w_tval, w_tand, w_tor, w_tnot, w_yes, w_eand, w_eor, w_enot, w_eif, wkp_s, wk_l, wk_t, wk_r, wk_rl, w_ilist, w_irev, w_ienum, w_range1, w_range2, w_zip, w_comp, s_next, flp_nx, flp_bk, flp_ct, flp_rt, flp_xx, s_seq, s_fz, fr_nil, fr_cons, fr_1, fr_o, fr_v, fr_u, s_set, kd_fz, kd_fl, kd_fi, s_ref, s_asgG, s_par, s_par3, s_ret, s_retV, s_retN, s_drop, s_if, s_no, s_bk, s_ct, s_for, plp_o, plp_r, llp_l, ilp_i, p_putu, s_app, s_put, p_putIu, s_attr, endP_nx, endP_rt, endP_xx, endP_bk, endP_ct, f_fn, f_init, at_0, ix_0, at_1, ix_1, at_2, ix_2, at_3, ix_3, at_4, ix_4, at_5, ix_5, at_6, ix_6, at_7, ix_7, at_8, ix_8, at_9, ix_9, at_10, ix_10, at_11, ix_11, rs_ref, rs_non, rs_bl, rs_int, rs_str, rs_tup, rs_scr, rs_lst, rs_dct, rs_ins, isL, atKs, atVs, gName, enS, List.map_cons, List.map_nil, List.length_cons, List.length_nil, List.cons_append, List.nil_append, List.getElem?_cons_succ, List.getElem?_cons_zero, List.set_cons_succ, List.set_cons_zero, List.replicate, Nat.reduceSub, Nat.reduceAdd, List.getD_cons_zero, List.getD_cons_succ, gTup, gAll, Option.bind_some, isTy, List.any_cons, List.any_nil, Bool.or_false, Bool.false_or, Bool.true_or, Bool.or_true, D.isNon, true_and, Bool.not_true, Bool.not_false, perm, Int.reduceToNat, Nat.reduceLT, Option.map_some, Nat.zero_lt_succ, decide_true, decide_false, Nat.lt_add_left_iff_pos, Nat.lt_add_one]
    refine ⟨by show (2 : Nat) ≤ maxLen; decide, (of_i (ks := [k1, k2 - 2]) hb6 (by simp) (by show (2 : Nat) < 1000; decide)).imp0 ?_⟩
    rintro _ st7 ⟨k, hk, rfl, hb7⟩
    refine ⟨by rw [List.length_map, hl]; unfold maxLen; omega, xs ++ [k], ?_, ?_⟩
    · rw [List.map_append]; rfl
    · exact ⟨by rw [List.length_append, hl]; rfl, hb7⟩
  rintro _ st4 ⟨xs, rfl, hl, hb4⟩
  rw [rangeL_len, Int.toNat_natCast] at hl
  show R.Wp (sSeq _ _ _ _) _ _
  rw [s_seq]
  refine R.Wp.imp (P := fun (f : Fl) st5 => ∃ ys : List Int, f = .nx [.val (.ref 0), .val (frame l N B s w q), .val (five l N B s w), .val (.int q), .val (.int mn), .own (.lst (ys.map D.int)), .un, .un, .un, .un] ∧ (ys.length : Int) ≤ 4000 ∧ Bag rest st5) ?_ ?_
  · simp only [wp_ok, wp_ex, wp_no, wp_bind, wp_bindS, wp_noX, slp_v, slp_o, rtp_v, rtp_o, kdp_fz, kdp_fl, kdp_fi, intp_i, blp_b, trp_b, trp_i, trp_l, trp_t, trp_n, optp_s, itp_t, itp_f, itp_nd, itp_ne, lsp_l, nbp_fz, nbp_fr, typ_int, typ_bl, typ_str, typ_non, typ_lst, typ_tup, icp_ins, icp_int, icp_bl, icp_str, icp_non, icp_lst, icp_tup, zpp_l, zpp_t, prp_i, w_var, w_cst, fzp_fz, fzp_fr, w_fzd, w_nil, w_cons, w_bin, w_idx, w_neg, o_add, o_sub, o_mul, o_fdiv, o_mod, o_pow, o_shl, o_shr, o_and, o_or, o_xor, o_eq, o_ne, o_neB, o_lt, o_le, o_gt, o_ge, o_ixl, o_ixt, o_addl, w_tup, w_lst, w_sl, w_eno, w_part, o_sll, o_sls, w_fld, o_fld, w_prop, w_call, w_callK, w_fun1, o_lenl, o_lent, o_listl, o_listt, o_tuplel, o_tuplet, o_int, o_intb, o_abs, o_all, o_any, o_sum, w_is, w_isC, w_isN, w_notN, w_chain, w_tval, w_tand, w_tor, w_tnot, w_yes, w_eand, w_eor, w_enot, w_eif, wkp_s, wk_l, wk_t, wk_r, wk_rl, w_ilist, w_irev, w_ienum, w_range1, w_range2, w_zip, w_comp, s_next, flp_nx, flp_bk, flp_ct, flp_rt, flp_xx, s_seq, s_fz, fr_nil, fr_cons, fr_1, fr_o, fr_v, fr_u, s_set, kd_fz, kd_fl, kd_fi, s_ref, s_asgG, s_par, s_par3, s_ret, s_retV, s_retN, s_drop, s_if, s_no, s_bk, s_ct, s_for, plp_o, plp_r, llp_l, ilp_i, p_putu, s_app, s_put, p_putIu, s_attr, endP_nx, endP_rt, endP_xx, endP_bk, endP_ct, f_fn, f_init, at_0, ix_0, at_1, ix_1, at_2, ix_2, at_3, ix_3, at_4, ix_4, at_5, ix_5, at_6, ix_6, at_7, ix_7, at_8, ix_8, at_9, ix_9, at_10, ix_10, at_11, ix_11, rs_ref, rs_non, rs_bl, rs_int, rs_str, rs_tup, rs_scr, rs_lst, rs_dct, rs_ins, isL, atKs, atVs, gName, enS, List.map_cons, List.map_nil, List.length_cons, List.length_nil, List.cons_append, List.nil_append, List.getElem?_cons_succ, List.getElem?_cons_zero, List.set_cons_succ, List.set_cons_zero, List.replicate, Nat.reduceSub, Nat.reduceAdd, List.getD_cons_zero, List.getD_cons_succ, gTup, gAll, Option.bind_some, isTy, List.any_cons, List.any_nil, Bool.or_false, Bool.false_or, Bool.true_or, Bool.or_true, D.isNon, true_and, Bool.not_true, Bool.not_false, perm, Int.reduceToNat, Nat.reduceLT, Option.map_some, Nat.zero_lt_succ, decide_true, decide_false, Nat.lt_add_left_iff_pos, Nat.lt_add_one]
    refine (draw_ok hb4 (by decide) (big_of (by decide))).imp0 ?_
    rintro _ st5 ⟨r, rfl, _, _, hb5⟩
    simp only [wp_ok, wp_ex, wp_no, wp_bind, wp_bindS, wp_noX, slp_v, slp_o, rtp_v, rtp_o, kdp_fz, kdp_fl, kdp_fi, intp_i, blp_b, trp_b, trp_i, trp_l, trp_t, trp_n, optp_s, itp_t, itp_f, itp_nd, itp_ne, lsp_l, nbp_fz, nbp_fr, typ_int, typ_bl, typ_str, typ_non, typ_lst, typ_tup, icp_ins, icp_int, icp_bl, icp_str, icp_non, icp_lst, icp_tup, zpp_l, zpp_t, prp_i, w_var, w_cst, fzp_fz, fzp_fr, w_fzd, w_nil, w_cons, w_bin, w_idx, w_neg, o_add, o_sub, o_mul, o_fdiv, o_mod, o_pow, o_shl, o_shr, o_and, o_or, o_xor, o_eq, o_ne, o_neB, o_lt, o_le, o_gt, o_ge, o_ixl, o_ixt, o_addl, w_tup, w_lst, w_sl, w_eno, w_part, o_sll, o_sls, w_fld, o_fld, w_prop, w_call, w_callK, w_fun1, o_lenl, o_lent, o_listl, o_listt, o_tuplel, o_tuplet, o_int, o_intb, o_abs, o_all, o_any, o_sum, w_is, w_isC, w_isN, w_notN, w_chain, w_tval, w_tand, w_tor, w_tnot, w_yes, w_eand, w_eor, w_enot, w_eif, wkp_s, wk_l, wk_t, wk_r, wk_rl, w_ilist, w_irev, w_ienum, w_range1, w_range2, w_zip, w_comp, s_next, flp_nx, flp_bk, flp_ct, flp_rt, flp_xx, s_seq, s_fz, fr_nil, fr_cons, fr_1, fr_o, fr_v, fr_u, s_set, kd_fz, kd_fl, kd_fi, s_ref, s_asgG, s_par, s_par3, s_ret, s_retV, s_retN, s_drop, s_if, s_no, s_bk, s_ct, s_for, plp_o, plp_r, llp_l, ilp_i, p_putu, s_app, s_put, p_putIu, s_attr, endP_nx, endP_rt, endP_xx, endP_bk, endP_ct, f_fn, f_init, at_0, ix_0, at_1, ix_1, at_2, ix_2, at_3, ix_3, at_4, ix_4, at_5, ix_5, at_6, ix_6, at_7, ix_7, at_8, ix_8, at_9, ix_9, at_10, ix_10, at_11, ix_11, rs_ref, rs_non, rs_bl, rs_int, rs_str, rs_tup, rs_scr, rs_lst, rs_dct, rs_ins, isL, atKs, atVs, gName, enS, List.map_cons, List.map_nil, List.length_cons, List.length_nil, List.cons_append, List.nil_append, List.getElem?_cons_succ, List.getElem?_cons_zero, List.set_cons_succ, List.set_cons_zero, List.replicate, Nat.reduceSub, Nat.reduceAdd, List.getD_cons_zero, List.getD_cons_succ, gTup, gAll, Option.bind_some, isTy, List.any_cons, List.any_nil, Bool.or_false, Bool.false_or, Bool.true_or, Bool.or_true, D.isNon, true_and, Bool.not_true, Bool.not_false, perm, Int.reduceToNat, Nat.reduceLT, Option.map_some, Nat.zero_lt_succ, decide_true, decide_false, Nat.lt_add_left_iff_pos, Nat.lt_add_one]
    refine itp_d (fun _ => ?_) fun _ => ?_
    · simp only [wp_ok, wp_ex, wp_no, wp_bind, wp_bindS, wp_noX, slp_v, slp_o, rtp_v, rtp_o, kdp_fz, kdp_fl, kdp_fi, intp_i, blp_b, trp_b, trp_i, trp_l, trp_t, trp_n, optp_s, itp_t, itp_f, itp_nd, itp_ne, lsp_l, nbp_fz, nbp_fr, typ_int, typ_bl, typ_str, typ_non, typ_lst, typ_tup, icp_ins, icp_int, icp_bl, icp_str, icp_non, icp_lst, icp_tup, zpp_l, zpp_t, prp_i, w_var, w_cst, fzp_fz, fzp_fr, w_fzd, w_nil, w_cons, w_bin, w_idx, w_neg, o_add, o_sub, o_mul, o_fdiv, o_mod, o_pow, o_shl, o_shr, o_and, o_or, o_xor, o_eq, o_ne, o_neB, o_lt, o_le, o_gt, o_ge, o_ixl, o_ixt, o_addl, w_tup, w_lst, w_sl, w_eno, w_part, o_sll, o_sls, w_fld, o_fld, w_prop, w_call, w_callK, w_fun1, o_lenl, o_lent, o_listl, o_listt, o_tuplel, o_tuplet, o_int, o_intb, o_abs, o_all, o_any, o_sum, w_is, w_isC, w_isN, w_notN, w_chain, w_tval, w_tand, w_tor, w_tnot, w_yes, w_eand, w_eor, w_enot, w_eif, wkp_s, wk_l, wk_t, wk_r, wk_rl, w_ilist, w_irev, w_ienum, w_range1, w_range2, w_zip, w_comp, s_next, flp_nx, flp_bk, flp_ct, flp_rt, flp_xx, s_seq, s_fz, fr_nil, fr_cons, fr_1, fr_o, fr_v, fr_u, s_set, kd_fz, kd_fl, kd_fi, s_ref, s_asgG, s_par, s_par3, s_ret, s_retV, s_retN, s_drop, s_if, s_no, s_bk, s_ct, s_for, plp_o, plp_r, llp_l, ilp_i, p_putu, s_app, s_put, p_putIu, s_attr, endP_nx, endP_rt, endP_xx, endP_bk, endP_ct, f_fn, f_init, at_0, ix_0, at_1, ix_1, at_2, ix_2, at_3, ix_3, at_4, ix_4, at_5, ix_5, at_6, ix_6, at_7, ix_7, at_8, ix_8, at_9, ix_9, at_10, ix_10, at_11, ix_11, rs_ref, rs_non, rs_bl, rs_int, rs_str, rs_tup, rs_scr, rs_lst, rs_dct, rs_ins, isL, atKs, atVs, gName, enS, List.map_cons, List.map_nil, List.length_cons, List.length_nil, List.cons_append, List.nil_append, List.getElem?_cons_succ, List.getElem?_cons_zero, List.set_cons_succ, List.set_cons_zero, List.replicate, Nat.reduceSub, Nat.reduceAdd, List.getD_cons_zero, List.getD_cons_succ, gTup, gAll, Option.bind_some, isTy, List.any_cons, List.any_nil, Bool.or_false, Bool.false_or, Bool.true_or, Bool.or_true, D.isNon, true_and, Bool.not_true, Bool.not_false, perm, Int.reduceToNat, Nat.reduceLT, Option.map_some, Nat.zero_lt_succ, decide_true, decide_false, Nat.lt_add_left_iff_pos, Nat.lt_add_one, o_repl, flat_map]
      have hd : 0 ≤ (200 : Int) / (1 + mn) ∧ (200 : Int) / (1 + mn) ≤ 200 := ⟨Int.ediv_nonneg (by decide) (by omega), Int.ediv_le_self _ (by decide)⟩
      have hk : ((200 : Int) / (1 + mn)).toNat * mn ≤ 4000 := Nat.le_trans (Nat.mul_le_mul (show ((200 : Int) / (1 + mn)).toNat ≤ 200 by omega) (show mn ≤ 20 by omega)) (Nat.le_refl _)
      refine ⟨⟨by omega, big_of (by omega)⟩, ⟨by unfold maxLen; omega, by unfold maxLen; omega, ?_⟩, _, rfl, ?_, hb5⟩
      · rw [List.length_map, hl, Nat.mul_comm]; unfold maxLen; omega
      · rw [flat_len, hl]; exact_mod_cast hk
    · exact ⟨xs, rfl, by omega, hb5⟩
  intro f st5 hf
  obtain ⟨ys, hf1, hy, hb5⟩ := hf
  rw [hf1, flp_nx]
  exact rows_tail h ys (by omega) hb5
theorem law_true (ns : List Int) (h : ns.length ≤ 63) (hb : ∀ k ∈ ns, Builtin.Int.intBits k ≤ 1048576) : ∃ st, w_law [.scr (ns.map D.int)] [] = .ok (.bl true, .fz) st := by
  have key : R.Wp (w_law [.scr (ns.map D.int)] []) (fun p _ => p = (.bl true, .fz)) NX := by
    unfold w_law
    rw [f_fn]
    unfold b_law
    simp only [wp_ok, wp_ex, wp_no, wp_bind, wp_bindS, wp_noX, slp_v, slp_o, rtp_v, rtp_o, kdp_fz, kdp_fl, kdp_fi, intp_i, blp_b, trp_b, trp_i, trp_l, trp_t, trp_n, optp_s, itp_t, itp_f, itp_nd, itp_ne, lsp_l, nbp_fz, nbp_fr, typ_int, typ_bl, typ_str, typ_non, typ_lst, typ_tup, icp_ins, icp_int, icp_bl, icp_str, icp_non, icp_lst, icp_tup, zpp_l, zpp_t, prp_i, w_var, w_cst, fzp_fz, fzp_fr, w_fzd, w_nil, w_cons, w_bin, w_idx, w_neg, o_add, o_sub, o_mul, o_fdiv, o_mod, o_pow, o_shl, o_shr, o_and, o_or, o_xor, o_eq, o_ne, o_neB, o_lt, o_le, o_gt, o_ge, o_ixl, o_ixt, o_addl, w_tup, w_lst, w_sl, w_eno, w_part, o_sll, o_sls, w_fld, o_fld, w_prop, w_call, w_callK, w_fun1, o_lenl, o_lent, o_listl, o_listt, o_tuplel, o_tuplet, o_int, o_intb, o_abs, o_all, o_any, o_sum, w_is, w_isC, w_isN, w_notN, w_chain, w_tval, w_tand, w_tor, w_tnot, w_yes, w_eand, w_eor, w_enot, w_eif, wkp_s, wk_l, wk_t, wk_r, wk_rl, w_ilist, w_irev, w_ienum, w_range1, w_range2, w_zip, w_comp, s_next, flp_nx, flp_bk, flp_ct, flp_rt, flp_xx, s_fz, fr_nil, fr_cons, fr_1, fr_o, fr_v, fr_u, s_set, kd_fz, kd_fl, kd_fi, s_ref, s_asgG, s_par, s_par3, s_ret, s_retV, s_retN, s_drop, s_no, s_bk, s_ct, plp_o, plp_r, llp_l, ilp_i, p_putu, s_app, s_put, p_putIu, s_attr, endP_nx, endP_rt, endP_xx, endP_bk, endP_ct, f_fn, f_init, at_0, ix_0, at_1, ix_1, at_2, ix_2, at_3, ix_3, at_4, ix_4, at_5, ix_5, at_6, ix_6, at_7, ix_7, at_8, ix_8, at_9, ix_9, at_10, ix_10, at_11, ix_11, rs_ref, rs_non, rs_bl, rs_int, rs_str, rs_tup, rs_scr, rs_lst, rs_dct, rs_ins, isL, atKs, atVs, gName, enS, List.map_cons, List.map_nil, List.length_cons, List.length_nil, List.cons_append, List.nil_append, List.getElem?_cons_succ, List.getElem?_cons_zero, List.set_cons_succ, List.set_cons_zero, List.replicate, Nat.reduceSub, Nat.reduceAdd, List.getD_cons_zero, List.getD_cons_succ, gTup, gAll, Option.bind_some, isTy, List.any_cons, List.any_nil, Bool.or_false, Bool.false_or, Bool.true_or, Bool.or_true, D.isNon, true_and, Bool.not_true, Bool.not_false, perm, Int.reduceToNat, Nat.reduceLT, Option.map_some, Nat.zero_lt_succ, decide_true, decide_false, Nat.lt_add_left_iff_pos, Nat.lt_add_one, s_seq]
    refine bag_ok.imp0 ?_
    rintro _ st1 ⟨xs, rfl, rfl, hb1⟩
    simp only [wp_ok, wp_ex, wp_no, wp_bind, wp_bindS, wp_noX, slp_v, slp_o, rtp_v, rtp_o, kdp_fz, kdp_fl, kdp_fi, intp_i, blp_b, trp_b, trp_i, trp_l, trp_t, trp_n, optp_s, itp_t, itp_f, itp_nd, itp_ne, lsp_l, nbp_fz, nbp_fr, typ_int, typ_bl, typ_str, typ_non, typ_lst, typ_tup, icp_ins, icp_int, icp_bl, icp_str, icp_non, icp_lst, icp_tup, zpp_l, zpp_t, prp_i, w_var, w_cst, fzp_fz, fzp_fr, w_fzd, w_nil, w_cons, w_bin, w_idx, w_neg, o_add, o_sub, o_mul, o_fdiv, o_mod, o_pow, o_shl, o_shr, o_and, o_or, o_xor, o_eq, o_ne, o_neB, o_lt, o_le, o_gt, o_ge, o_ixl, o_ixt, o_addl, w_tup, w_lst, w_sl, w_eno, w_part, o_sll, o_sls, w_fld, o_fld, w_prop, w_call, w_callK, w_fun1, o_lenl, o_lent, o_listl, o_listt, o_tuplel, o_tuplet, o_int, o_intb, o_abs, o_all, o_any, o_sum, w_is, w_isC, w_isN, w_notN, w_chain, w_tval, w_tand, w_tor, w_tnot, w_yes, w_eand, w_eor, w_enot, w_eif, wkp_s, wk_l, wk_t, wk_r, wk_rl, w_ilist, w_irev, w_ienum, w_range1, w_range2, w_zip, w_comp, s_next, flp_nx, flp_bk, flp_ct, flp_rt, flp_xx, s_fz, fr_nil, fr_cons, fr_1, fr_o, fr_v, fr_u, s_set, kd_fz, kd_fl, kd_fi, s_ref, s_asgG, s_par, s_par3, s_ret, s_retV, s_retN, s_drop, s_no, s_bk, s_ct, plp_o, plp_r, llp_l, ilp_i, p_putu, s_app, s_put, p_putIu, s_attr, endP_nx, endP_rt, endP_xx, endP_bk, endP_ct, f_fn, f_init, at_0, ix_0, at_1, ix_1, at_2, ix_2, at_3, ix_3, at_4, ix_4, at_5, ix_5, at_6, ix_6, at_7, ix_7, at_8, ix_8, at_9, ix_9, at_10, ix_10, at_11, ix_11, rs_ref, rs_non, rs_bl, rs_int, rs_str, rs_tup, rs_scr, rs_lst, rs_dct, rs_ins, isL, atKs, atVs, gName, enS, List.map_cons, List.map_nil, List.length_cons, List.length_nil, List.cons_append, List.nil_append, List.getElem?_cons_succ, List.getElem?_cons_zero, List.set_cons_succ, List.set_cons_zero, List.replicate, Nat.reduceSub, Nat.reduceAdd, List.getD_cons_zero, List.getD_cons_succ, gTup, gAll, Option.bind_some, isTy, List.any_cons, List.any_nil, Bool.or_false, Bool.false_or, Bool.true_or, Bool.or_true, D.isNon, true_and, Bool.not_true, Bool.not_false, perm, Int.reduceToNat, Nat.reduceLT, Option.map_some, Nat.zero_lt_succ, decide_true, decide_false, Nat.lt_add_left_iff_pos, Nat.lt_add_one, s_seq, s_for]
    refine ⟨by decide, for_ok (J := fun i ρ st' => ∃ s2 s3 s4 s5 s6 s7 s8 rest, ρ = [.val (.scr (ns.map D.int)), .val (.ref 0), s2, s3, s4, s5, s6, s7, s8] ∧ Bag rest st') ⟨_, _, _, _, _, _, _, _, rfl, hb1⟩ ?_ ?_⟩
    · rintro i d ρ st2 hd ⟨s2, s3, s4, s5, s6, s7, s8, r2, rfl, hb2⟩
      refine ⟨_, rfl, ?_⟩
      simp only [wp_ok, wp_ex, wp_no, wp_bind, wp_bindS, wp_noX, slp_v, slp_o, rtp_v, rtp_o, kdp_fz, kdp_fl, kdp_fi, intp_i, blp_b, trp_b, trp_i, trp_l, trp_t, trp_n, optp_s, itp_t, itp_f, itp_nd, itp_ne, lsp_l, nbp_fz, nbp_fr, typ_int, typ_bl, typ_str, typ_non, typ_lst, typ_tup, icp_ins, icp_int, icp_bl, icp_str, icp_non, icp_lst, icp_tup, zpp_l, zpp_t, prp_i, w_var, w_cst, fzp_fz, fzp_fr, w_fzd, w_nil, w_cons, w_bin, w_idx, w_neg, o_add, o_sub, o_mul, o_fdiv, o_mod, o_pow, o_shl, o_shr, o_and, o_or, o_xor, o_eq, o_ne, o_neB, o_lt, o_le, o_gt, o_ge, o_ixl, o_ixt, o_addl, w_tup, w_lst, w_sl, w_eno, w_part, o_sll, o_sls, w_fld, o_fld, w_prop, w_call, w_callK, w_fun1, o_lenl, o_lent, o_listl, o_listt, o_tuplel, o_tuplet, o_int, o_intb, o_abs, o_all, o_any, o_sum, w_is, w_isC, w_isN, w_notN, w_chain, w_tval, w_tand, w_tor, w_tnot, w_yes, w_eand, w_eor, w_enot, w_eif, wkp_s, wk_l, wk_t, wk_r, wk_rl, w_ilist, w_irev, w_ienum, w_range1, w_range2, w_zip, w_comp, s_next, flp_nx, flp_bk, flp_ct, flp_rt, flp_xx, s_fz, fr_nil, fr_cons, fr_1, fr_o, fr_v, fr_u, s_set, kd_fz, kd_fl, kd_fi, s_ref, s_asgG, s_par, s_par3, s_ret, s_retV, s_retN, s_drop, s_no, s_bk, s_ct, plp_o, plp_r, llp_l, ilp_i, p_putu, s_app, s_put, p_putIu, s_attr, endP_nx, endP_rt, endP_xx, endP_bk, endP_ct, f_fn, f_init, at_0, ix_0, at_1, ix_1, at_2, ix_2, at_3, ix_3, at_4, ix_4, at_5, ix_5, at_6, ix_6, at_7, ix_7, at_8, ix_8, at_9, ix_9, at_10, ix_10, at_11, ix_11, rs_ref, rs_non, rs_bl, rs_int, rs_str, rs_tup, rs_scr, rs_lst, rs_dct, rs_ins, isL, atKs, atVs, gName, enS, List.map_cons, List.map_nil, List.length_cons, List.length_nil, List.cons_append, List.nil_append, List.getElem?_cons_succ, List.getElem?_cons_zero, List.set_cons_succ, List.set_cons_zero, List.replicate, Nat.reduceSub, Nat.reduceAdd, List.getD_cons_zero, List.getD_cons_succ, gTup, gAll, Option.bind_some, isTy, List.any_cons, List.any_nil, Bool.or_false, Bool.false_or, Bool.true_or, Bool.or_true, D.isNon, true_and, Bool.not_true, Bool.not_false, perm, Int.reduceToNat, Nat.reduceLT, Option.map_some, Nat.zero_lt_succ, decide_true, decide_false, Nat.lt_add_left_iff_pos, Nat.lt_add_one, s_seq]
      refine (five_ok hb2).imp0 ?_
      rintro _ st3 ⟨l, N, B, s, w, q, g, rfl, P, hb3⟩
      have hq := P.q0; have hB := P.B4; have hB2 := P.B6; have hs := P.s1; have hs8 := P.s8
      simp only [wp_ok, wp_ex, wp_no, wp_bind, wp_bindS, wp_noX, slp_v, slp_o, rtp_v, rtp_o, kdp_fz, kdp_fl, kdp_fi, intp_i, blp_b, trp_b, trp_i, trp_l, trp_t, trp_n, optp_s, itp_t, itp_f, itp_nd, itp_ne, lsp_l, nbp_fz, nbp_fr, typ_int, typ_bl, typ_str, typ_non, typ_lst, typ_tup, icp_ins, icp_int, icp_bl, icp_str, icp_non, icp_lst, icp_tup, zpp_l, zpp_t, prp_i, w_var, w_cst, fzp_fz, fzp_fr, w_fzd, w_nil, w_cons, w_bin, w_idx, w_neg, o_add, o_sub, o_mul, o_fdiv, o_mod, o_pow, o_shl, o_shr, o_and, o_or, o_xor, o_eq, o_ne, o_neB, o_lt, o_le, o_gt, o_ge, o_ixl, o_ixt, o_addl, w_tup, w_lst, w_sl, w_eno, w_part, o_sll, o_sls, w_fld, o_fld, w_prop, w_call, w_callK, w_fun1, o_lenl, o_lent, o_listl, o_listt, o_tuplel, o_tuplet, o_int, o_intb, o_abs, o_all, o_any, o_sum, w_is, w_isC, w_isN, w_notN, w_chain, w_tval, w_tand, w_tor, w_tnot, w_yes, w_eand, w_eor, w_enot, w_eif, wkp_s, wk_l, wk_t, wk_r, wk_rl, w_ilist, w_irev, w_ienum, w_range1, w_range2, w_zip, w_comp, s_next, flp_nx, flp_bk, flp_ct, flp_rt, flp_xx, s_fz, fr_nil, fr_cons, fr_1, fr_o, fr_v, fr_u, s_set, kd_fz, kd_fl, kd_fi, s_ref, s_asgG, s_par, s_par3, s_ret, s_retV, s_retN, s_drop, s_no, s_bk, s_ct, plp_o, plp_r, llp_l, ilp_i, p_putu, s_app, s_put, p_putIu, s_attr, endP_nx, endP_rt, endP_xx, endP_bk, endP_ct, f_fn, f_init, at_0, ix_0, at_1, ix_1, at_2, ix_2, at_3, ix_3, at_4, ix_4, at_5, ix_5, at_6, ix_6, at_7, ix_7, at_8, ix_8, at_9, ix_9, at_10, ix_10, at_11, ix_11, rs_ref, rs_non, rs_bl, rs_int, rs_str, rs_tup, rs_scr, rs_lst, rs_dct, rs_ins, isL, atKs, atVs, gName, enS, List.map_cons, List.map_nil, List.length_cons, List.length_nil, List.cons_append, List.nil_append, List.getElem?_cons_succ, List.getElem?_cons_zero, List.set_cons_succ, List.set_cons_zero, List.replicate, Nat.reduceSub, Nat.reduceAdd, List.getD_cons_zero, List.getD_cons_succ, gTup, gAll, Option.bind_some, isTy, List.any_cons, List.any_nil, Bool.or_false, Bool.false_or, Bool.true_or, Bool.or_true, D.isNon, true_and, Bool.not_true, Bool.not_false, perm, Int.reduceToNat, Nat.reduceLT, Option.map_some, Nat.zero_lt_succ, decide_true, decide_false, Nat.lt_add_left_iff_pos, Nat.lt_add_one, s_seq]
      refine (lmod_ok P).imp0 ?_
      rintro _ st4 ⟨rfl, rfl⟩
      simp only [wp_ok, wp_ex, wp_no, wp_bind, wp_bindS, wp_noX, slp_v, slp_o, rtp_v, rtp_o, kdp_fz, kdp_fl, kdp_fi, intp_i, blp_b, trp_b, trp_i, trp_l, trp_t, trp_n, optp_s, itp_t, itp_f, itp_nd, itp_ne, lsp_l, nbp_fz, nbp_fr, typ_int, typ_bl, typ_str, typ_non, typ_lst, typ_tup, icp_ins, icp_int, icp_bl, icp_str, icp_non, icp_lst, icp_tup, zpp_l, zpp_t, prp_i, w_var, w_cst, fzp_fz, fzp_fr, w_fzd, w_nil, w_cons, w_bin, w_idx, w_neg, o_add, o_sub, o_mul, o_fdiv, o_mod, o_pow, o_shl, o_shr, o_and, o_or, o_xor, o_eq, o_ne, o_neB, o_lt, o_le, o_gt, o_ge, o_ixl, o_ixt, o_addl, w_tup, w_lst, w_sl, w_eno, w_part, o_sll, o_sls, w_fld, o_fld, w_prop, w_call, w_callK, w_fun1, o_lenl, o_lent, o_listl, o_listt, o_tuplel, o_tuplet, o_int, o_intb, o_abs, o_all, o_any, o_sum, w_is, w_isC, w_isN, w_notN, w_chain, w_tval, w_tand, w_tor, w_tnot, w_yes, w_eand, w_eor, w_enot, w_eif, wkp_s, wk_l, wk_t, wk_r, wk_rl, w_ilist, w_irev, w_ienum, w_range1, w_range2, w_zip, w_comp, s_next, flp_nx, flp_bk, flp_ct, flp_rt, flp_xx, s_fz, fr_nil, fr_cons, fr_1, fr_o, fr_v, fr_u, s_set, kd_fz, kd_fl, kd_fi, s_ref, s_asgG, s_par, s_par3, s_ret, s_retV, s_retN, s_drop, s_no, s_bk, s_ct, plp_o, plp_r, llp_l, ilp_i, p_putu, s_app, s_put, p_putIu, s_attr, endP_nx, endP_rt, endP_xx, endP_bk, endP_ct, f_fn, f_init, at_0, ix_0, at_1, ix_1, at_2, ix_2, at_3, ix_3, at_4, ix_4, at_5, ix_5, at_6, ix_6, at_7, ix_7, at_8, ix_8, at_9, ix_9, at_10, ix_10, at_11, ix_11, rs_ref, rs_non, rs_bl, rs_int, rs_str, rs_tup, rs_scr, rs_lst, rs_dct, rs_ins, isL, atKs, atVs, gName, enS, List.map_cons, List.map_nil, List.length_cons, List.length_nil, List.cons_append, List.nil_append, List.getElem?_cons_succ, List.getElem?_cons_zero, List.set_cons_succ, List.set_cons_zero, List.replicate, Nat.reduceSub, Nat.reduceAdd, List.getD_cons_zero, List.getD_cons_succ, gTup, gAll, Option.bind_some, isTy, List.any_cons, List.any_nil, Bool.or_false, Bool.false_or, Bool.true_or, Bool.or_true, D.isNon, true_and, Bool.not_true, Bool.not_false, perm, Int.reduceToNat, Nat.reduceLT, Option.map_some, Nat.zero_lt_succ, decide_true, decide_false, Nat.lt_add_left_iff_pos, Nat.lt_add_one]
      refine (frame_ok P).imp0 ?_
      rintro _ st5 ⟨rfl, rfl⟩
      simp only [wp_ok, wp_ex, wp_no, wp_bind, wp_bindS, wp_noX, slp_v, slp_o, rtp_v, rtp_o, kdp_fz, kdp_fl, kdp_fi, intp_i, blp_b, trp_b, trp_i, trp_l, trp_t, trp_n, optp_s, itp_t, itp_f, itp_nd, itp_ne, lsp_l, nbp_fz, nbp_fr, typ_int, typ_bl, typ_str, typ_non, typ_lst, typ_tup, icp_ins, icp_int, icp_bl, icp_str, icp_non, icp_lst, icp_tup, zpp_l, zpp_t, prp_i, w_var, w_cst, fzp_fz, fzp_fr, w_fzd, w_nil, w_cons, w_bin, w_idx, w_neg, o_add, o_sub, o_mul, o_fdiv, o_mod, o_pow, o_shl, o_shr, o_and, o_or, o_xor, o_eq, o_ne, o_neB, o_lt, o_le, o_gt, o_ge, o_ixl, o_ixt, o_addl, w_tup, w_lst, w_sl, w_eno, w_part, o_sll, o_sls, w_fld, o_fld, w_prop, w_call, w_callK, w_fun1, o_lenl, o_lent, o_listl, o_listt, o_tuplel, o_tuplet, o_int, o_intb, o_abs, o_all, o_any, o_sum, w_is, w_isC, w_isN, w_notN, w_chain, w_tval, w_tand, w_tor, w_tnot, w_yes, w_eand, w_eor, w_enot, w_eif, wkp_s, wk_l, wk_t, wk_r, wk_rl, w_ilist, w_irev, w_ienum, w_range1, w_range2, w_zip, w_comp, s_next, flp_nx, flp_bk, flp_ct, flp_rt, flp_xx, s_fz, fr_nil, fr_cons, fr_1, fr_o, fr_v, fr_u, s_set, kd_fz, kd_fl, kd_fi, s_ref, s_asgG, s_par, s_par3, s_ret, s_retV, s_retN, s_drop, s_no, s_bk, s_ct, plp_o, plp_r, llp_l, ilp_i, p_putu, s_app, s_put, p_putIu, s_attr, endP_nx, endP_rt, endP_xx, endP_bk, endP_ct, f_fn, f_init, at_0, ix_0, at_1, ix_1, at_2, ix_2, at_3, ix_3, at_4, ix_4, at_5, ix_5, at_6, ix_6, at_7, ix_7, at_8, ix_8, at_9, ix_9, at_10, ix_10, at_11, ix_11, rs_ref, rs_non, rs_bl, rs_int, rs_str, rs_tup, rs_scr, rs_lst, rs_dct, rs_ins, isL, atKs, atVs, gName, enS, List.map_cons, List.map_nil, List.length_cons, List.length_nil, List.cons_append, List.nil_append, List.getElem?_cons_succ, List.getElem?_cons_zero, List.set_cons_succ, List.set_cons_zero, List.replicate, Nat.reduceSub, Nat.reduceAdd, List.getD_cons_zero, List.getD_cons_succ, gTup, gAll, Option.bind_some, isTy, List.any_cons, List.any_nil, Bool.or_false, Bool.false_or, Bool.true_or, Bool.or_true, D.isNon, true_and, Bool.not_true, Bool.not_false, perm, Int.reduceToNat, Nat.reduceLT, Option.map_some, Nat.zero_lt_succ, decide_true, decide_false, Nat.lt_add_left_iff_pos, Nat.lt_add_one, s_seq, s_for]
      refine ⟨by decide, for_ok (J := fun i ρ st' => ∃ s2 s4 s7 s8 rest, ρ = [.val (.scr (ns.map D.int)), .val (.ref 0), s2, .val (five l N B s w), s4, .val (.int q), .val (frame l N B s w q), s7, s8] ∧ Bag rest st') ⟨_, _, _, _, _, rfl, hb3⟩ ?_ ?_⟩
      · rintro i d ρ st6 hd ⟨s2, s4, s7, s8, r6, rfl, hb6⟩
        refine ⟨_, rfl, ?_⟩
        simp only [wp_ok, wp_ex, wp_no, wp_bind, wp_bindS, wp_noX, slp_v, slp_o, rtp_v, rtp_o, kdp_fz, kdp_fl, kdp_fi, intp_i, blp_b, trp_b, trp_i, trp_l, trp_t, trp_n, optp_s, itp_t, itp_f, itp_nd, itp_ne, lsp_l, nbp_fz, nbp_fr, typ_int, typ_bl, typ_str, typ_non, typ_lst, typ_tup, icp_ins, icp_int, icp_bl, icp_str, icp_non, icp_lst, icp_tup, zpp_l, zpp_t, prp_i, w_var, w_cst, fzp_fz, fzp_fr, w_fzd, w_nil, w_cons, w_bin, w_idx, w_neg, o_add, o_sub, o_mul, o_fdiv, o_mod, o_pow, o_shl, o_shr, o_and, o_or, o_xor, o_eq, o_ne, o_neB, o_lt, o_le, o_gt, o_ge, o_ixl, o_ixt, o_addl, w_tup, w_lst, w_sl, w_eno, w_part, o_sll, o_sls, w_fld, o_fld, w_prop, w_call, w_callK, w_fun1, o_lenl, o_lent, o_listl, o_listt, o_tuplel, o_tuplet, o_int, o_intb, o_abs, o_all, o_any, o_sum, w_is, w_isC, w_isN, w_notN, w_chain, w_tval, w_tand, w_tor, w_tnot, w_yes, w_eand, w_eor, w_enot, w_eif, wkp_s, wk_l, wk_t, wk_r, wk_rl, w_ilist, w_irev, w_ienum, w_range1, w_range2, w_zip, w_comp, s_next, flp_nx, flp_bk, flp_ct, flp_rt, flp_xx, s_seq, s_fz, fr_nil, fr_cons, fr_1, fr_o, fr_v, fr_u, s_set, kd_fz, kd_fl, kd_fi, s_ref, s_asgG, s_par, s_par3, s_ret, s_retV, s_retN, s_drop, s_if, s_no, s_bk, s_ct, s_for, plp_o, plp_r, llp_l, ilp_i, p_putu, s_app, s_put, p_putIu, s_attr, endP_nx, endP_rt, endP_xx, endP_bk, endP_ct, f_fn, f_init, at_0, ix_0, at_1, ix_1, at_2, ix_2, at_3, ix_3, at_4, ix_4, at_5, ix_5, at_6, ix_6, at_7, ix_7, at_8, ix_8, at_9, ix_9, at_10, ix_10, at_11, ix_11, rs_ref, rs_non, rs_bl, rs_int, rs_str, rs_tup, rs_scr, rs_lst, rs_dct, rs_ins, isL, atKs, atVs, gName, enS, List.map_cons, List.map_nil, List.length_cons, List.length_nil, List.cons_append, List.nil_append, List.getElem?_cons_succ, List.getElem?_cons_zero, List.set_cons_succ, List.set_cons_zero, List.replicate, Nat.reduceSub, Nat.reduceAdd, List.getD_cons_zero, List.getD_cons_succ, gTup, gAll, Option.bind_some, isTy, List.any_cons, List.any_nil, Bool.or_false, Bool.false_or, Bool.true_or, Bool.or_true, D.isNon, true_and, Bool.not_true, Bool.not_false, perm, Int.reduceToNat, Nat.reduceLT, Option.map_some, Nat.zero_lt_succ, decide_true, decide_false, Nat.lt_add_left_iff_pos, Nat.lt_add_one]
        refine (loose_ok hb6 hq).imp0 ?_
        rintro _ st7 ⟨k, rfl, hb7⟩
        simp only [wp_ok, wp_ex, wp_no, wp_bind, wp_bindS, wp_noX, slp_v, slp_o, rtp_v, rtp_o, kdp_fz, kdp_fl, kdp_fi, intp_i, blp_b, trp_b, trp_i, trp_l, trp_t, trp_n, optp_s, itp_t, itp_f, itp_nd, itp_ne, lsp_l, nbp_fz, nbp_fr, typ_int, typ_bl, typ_str, typ_non, typ_lst, typ_tup, icp_ins, icp_int, icp_bl, icp_str, icp_non, icp_lst, icp_tup, zpp_l, zpp_t, prp_i, w_var, w_cst, fzp_fz, fzp_fr, w_fzd, w_nil, w_cons, w_bin, w_idx, w_neg, o_add, o_sub, o_mul, o_fdiv, o_mod, o_pow, o_shl, o_shr, o_and, o_or, o_xor, o_eq, o_ne, o_neB, o_lt, o_le, o_gt, o_ge, o_ixl, o_ixt, o_addl, w_tup, w_lst, w_sl, w_eno, w_part, o_sll, o_sls, w_fld, o_fld, w_prop, w_call, w_callK, w_fun1, o_lenl, o_lent, o_listl, o_listt, o_tuplel, o_tuplet, o_int, o_intb, o_abs, o_all, o_any, o_sum, w_is, w_isC, w_isN, w_notN, w_chain, w_tval, w_tand, w_tor, w_tnot, w_yes, w_eand, w_eor, w_enot, w_eif, wkp_s, wk_l, wk_t, wk_r, wk_rl, w_ilist, w_irev, w_ienum, w_range1, w_range2, w_zip, w_comp, s_next, flp_nx, flp_bk, flp_ct, flp_rt, flp_xx, s_seq, s_fz, fr_nil, fr_cons, fr_1, fr_o, fr_v, fr_u, s_set, kd_fz, kd_fl, kd_fi, s_ref, s_asgG, s_par, s_par3, s_ret, s_retV, s_retN, s_drop, s_if, s_no, s_bk, s_ct, s_for, plp_o, plp_r, llp_l, ilp_i, p_putu, s_app, s_put, p_putIu, s_attr, endP_nx, endP_rt, endP_xx, endP_bk, endP_ct, f_fn, f_init, at_0, ix_0, at_1, ix_1, at_2, ix_2, at_3, ix_3, at_4, ix_4, at_5, ix_5, at_6, ix_6, at_7, ix_7, at_8, ix_8, at_9, ix_9, at_10, ix_10, at_11, ix_11, rs_ref, rs_non, rs_bl, rs_int, rs_str, rs_tup, rs_scr, rs_lst, rs_dct, rs_ins, isL, atKs, atVs, gName, enS, List.map_cons, List.map_nil, List.length_cons, List.length_nil, List.cons_append, List.nil_append, List.getElem?_cons_succ, List.getElem?_cons_zero, List.set_cons_succ, List.set_cons_zero, List.replicate, Nat.reduceSub, Nat.reduceAdd, List.getD_cons_zero, List.getD_cons_succ, gTup, gAll, Option.bind_some, isTy, List.any_cons, List.any_nil, Bool.or_false, Bool.false_or, Bool.true_or, Bool.or_true, D.isNon, true_and, Bool.not_true, Bool.not_false, perm, Int.reduceToNat, Nat.reduceLT, Option.map_some, Nat.zero_lt_succ, decide_true, decide_false, Nat.lt_add_left_iff_pos, Nat.lt_add_one]
        refine (nso_ok P k hb7).imp0 ?_
        rintro _ st8 ⟨rfl, x8, hb8⟩
        simp only [wp_ok, wp_ex, wp_no, wp_bind, wp_bindS, wp_noX, slp_v, slp_o, rtp_v, rtp_o, kdp_fz, kdp_fl, kdp_fi, intp_i, blp_b, trp_b, trp_i, trp_l, trp_t, trp_n, optp_s, itp_t, itp_f, itp_nd, itp_ne, lsp_l, nbp_fz, nbp_fr, typ_int, typ_bl, typ_str, typ_non, typ_lst, typ_tup, icp_ins, icp_int, icp_bl, icp_str, icp_non, icp_lst, icp_tup, zpp_l, zpp_t, prp_i, w_var, w_cst, fzp_fz, fzp_fr, w_fzd, w_nil, w_cons, w_bin, w_idx, w_neg, o_add, o_sub, o_mul, o_fdiv, o_mod, o_pow, o_shl, o_shr, o_and, o_or, o_xor, o_eq, o_ne, o_neB, o_lt, o_le, o_gt, o_ge, o_ixl, o_ixt, o_addl, w_tup, w_lst, w_sl, w_eno, w_part, o_sll, o_sls, w_fld, o_fld, w_prop, w_call, w_callK, w_fun1, o_lenl, o_lent, o_listl, o_listt, o_tuplel, o_tuplet, o_int, o_intb, o_abs, o_all, o_any, o_sum, w_is, w_isC, w_isN, w_notN, w_chain, w_tval, w_tand, w_tor, w_tnot, w_yes, w_eand, w_eor, w_enot, w_eif, wkp_s, wk_l, wk_t, wk_r, wk_rl, w_ilist, w_irev, w_ienum, w_range1, w_range2, w_zip, w_comp, s_next, flp_nx, flp_bk, flp_ct, flp_rt, flp_xx, s_seq, s_fz, fr_nil, fr_cons, fr_1, fr_o, fr_v, fr_u, s_set, kd_fz, kd_fl, kd_fi, s_ref, s_asgG, s_par, s_par3, s_ret, s_retV, s_retN, s_drop, s_if, s_no, s_bk, s_ct, s_for, plp_o, plp_r, llp_l, ilp_i, p_putu, s_app, s_put, p_putIu, s_attr, endP_nx, endP_rt, endP_xx, endP_bk, endP_ct, f_fn, f_init, at_0, ix_0, at_1, ix_1, at_2, ix_2, at_3, ix_3, at_4, ix_4, at_5, ix_5, at_6, ix_6, at_7, ix_7, at_8, ix_8, at_9, ix_9, at_10, ix_10, at_11, ix_11, rs_ref, rs_non, rs_bl, rs_int, rs_str, rs_tup, rs_scr, rs_lst, rs_dct, rs_ins, isL, atKs, atVs, gName, enS, List.map_cons, List.map_nil, List.length_cons, List.length_nil, List.cons_append, List.nil_append, List.getElem?_cons_succ, List.getElem?_cons_zero, List.set_cons_succ, List.set_cons_zero, List.replicate, Nat.reduceSub, Nat.reduceAdd, List.getD_cons_zero, List.getD_cons_succ, gTup, gAll, Option.bind_some, isTy, List.any_cons, List.any_nil, Bool.or_false, Bool.false_or, Bool.true_or, Bool.or_true, D.isNon, true_and, Bool.not_true, Bool.not_false, perm, Int.reduceToNat, Nat.reduceLT, Option.map_some, Nat.zero_lt_succ, decide_true, decide_false, Nat.lt_add_left_iff_pos, Nat.lt_add_one]
        refine (drawn_ok P hb8).imp0 ?_
        rintro _ st9 ⟨xs, rfl, hl, hin, hb9⟩
        simp only [wp_ok, wp_ex, wp_no, wp_bind, wp_bindS, wp_noX, slp_v, slp_o, rtp_v, rtp_o, kdp_fz, kdp_fl, kdp_fi, intp_i, blp_b, trp_b, trp_i, trp_l, trp_t, trp_n, optp_s, itp_t, itp_f, itp_nd, itp_ne, lsp_l, nbp_fz, nbp_fr, typ_int, typ_bl, typ_str, typ_non, typ_lst, typ_tup, icp_ins, icp_int, icp_bl, icp_str, icp_non, icp_lst, icp_tup, zpp_l, zpp_t, prp_i, w_var, w_cst, fzp_fz, fzp_fr, w_fzd, w_nil, w_cons, w_bin, w_idx, w_neg, o_add, o_sub, o_mul, o_fdiv, o_mod, o_pow, o_shl, o_shr, o_and, o_or, o_xor, o_eq, o_ne, o_neB, o_lt, o_le, o_gt, o_ge, o_ixl, o_ixt, o_addl, w_tup, w_lst, w_sl, w_eno, w_part, o_sll, o_sls, w_fld, o_fld, w_prop, w_call, w_callK, w_fun1, o_lenl, o_lent, o_listl, o_listt, o_tuplel, o_tuplet, o_int, o_intb, o_abs, o_all, o_any, o_sum, w_is, w_isC, w_isN, w_notN, w_chain, w_tval, w_tand, w_tor, w_tnot, w_yes, w_eand, w_eor, w_enot, w_eif, wkp_s, wk_l, wk_t, wk_r, wk_rl, w_ilist, w_irev, w_ienum, w_range1, w_range2, w_zip, w_comp, s_next, flp_nx, flp_bk, flp_ct, flp_rt, flp_xx, s_seq, s_fz, fr_nil, fr_cons, fr_1, fr_o, fr_v, fr_u, s_set, kd_fz, kd_fl, kd_fi, s_ref, s_asgG, s_par, s_par3, s_ret, s_retV, s_retN, s_drop, s_if, s_no, s_bk, s_ct, s_for, plp_o, plp_r, llp_l, ilp_i, p_putu, s_app, s_put, p_putIu, s_attr, endP_nx, endP_rt, endP_xx, endP_bk, endP_ct, f_fn, f_init, at_0, ix_0, at_1, ix_1, at_2, ix_2, at_3, ix_3, at_4, ix_4, at_5, ix_5, at_6, ix_6, at_7, ix_7, at_8, ix_8, at_9, ix_9, at_10, ix_10, at_11, ix_11, rs_ref, rs_non, rs_bl, rs_int, rs_str, rs_tup, rs_scr, rs_lst, rs_dct, rs_ins, isL, atKs, atVs, gName, enS, List.map_cons, List.map_nil, List.length_cons, List.length_nil, List.cons_append, List.nil_append, List.getElem?_cons_succ, List.getElem?_cons_zero, List.set_cons_succ, List.set_cons_zero, List.replicate, Nat.reduceSub, Nat.reduceAdd, List.getD_cons_zero, List.getD_cons_succ, gTup, gAll, Option.bind_some, isTy, List.any_cons, List.any_nil, Bool.or_false, Bool.false_or, Bool.true_or, Bool.or_true, D.isNon, true_and, Bool.not_true, Bool.not_false, perm, Int.reduceToNat, Nat.reduceLT, Option.map_some, Nat.zero_lt_succ, decide_true, decide_false, Nat.lt_add_left_iff_pos, Nat.lt_add_one, rs_five, five_2]
        refine (sum_ok hq hB hB2 (by omega) rfl).imp0 ?_
        rintro _ st10 ⟨rfl, rfl⟩
        simp only [wp_ok, wp_ex, wp_no, wp_bind, wp_bindS, wp_noX, slp_v, slp_o, rtp_v, rtp_o, kdp_fz, kdp_fl, kdp_fi, intp_i, blp_b, trp_b, trp_i, trp_l, trp_t, trp_n, optp_s, itp_t, itp_f, itp_nd, itp_ne, lsp_l, nbp_fz, nbp_fr, typ_int, typ_bl, typ_str, typ_non, typ_lst, typ_tup, icp_ins, icp_int, icp_bl, icp_str, icp_non, icp_lst, icp_tup, zpp_l, zpp_t, prp_i, w_var, w_cst, fzp_fz, fzp_fr, w_fzd, w_nil, w_cons, w_bin, w_idx, w_neg, o_add, o_sub, o_mul, o_fdiv, o_mod, o_pow, o_shl, o_shr, o_and, o_or, o_xor, o_eq, o_ne, o_neB, o_lt, o_le, o_gt, o_ge, o_ixl, o_ixt, o_addl, w_tup, w_lst, w_sl, w_eno, w_part, o_sll, o_sls, w_fld, o_fld, w_prop, w_call, w_callK, w_fun1, o_lenl, o_lent, o_listl, o_listt, o_tuplel, o_tuplet, o_int, o_intb, o_abs, o_all, o_any, o_sum, w_is, w_isC, w_isN, w_notN, w_chain, w_tval, w_tand, w_tor, w_tnot, w_yes, w_eand, w_eor, w_enot, w_eif, wkp_s, wk_l, wk_t, wk_r, wk_rl, w_ilist, w_irev, w_ienum, w_range1, w_range2, w_zip, w_comp, s_next, flp_nx, flp_bk, flp_ct, flp_rt, flp_xx, s_seq, s_fz, fr_nil, fr_cons, fr_1, fr_o, fr_v, fr_u, s_set, kd_fz, kd_fl, kd_fi, s_ref, s_asgG, s_par, s_par3, s_ret, s_retV, s_retN, s_drop, s_if, s_no, s_bk, s_ct, s_for, plp_o, plp_r, llp_l, ilp_i, p_putu, s_app, s_put, p_putIu, s_attr, endP_nx, endP_rt, endP_xx, endP_bk, endP_ct, f_fn, f_init, at_0, ix_0, at_1, ix_1, at_2, ix_2, at_3, ix_3, at_4, ix_4, at_5, ix_5, at_6, ix_6, at_7, ix_7, at_8, ix_8, at_9, ix_9, at_10, ix_10, at_11, ix_11, rs_ref, rs_non, rs_bl, rs_int, rs_str, rs_tup, rs_scr, rs_lst, rs_dct, rs_ins, isL, atKs, atVs, gName, enS, List.map_cons, List.map_nil, List.length_cons, List.length_nil, List.cons_append, List.nil_append, List.getElem?_cons_succ, List.getElem?_cons_zero, List.set_cons_succ, List.set_cons_zero, List.replicate, Nat.reduceSub, Nat.reduceAdd, List.getD_cons_zero, List.getD_cons_succ, gTup, gAll, Option.bind_some, isTy, List.any_cons, List.any_nil, Bool.or_false, Bool.false_or, Bool.true_or, Bool.or_true, D.isNon, true_and, Bool.not_true, Bool.not_false, perm, Int.reduceToNat, Nat.reduceLT, Option.map_some, Nat.zero_lt_succ, decide_true, decide_false, Nat.lt_add_left_iff_pos, Nat.lt_add_one]
        refine ⟨by decide, (of_i (ks := [0, 1, 0 - 1, 12]) hb9 (by simp) (by decide)).imp0 ?_⟩
        rintro _ st11 ⟨m, hm, rfl, hb11⟩
        have hm : -(2 ^ 64) < m ∧ m < 2 ^ 64 := by
          simp only [List.mem_cons, List.not_mem_nil, or_false] at hm
          omega
        simp only [wp_ok, wp_ex, wp_no, wp_bind, wp_bindS, wp_noX, slp_v, slp_o, rtp_v, rtp_o, kdp_fz, kdp_fl, kdp_fi, intp_i, blp_b, trp_b, trp_i, trp_l, trp_t, trp_n, optp_s, itp_t, itp_f, itp_nd, itp_ne, lsp_l, nbp_fz, nbp_fr, typ_int, typ_bl, typ_str, typ_non, typ_lst, typ_tup, icp_ins, icp_int, icp_bl, icp_str, icp_non, icp_lst, icp_tup, zpp_l, zpp_t, prp_i, w_var, w_cst, fzp_fz, fzp_fr, w_fzd, w_nil, w_cons, w_bin, w_idx, w_neg, o_add, o_sub, o_mul, o_fdiv, o_mod, o_pow, o_shl, o_shr, o_and, o_or, o_xor, o_eq, o_ne, o_neB, o_lt, o_le, o_gt, o_ge, o_ixl, o_ixt, o_addl, w_tup, w_lst, w_sl, w_eno, w_part, o_sll, o_sls, w_fld, o_fld, w_prop, w_call, w_callK, w_fun1, o_lenl, o_lent, o_listl, o_listt, o_tuplel, o_tuplet, o_int, o_intb, o_abs, o_all, o_any, o_sum, w_is, w_isC, w_isN, w_notN, w_chain, w_tval, w_tand, w_tor, w_tnot, w_yes, w_eand, w_eor, w_enot, w_eif, wkp_s, wk_l, wk_t, wk_r, wk_rl, w_ilist, w_irev, w_ienum, w_range1, w_range2, w_zip, w_comp, s_next, flp_nx, flp_bk, flp_ct, flp_rt, flp_xx, s_seq, s_fz, fr_nil, fr_cons, fr_1, fr_o, fr_v, fr_u, s_set, kd_fz, kd_fl, kd_fi, s_ref, s_asgG, s_par, s_par3, s_ret, s_retV, s_retN, s_drop, s_if, s_no, s_bk, s_ct, s_for, plp_o, plp_r, llp_l, ilp_i, p_putu, s_app, s_put, p_putIu, s_attr, endP_nx, endP_rt, endP_xx, endP_bk, endP_ct, f_fn, f_init, at_0, ix_0, at_1, ix_1, at_2, ix_2, at_3, ix_3, at_4, ix_4, at_5, ix_5, at_6, ix_6, at_7, ix_7, at_8, ix_8, at_9, ix_9, at_10, ix_10, at_11, ix_11, rs_ref, rs_non, rs_bl, rs_int, rs_str, rs_tup, rs_scr, rs_lst, rs_dct, rs_ins, isL, atKs, atVs, gName, enS, List.map_cons, List.map_nil, List.length_cons, List.length_nil, List.cons_append, List.nil_append, List.getElem?_cons_succ, List.getElem?_cons_zero, List.set_cons_succ, List.set_cons_zero, List.replicate, Nat.reduceSub, Nat.reduceAdd, List.getD_cons_zero, List.getD_cons_succ, gTup, gAll, Option.bind_some, isTy, List.any_cons, List.any_nil, Bool.or_false, Bool.false_or, Bool.true_or, Bool.or_true, D.isNon, true_and, Bool.not_true, Bool.not_false, perm, Int.reduceToNat, Nat.reduceLT, Option.map_some, Nat.zero_lt_succ, decide_true, decide_false, Nat.lt_add_left_iff_pos, Nat.lt_add_one]
        refine ⟨mulOk_r hm.1 hm.2, (digits_ok P _).imp0 ?_⟩
        rintro _ st12 ⟨rfl, rfl⟩
        have e : digs B s.toNat ((wf B q xs + q * m) % q) = xs := by
          rw [Int.add_mul_emod_self_left, wf_val hq, Int.emod_emod_of_dvd _ (Int.dvd_refl _), ← hl]
          refine digs_uniq (by omega) P.Be xs _ (-(val B xs / q)) hin ?_
          have := Int.mul_ediv_add_emod (val B xs) q
          rw [hl, ← P.qe, Int.mul_neg]
          omega
        rw [e]
        simp only [wp_ok, wp_ex, wp_no, wp_bind, wp_bindS, wp_noX, slp_v, slp_o, rtp_v, rtp_o, kdp_fz, kdp_fl, kdp_fi, intp_i, blp_b, trp_b, trp_i, trp_l, trp_t, trp_n, optp_s, itp_t, itp_f, itp_nd, itp_ne, lsp_l, nbp_fz, nbp_fr, typ_int, typ_bl, typ_str, typ_non, typ_lst, typ_tup, icp_ins, icp_int, icp_bl, icp_str, icp_non, icp_lst, icp_tup, zpp_l, zpp_t, prp_i, w_var, w_cst, fzp_fz, fzp_fr, w_fzd, w_nil, w_cons, w_bin, w_idx, w_neg, o_add, o_sub, o_mul, o_fdiv, o_mod, o_pow, o_shl, o_shr, o_and, o_or, o_xor, o_eq, o_ne, o_neB, o_lt, o_le, o_gt, o_ge, o_ixl, o_ixt, o_addl, w_tup, w_lst, w_sl, w_eno, w_part, o_sll, o_sls, w_fld, o_fld, w_prop, w_call, w_callK, w_fun1, o_lenl, o_lent, o_listl, o_listt, o_tuplel, o_tuplet, o_int, o_intb, o_abs, o_all, o_any, o_sum, w_is, w_isC, w_isN, w_notN, w_chain, w_tval, w_tand, w_tor, w_tnot, w_yes, w_eand, w_eor, w_enot, w_eif, wkp_s, wk_l, wk_t, wk_r, wk_rl, w_ilist, w_irev, w_ienum, w_range1, w_range2, w_zip, w_comp, s_next, flp_nx, flp_bk, flp_ct, flp_rt, flp_xx, s_seq, s_fz, fr_nil, fr_cons, fr_1, fr_o, fr_v, fr_u, s_set, kd_fz, kd_fl, kd_fi, s_ref, s_asgG, s_par, s_par3, s_ret, s_retV, s_retN, s_drop, s_if, s_no, s_bk, s_ct, s_for, plp_o, plp_r, llp_l, ilp_i, p_putu, s_app, s_put, p_putIu, s_attr, endP_nx, endP_rt, endP_xx, endP_bk, endP_ct, f_fn, f_init, at_0, ix_0, at_1, ix_1, at_2, ix_2, at_3, ix_3, at_4, ix_4, at_5, ix_5, at_6, ix_6, at_7, ix_7, at_8, ix_8, at_9, ix_9, at_10, ix_10, at_11, ix_11, rs_ref, rs_non, rs_bl, rs_int, rs_str, rs_tup, rs_scr, rs_lst, rs_dct, rs_ins, isL, atKs, atVs, gName, enS, List.map_cons, List.map_nil, List.length_cons, List.length_nil, List.cons_append, List.nil_append, List.getElem?_cons_succ, List.getElem?_cons_zero, List.set_cons_succ, List.set_cons_zero, List.replicate, Nat.reduceSub, Nat.reduceAdd, List.getD_cons_zero, List.getD_cons_succ, gTup, gAll, Option.bind_some, isTy, List.any_cons, List.any_nil, Bool.or_false, Bool.false_or, Bool.true_or, Bool.or_true, D.isNon, true_and, Bool.not_true, Bool.not_false, perm, Int.reduceToNat, Nat.reduceLT, Option.map_some, Nat.zero_lt_succ, decide_true, decide_false, Nat.lt_add_left_iff_pos, Nat.lt_add_one]
        refine (like_same 8 (.lst (xs.map D.int)) (pl_ints (by rw [hl]; unfold maxLen; omega))).imp0 ?_
        rintro _ st13 ⟨rfl, rfl⟩
        simp only [wp_ok, wp_ex, wp_no, wp_bind, wp_bindS, wp_noX, slp_v, slp_o, rtp_v, rtp_o, kdp_fz, kdp_fl, kdp_fi, intp_i, blp_b, trp_b, trp_i, trp_l, trp_t, trp_n, optp_s, itp_t, itp_f, itp_nd, itp_ne, lsp_l, nbp_fz, nbp_fr, typ_int, typ_bl, typ_str, typ_non, typ_lst, typ_tup, icp_ins, icp_int, icp_bl, icp_str, icp_non, icp_lst, icp_tup, zpp_l, zpp_t, prp_i, w_var, w_cst, fzp_fz, fzp_fr, w_fzd, w_nil, w_cons, w_bin, w_idx, w_neg, o_add, o_sub, o_mul, o_fdiv, o_mod, o_pow, o_shl, o_shr, o_and, o_or, o_xor, o_eq, o_ne, o_neB, o_lt, o_le, o_gt, o_ge, o_ixl, o_ixt, o_addl, w_tup, w_lst, w_sl, w_eno, w_part, o_sll, o_sls, w_fld, o_fld, w_prop, w_call, w_callK, w_fun1, o_lenl, o_lent, o_listl, o_listt, o_tuplel, o_tuplet, o_int, o_intb, o_abs, o_all, o_any, o_sum, w_is, w_isC, w_isN, w_notN, w_chain, w_tval, w_tand, w_tor, w_tnot, w_yes, w_eand, w_eor, w_enot, w_eif, wkp_s, wk_l, wk_t, wk_r, wk_rl, w_ilist, w_irev, w_ienum, w_range1, w_range2, w_zip, w_comp, s_next, flp_nx, flp_bk, flp_ct, flp_rt, flp_xx, s_seq, s_fz, fr_nil, fr_cons, fr_1, fr_o, fr_v, fr_u, s_set, kd_fz, kd_fl, kd_fi, s_ref, s_asgG, s_par, s_par3, s_ret, s_retV, s_retN, s_drop, s_if, s_no, s_bk, s_ct, s_for, plp_o, plp_r, llp_l, ilp_i, p_putu, s_app, s_put, p_putIu, s_attr, endP_nx, endP_rt, endP_xx, endP_bk, endP_ct, f_fn, f_init, at_0, ix_0, at_1, ix_1, at_2, ix_2, at_3, ix_3, at_4, ix_4, at_5, ix_5, at_6, ix_6, at_7, ix_7, at_8, ix_8, at_9, ix_9, at_10, ix_10, at_11, ix_11, rs_ref, rs_non, rs_bl, rs_int, rs_str, rs_tup, rs_scr, rs_lst, rs_dct, rs_ins, isL, atKs, atVs, gName, enS, List.map_cons, List.map_nil, List.length_cons, List.length_nil, List.cons_append, List.nil_append, List.getElem?_cons_succ, List.getElem?_cons_zero, List.set_cons_succ, List.set_cons_zero, List.replicate, Nat.reduceSub, Nat.reduceAdd, List.getD_cons_zero, List.getD_cons_succ, gTup, gAll, Option.bind_some, isTy, List.any_cons, List.any_nil, Bool.or_false, Bool.false_or, Bool.true_or, Bool.or_true, D.isNon, true_and, Bool.not_true, Bool.not_false, perm, Int.reduceToNat, Nat.reduceLT, Option.map_some, Nat.zero_lt_succ, decide_true, decide_false, Nat.lt_add_left_iff_pos, Nat.lt_add_one]
        refine (nso_ok P _ hb11).imp0 ?_
        rintro _ st14 ⟨rfl, x14, hb14⟩
        simp only [wp_ok, wp_ex, wp_no, wp_bind, wp_bindS, wp_noX, slp_v, slp_o, rtp_v, rtp_o, kdp_fz, kdp_fl, kdp_fi, intp_i, blp_b, trp_b, trp_i, trp_l, trp_t, trp_n, optp_s, itp_t, itp_f, itp_nd, itp_ne, lsp_l, nbp_fz, nbp_fr, typ_int, typ_bl, typ_str, typ_non, typ_lst, typ_tup, icp_ins, icp_int, icp_bl, icp_str, icp_non, icp_lst, icp_tup, zpp_l, zpp_t, prp_i, w_var, w_cst, fzp_fz, fzp_fr, w_fzd, w_nil, w_cons, w_bin, w_idx, w_neg, o_add, o_sub, o_mul, o_fdiv, o_mod, o_pow, o_shl, o_shr, o_and, o_or, o_xor, o_eq, o_ne, o_neB, o_lt, o_le, o_gt, o_ge, o_ixl, o_ixt, o_addl, w_tup, w_lst, w_sl, w_eno, w_part, o_sll, o_sls, w_fld, o_fld, w_prop, w_call, w_callK, w_fun1, o_lenl, o_lent, o_listl, o_listt, o_tuplel, o_tuplet, o_int, o_intb, o_abs, o_all, o_any, o_sum, w_is, w_isC, w_isN, w_notN, w_chain, w_tval, w_tand, w_tor, w_tnot, w_yes, w_eand, w_eor, w_enot, w_eif, wkp_s, wk_l, wk_t, wk_r, wk_rl, w_ilist, w_irev, w_ienum, w_range1, w_range2, w_zip, w_comp, s_next, flp_nx, flp_bk, flp_ct, flp_rt, flp_xx, s_seq, s_fz, fr_nil, fr_cons, fr_1, fr_o, fr_v, fr_u, s_set, kd_fz, kd_fl, kd_fi, s_ref, s_asgG, s_par, s_par3, s_ret, s_retV, s_retN, s_drop, s_if, s_no, s_bk, s_ct, s_for, plp_o, plp_r, llp_l, ilp_i, p_putu, s_app, s_put, p_putIu, s_attr, endP_nx, endP_rt, endP_xx, endP_bk, endP_ct, f_fn, f_init, at_0, ix_0, at_1, ix_1, at_2, ix_2, at_3, ix_3, at_4, ix_4, at_5, ix_5, at_6, ix_6, at_7, ix_7, at_8, ix_8, at_9, ix_9, at_10, ix_10, at_11, ix_11, rs_ref, rs_non, rs_bl, rs_int, rs_str, rs_tup, rs_scr, rs_lst, rs_dct, rs_ins, isL, atKs, atVs, gName, enS, List.map_cons, List.map_nil, List.length_cons, List.length_nil, List.cons_append, List.nil_append, List.getElem?_cons_succ, List.getElem?_cons_zero, List.set_cons_succ, List.set_cons_zero, List.replicate, Nat.reduceSub, Nat.reduceAdd, List.getD_cons_zero, List.getD_cons_succ, gTup, gAll, Option.bind_some, isTy, List.any_cons, List.any_nil, Bool.or_false, Bool.false_or, Bool.true_or, Bool.or_true, D.isNon, true_and, Bool.not_true, Bool.not_false, perm, Int.reduceToNat, Nat.reduceLT, Option.map_some, Nat.zero_lt_succ, decide_true, decide_false, Nat.lt_add_left_iff_pos, Nat.lt_add_one]
        exact ⟨_, _, _, _, _, rfl, hb14⟩
      · rintro ρ st6 ⟨s2, s4, s7, s8, r6, rfl, hb6⟩
        simp only [wp_ok, wp_ex, wp_no, wp_bind, wp_bindS, wp_noX, slp_v, slp_o, rtp_v, rtp_o, kdp_fz, kdp_fl, kdp_fi, intp_i, blp_b, trp_b, trp_i, trp_l, trp_t, trp_n, optp_s, itp_t, itp_f, itp_nd, itp_ne, lsp_l, nbp_fz, nbp_fr, typ_int, typ_bl, typ_str, typ_non, typ_lst, typ_tup, icp_ins, icp_int, icp_bl, icp_str, icp_non, icp_lst, icp_tup, zpp_l, zpp_t, prp_i, w_var, w_cst, fzp_fz, fzp_fr, w_fzd, w_nil, w_cons, w_bin, w_idx, w_neg, o_add, o_sub, o_mul, o_fdiv, o_mod, o_pow, o_shl, o_shr, o_and, o_or, o_xor, o_eq, o_ne, o_neB, o_lt, o_le, o_gt, o_ge, o_ixl, o_ixt, o_addl, w_tup, w_lst, w_sl, w_eno, w_part, o_sll, o_sls, w_fld, o_fld, w_prop, w_call, w_callK, w_fun1, o_lenl, o_lent, o_listl, o_listt, o_tuplel, o_tuplet, o_int, o_intb, o_abs, o_all, o_any, o_sum, w_is, w_isC, w_isN, w_notN, w_chain, w_tval, w_tand, w_tor, w_tnot, w_yes, w_eand, w_eor, w_enot, w_eif, wkp_s, wk_l, wk_t, wk_r, wk_rl, w_ilist, w_irev, w_ienum, w_range1, w_range2, w_zip, w_comp, s_next, flp_nx, flp_bk, flp_ct, flp_rt, flp_xx, s_fz, fr_nil, fr_cons, fr_1, fr_o, fr_v, fr_u, s_set, kd_fz, kd_fl, kd_fi, s_ref, s_asgG, s_par, s_par3, s_ret, s_retV, s_retN, s_drop, s_no, s_bk, s_ct, plp_o, plp_r, llp_l, ilp_i, p_putu, s_app, s_put, p_putIu, s_attr, endP_nx, endP_rt, endP_xx, endP_bk, endP_ct, f_fn, f_init, at_0, ix_0, at_1, ix_1, at_2, ix_2, at_3, ix_3, at_4, ix_4, at_5, ix_5, at_6, ix_6, at_7, ix_7, at_8, ix_8, at_9, ix_9, at_10, ix_10, at_11, ix_11, rs_ref, rs_non, rs_bl, rs_int, rs_str, rs_tup, rs_scr, rs_lst, rs_dct, rs_ins, isL, atKs, atVs, gName, enS, List.map_cons, List.map_nil, List.length_cons, List.length_nil, List.cons_append, List.nil_append, List.getElem?_cons_succ, List.getElem?_cons_zero, List.set_cons_succ, List.set_cons_zero, List.replicate, Nat.reduceSub, Nat.reduceAdd, List.getD_cons_zero, List.getD_cons_succ, gTup, gAll, Option.bind_some, isTy, List.any_cons, List.any_nil, Bool.or_false, Bool.false_or, Bool.true_or, Bool.or_true, D.isNon, true_and, Bool.not_true, Bool.not_false, perm, Int.reduceToNat, Nat.reduceLT, Option.map_some, Nat.zero_lt_succ, decide_true, decide_false, Nat.lt_add_left_iff_pos, Nat.lt_add_one, s_seq, s_for]
        refine ⟨by decide, for_ok (J := fun i ρ st' => ∃ s2 s4 s7 s8 rest, ρ = [.val (.scr (ns.map D.int)), .val (.ref 0), s2, .val (five l N B s w), s4, .val (.int q), .val (frame l N B s w q), s7, s8] ∧ Bag rest st') ⟨_, _, _, _, _, rfl, hb6⟩ ?_ ?_⟩
        · rintro i d ρ st7 hd ⟨s2, s4, s7, s8, r7, rfl, hb7⟩
          refine ⟨_, rfl, ?_⟩
          simp only [wp_ok, wp_ex, wp_no, wp_bind, wp_bindS, wp_noX, slp_v, slp_o, rtp_v, rtp_o, kdp_fz, kdp_fl, kdp_fi, intp_i, blp_b, trp_b, trp_i, trp_l, trp_t, trp_n, optp_s, itp_t, itp_f, itp_nd, itp_ne, lsp_l, nbp_fz, nbp_fr, typ_int, typ_bl, typ_str, typ_non, typ_lst, typ_tup, icp_ins, icp_int, icp_bl, icp_str, icp_non, icp_lst, icp_tup, zpp_l, zpp_t, prp_i, w_var, w_cst, fzp_fz, fzp_fr, w_fzd, w_nil, w_cons, w_bin, w_idx, w_neg, o_add, o_sub, o_mul, o_fdiv, o_mod, o_pow, o_shl, o_shr, o_and, o_or, o_xor, o_eq, o_ne, o_neB, o_lt, o_le, o_gt, o_ge, o_ixl, o_ixt, o_addl, w_tup, w_lst, w_sl, w_eno, w_part, o_sll, o_sls, w_fld, o_fld, w_prop, w_call, w_callK, w_fun1, o_lenl, o_lent, o_listl, o_listt, o_tuplel, o_tuplet, o_int, o_intb, o_abs, o_all, o_any, o_sum, w_is, w_isC, w_isN, w_notN, w_chain, w_tval, w_tand, w_tor, w_tnot, w_yes, w_eand, w_eor, w_enot, w_eif, wkp_s, wk_l, wk_t, wk_r, wk_rl, w_ilist, w_irev, w_ienum, w_range1, w_range2, w_zip, w_comp, s_next, flp_nx, flp_bk, flp_ct, flp_rt, flp_xx, s_seq, s_fz, fr_nil, fr_cons, fr_1, fr_o, fr_v, fr_u, s_set, kd_fz, kd_fl, kd_fi, s_ref, s_asgG, s_par, s_par3, s_ret, s_retV, s_retN, s_drop, s_if, s_no, s_bk, s_ct, s_for, plp_o, plp_r, llp_l, ilp_i, p_putu, s_app, s_put, p_putIu, s_attr, endP_nx, endP_rt, endP_xx, endP_bk, endP_ct, f_fn, f_init, at_0, ix_0, at_1, ix_1, at_2, ix_2, at_3, ix_3, at_4, ix_4, at_5, ix_5, at_6, ix_6, at_7, ix_7, at_8, ix_8, at_9, ix_9, at_10, ix_10, at_11, ix_11, rs_ref, rs_non, rs_bl, rs_int, rs_str, rs_tup, rs_scr, rs_lst, rs_dct, rs_ins, isL, atKs, atVs, gName, enS, List.map_cons, List.map_nil, List.length_cons, List.length_nil, List.cons_append, List.nil_append, List.getElem?_cons_succ, List.getElem?_cons_zero, List.set_cons_succ, List.set_cons_zero, List.replicate, Nat.reduceSub, Nat.reduceAdd, List.getD_cons_zero, List.getD_cons_succ, gTup, gAll, Option.bind_some, isTy, List.any_cons, List.any_nil, Bool.or_false, Bool.false_or, Bool.true_or, Bool.or_true, D.isNon, true_and, Bool.not_true, Bool.not_false, perm, Int.reduceToNat, Nat.reduceLT, Option.map_some, Nat.zero_lt_succ, decide_true, decide_false, Nat.lt_add_left_iff_pos, Nat.lt_add_one]
          refine (rows_ok P hb7).imp0 ?_
          rintro _ st8 ⟨rfl, hb8⟩
          simp only [wp_ok, wp_ex, wp_no, wp_bind, wp_bindS, wp_noX, slp_v, slp_o, rtp_v, rtp_o, kdp_fz, kdp_fl, kdp_fi, intp_i, blp_b, trp_b, trp_i, trp_l, trp_t, trp_n, optp_s, itp_t, itp_f, itp_nd, itp_ne, lsp_l, nbp_fz, nbp_fr, typ_int, typ_bl, typ_str, typ_non, typ_lst, typ_tup, icp_ins, icp_int, icp_bl, icp_str, icp_non, icp_lst, icp_tup, zpp_l, zpp_t, prp_i, w_var, w_cst, fzp_fz, fzp_fr, w_fzd, w_nil, w_cons, w_bin, w_idx, w_neg, o_add, o_sub, o_mul, o_fdiv, o_mod, o_pow, o_shl, o_shr, o_and, o_or, o_xor, o_eq, o_ne, o_neB, o_lt, o_le, o_gt, o_ge, o_ixl, o_ixt, o_addl, w_tup, w_lst, w_sl, w_eno, w_part, o_sll, o_sls, w_fld, o_fld, w_prop, w_call, w_callK, w_fun1, o_lenl, o_lent, o_listl, o_listt, o_tuplel, o_tuplet, o_int, o_intb, o_abs, o_all, o_any, o_sum, w_is, w_isC, w_isN, w_notN, w_chain, w_tval, w_tand, w_tor, w_tnot, w_yes, w_eand, w_eor, w_enot, w_eif, wkp_s, wk_l, wk_t, wk_r, wk_rl, w_ilist, w_irev, w_ienum, w_range1, w_range2, w_zip, w_comp, s_next, flp_nx, flp_bk, flp_ct, flp_rt, flp_xx, s_seq, s_fz, fr_nil, fr_cons, fr_1, fr_o, fr_v, fr_u, s_set, kd_fz, kd_fl, kd_fi, s_ref, s_asgG, s_par, s_par3, s_ret, s_retV, s_retN, s_drop, s_if, s_no, s_bk, s_ct, s_for, plp_o, plp_r, llp_l, ilp_i, p_putu, s_app, s_put, p_putIu, s_attr, endP_nx, endP_rt, endP_xx, endP_bk, endP_ct, f_fn, f_init, at_0, ix_0, at_1, ix_1, at_2, ix_2, at_3, ix_3, at_4, ix_4, at_5, ix_5, at_6, ix_6, at_7, ix_7, at_8, ix_8, at_9, ix_9, at_10, ix_10, at_11, ix_11, rs_ref, rs_non, rs_bl, rs_int, rs_str, rs_tup, rs_scr, rs_lst, rs_dct, rs_ins, isL, atKs, atVs, gName, enS, List.map_cons, List.map_nil, List.length_cons, List.length_nil, List.cons_append, List.nil_append, List.getElem?_cons_succ, List.getElem?_cons_zero, List.set_cons_succ, List.set_cons_zero, List.replicate, Nat.reduceSub, Nat.reduceAdd, List.getD_cons_zero, List.getD_cons_succ, gTup, gAll, Option.bind_some, isTy, List.any_cons, List.any_nil, Bool.or_false, Bool.false_or, Bool.true_or, Bool.or_true, D.isNon, true_and, Bool.not_true, Bool.not_false, perm, Int.reduceToNat, Nat.reduceLT, Option.map_some, Nat.zero_lt_succ, decide_true, decide_false, Nat.lt_add_left_iff_pos, Nat.lt_add_one]
          exact ⟨_, _, _, _, _, rfl, hb8⟩
        · rintro ρ st7 ⟨s2, s4, s7, s8, r7, rfl, hb7⟩
          exact ⟨_, _, _, _, _, _, _, _, rfl, hb7⟩
    · rintro ρ st2 ⟨s2, s3, s4, s5, s6, s7, s8, r2, rfl, hb2⟩
      simp only [wp_ok, wp_ex, wp_no, wp_bind, wp_bindS, wp_noX, slp_v, slp_o, rtp_v, rtp_o, kdp_fz, kdp_fl, kdp_fi, intp_i, blp_b, trp_b, trp_i, trp_l, trp_t, trp_n, optp_s, itp_t, itp_f, itp_nd, itp_ne, lsp_l, nbp_fz, nbp_fr, typ_int, typ_bl, typ_str, typ_non, typ_lst, typ_tup, icp_ins, icp_int, icp_bl, icp_str, icp_non, icp_lst, icp_tup, zpp_l, zpp_t, prp_i, w_var, w_cst, fzp_fz, fzp_fr, w_fzd, w_nil, w_cons, w_bin, w_idx, w_neg, o_add, o_sub, o_mul, o_fdiv, o_mod, o_pow, o_shl, o_shr, o_and, o_or, o_xor, o_eq, o_ne, o_neB, o_lt, o_le, o_gt, o_ge, o_ixl, o_ixt, o_addl, w_tup, w_lst, w_sl, w_eno, w_part, o_sll, o_sls, w_fld, o_fld, w_prop, w_call, w_callK, w_fun1, o_lenl, o_lent, o_listl, o_listt, o_tuplel, o_tuplet, o_int, o_intb, o_abs, o_all, o_any, o_sum, w_is, w_isC, w_isN, w_notN, w_chain, w_tval, w_tand, w_tor, w_tnot, w_yes, w_eand, w_eor, w_enot, w_eif, wkp_s, wk_l, wk_t, wk_r, wk_rl, w_ilist, w_irev, w_ienum, w_range1, w_range2, w_zip, w_comp, s_next, flp_nx, flp_bk, flp_ct, flp_rt, flp_xx, s_seq, s_fz, fr_nil, fr_cons, fr_1, fr_o, fr_v, fr_u, s_set, kd_fz, kd_fl, kd_fi, s_ref, s_asgG, s_par, s_par3, s_ret, s_retV, s_retN, s_drop, s_if, s_no, s_bk, s_ct, s_for, plp_o, plp_r, llp_l, ilp_i, p_putu, s_app, s_put, p_putIu, s_attr, endP_nx, endP_rt, endP_xx, endP_bk, endP_ct, f_fn, f_init, at_0, ix_0, at_1, ix_1, at_2, ix_2, at_3, ix_3, at_4, ix_4, at_5, ix_5, at_6, ix_6, at_7, ix_7, at_8, ix_8, at_9, ix_9, at_10, ix_10, at_11, ix_11, rs_ref, rs_non, rs_bl, rs_int, rs_str, rs_tup, rs_scr, rs_lst, rs_dct, rs_ins, isL, atKs, atVs, gName, enS, List.map_cons, List.map_nil, List.length_cons, List.length_nil, List.cons_append, List.nil_append, List.getElem?_cons_succ, List.getElem?_cons_zero, List.set_cons_succ, List.set_cons_zero, List.replicate, Nat.reduceSub, Nat.reduceAdd, List.getD_cons_zero, List.getD_cons_succ, gTup, gAll, Option.bind_some, isTy, List.any_cons, List.any_nil, Bool.or_false, Bool.false_or, Bool.true_or, Bool.or_true, D.isNon, true_and, Bool.not_true, Bool.not_false, perm, Int.reduceToNat, Nat.reduceLT, Option.map_some, Nat.zero_lt_succ, decide_true, decide_false, Nat.lt_add_left_iff_pos, Nat.lt_add_one]
  obtain ⟨_, st, e, rfl⟩ := key.eq
  exact ⟨st, e⟩
end
end K03
end Q

set_option Elab.async false
set_option linter.all false
set_option maxRecDepth 100000
set_option maxHeartbeats 4000000
namespace Q
namespace K03
open PySem PySem.Spec PyProof.Rows L2 RZ RT C
abbrev prg : Program := PySem.Challenge.pw_veiledgates_k03_whole_digits_come_home
abbrev top (i : Nat) : Stmt := PySem.Challenge.pw_veiledgates_k03_whole_digits_come_home.main.body.getD i (.Pass ⟨0, 0, 0, 0⟩)
abbrev mem (i j : Nat) : Stmt := clsMem (top i) j
section
variable {P : Program} {w : World} {K : PySem.W.Frag} {mg : Str → Option Value} {base : Heap}
theorem sc__law_bag : FnScope [Str.ofString "_law_script", Str.ofString "_law_mix", Str.ofString "_law_item"] [Str.ofString "_law_script"] (defScope (top 14)) := ⟨rfl, rfl, rfl, by decide +kernel, rfl, by decide +kernel, by decide +kernel⟩
theorem ok__law_bag {fd : FuncData} (F : FunD K (Str.ofString "_law_bag") (Str.ofString "_law_bag") (defArgs (top 14)) (defBody (top 14)) (defScope (top 14)) [] [] (He.ga K (Str.ofString "_law_bag")) fd) (m : mg (Str.ofString "_law_bag") = some (.ref (He.ga K (Str.ofString "_law_bag")))) (g_int : mg (Str.ofString "int") = none) (g_list : mg (Str.ofString "list") = none) : Fx P w K mg base 1 (Str.ofString "_law_bag") (top 14) [Str.ofString "_law_script"] w__law_bag := by
  have S := sc__law_bag
  exact fx_of (k := 0) (n := 3) (b := b__law_bag) F m S (FunD.bindsN (ps := [Str.ofString "_law_script"]) F (fun _ _ _ _ _ _ us hl => match us, hl with | [_], _ => rfl)) fun cdv A outer s H E hr tk => by
    exact snd_seq (snd_set (i := 1) S.nd (snd_int)) (snd_seq (snd_for (passes_of rfl) rfl (snd_iList (snd_sl (snd_var 0) (snd_no) (snd_part (snd_int)))) (snd_gName S.nd (i := 2)) (snd_one' (snd_set (i := 1) S.nd (snd_bin op_mod b_mod (snd_toInt (by rfl) g_int (snd_bin or_add b_add (snd_bin or_add b_add (snd_bin or_mul b_mul (snd_var 1) (snd_int)) (snd_bin op_mod b_mod (snd_toInt (by rfl) g_int (snd_var 2)) (snd_int))) (snd_int))) (snd_int))))) (snd_one' (snd_ret (snd_lst (snd_cons (snd_list (by rfl) g_list (snd_sl (snd_var 0) (snd_no) (snd_part (snd_int)))) (snd_cons (snd_int) (snd_cons (snd_int) (snd_cons (snd_var 1) (snd_cons (snd_int) (snd_nil))))))))))
theorem sc__law_draw : FnScope [Str.ofString "_law_bag_here", Str.ofString "_law_size", Str.ofString "_law_item", Str.ofString "_law_digit"] [Str.ofString "_law_bag_here", Str.ofString "_law_size"] (defScope (top 15)) := ⟨rfl, rfl, rfl, by decide +kernel, rfl, by decide +kernel, by decide +kernel⟩
theorem ok__law_draw {fd : FuncData} (F : FunD K (Str.ofString "_law_draw") (Str.ofString "_law_draw") (defArgs (top 15)) (defBody (top 15)) (defScope (top 15)) [] [] (He.ga K (Str.ofString "_law_draw")) fd) (m : mg (Str.ofString "_law_draw") = some (.ref (He.ga K (Str.ofString "_law_draw")))) (g_len : mg (Str.ofString "len") = none) (g_int : mg (Str.ofString "int") = none) : Fx P w K mg base 1 (Str.ofString "_law_draw") (top 15) [Str.ofString "_law_bag_here", Str.ofString "_law_size"] w__law_draw := by
  have S := sc__law_draw
  exact fx_of (k := 0) (n := 4) (b := b__law_draw) F m S (FunD.bindsN (ps := [Str.ofString "_law_bag_here", Str.ofString "_law_size"]) F (fun _ _ _ _ _ _ us hl => match us, hl with | [_, _], _ => rfl)) fun cdv A outer s H E hr tk => by
    exact snd_seq (snd_put 0 (snd_bin or_add b_add (snd_idx (snd_var 0) (snd_int)) (snd_int)) (snd_int)) (snd_seq (snd_sIf (PW.pt (snd_tAnd (snd_tCmp (or_eq hr.units) c_eq isBB_eq (snd_idx (snd_var 0) (snd_int)) (snd_int) rfl) (snd_and1 (snd_tCmp op_lt c_lt isBB_lt (snd_idx (snd_var 0) (snd_int)) (snd_len (by rfl) g_len (snd_idx (snd_var 0) (snd_int))) rfl)))) (snd_seq (snd_set (i := 2) S.nd (snd_idx (snd_idx (snd_var 0) (snd_int)) (snd_idx (snd_var 0) (snd_int)))) (snd_seq (snd_put 0 (snd_bin or_add b_add (snd_idx (snd_var 0) (snd_int)) (snd_int)) (snd_int)) (snd_one' (snd_sIf (snd_tCmp op_ge c_ge isBB_ge (snd_var 2) (snd_bin op_pow b_pow (snd_int) (snd_int)) rfl) (snd_one' (snd_fz [2] (snd_put 0 (snd_var 2) (snd_int)))) (snd_one' (snd_put 0 (snd_bin op_mod b_mod (snd_toInt (by rfl) g_int (snd_bin or_add b_add (snd_bin or_add b_add (snd_bin or_mul b_mul (snd_idx (snd_var 0) (snd_int)) (snd_int)) (snd_bin or_mul b_mul (snd_bin op_mod b_mod (snd_toInt (by rfl) g_int (snd_var 2)) (snd_int)) (snd_int))) (snd_int))) (snd_int)) (snd_int))))))) (snd_sNext)) (snd_seq (snd_sIf (snd_tCmp op_gt c_gt isBB_gt (snd_idx (snd_var 0) (snd_int)) (snd_int) rfl) (snd_seq (snd_set (i := 3) S.nd (snd_bin op_mod b_mod (snd_toInt (by rfl) g_int (snd_idx (snd_var 0) (snd_int))) (snd_var 1))) (snd_seq (snd_put 0 (snd_bin op_fdivW b_fdiv (snd_idx (snd_var 0) (snd_int)) (snd_var 1)) (snd_int)) (snd_one' (snd_retV 3)))) (snd_sNext)) (snd_seq (snd_put 0 (snd_bin op_mod b_mod (snd_toInt (by rfl) g_int (snd_bin or_add b_add (snd_bin or_add b_add (snd_bin op_pow b_pow (snd_idx (snd_var 0) (snd_int)) (snd_int)) (snd_bin or_mul b_mul (snd_idx (snd_var 0) (snd_int)) (snd_int))) (snd_int))) (snd_int)) (snd_int)) (snd_one' (snd_ret (snd_bin op_mod b_mod (snd_toInt (by rfl) g_int (snd_bin or_add b_add (snd_bin op_fdivW b_fdiv (snd_idx (snd_var 0) (snd_int)) (snd_int)) (snd_bin or_mul b_mul (snd_bin op_mod b_mod (snd_toInt (by rfl) g_int (snd_idx (snd_var 0) (snd_int))) (snd_int)) (snd_int)))) (snd_var 1)))))))
theorem sc__law_of : FnScope [Str.ofString "_law_bag_here", Str.ofString "_law_things"] [Str.ofString "_law_bag_here", Str.ofString "_law_things"] (defScope (top 16)) := ⟨rfl, rfl, rfl, by decide +kernel, rfl, by decide +kernel, by decide +kernel⟩
theorem ok__law_of {fd : FuncData} (F : FunD K (Str.ofString "_law_of") (Str.ofString "_law_of") (defArgs (top 16)) (defBody (top 16)) (defScope (top 16)) [] [] (He.ga K (Str.ofString "_law_of")) fd) (m : mg (Str.ofString "_law_of") = some (.ref (He.ga K (Str.ofString "_law_of")))) (h__law_draw : Fx P w K mg base 1 (Str.ofString "_law_draw") (top 15) [Str.ofString "_law_bag_here", Str.ofString "_law_size"] w__law_draw) (g_len : mg (Str.ofString "len") = none) : Fx P w K mg base 2 (Str.ofString "_law_of") (top 16) [Str.ofString "_law_bag_here", Str.ofString "_law_things"] w__law_of := by
  have S := sc__law_of
  exact fx_of (k := 1) (n := 2) (b := b__law_of) F m S (FunD.bindsN (ps := [Str.ofString "_law_bag_here", Str.ofString "_law_things"]) F (fun _ _ _ _ _ _ us hl => match us, hl with | [_, _], _ => rfl)) fun cdv A outer s H E hr tk => by
    exact snd_one' (snd_ret (snd_idx (snd_var 1) (call_f h__law_draw tk hr (snd_cons (snd_var 0) (snd_cons (snd_len (by rfl) g_len (snd_var 1)) (snd_nil))) (len_cons (len_cons len_nil)) (by omega))))
theorem sc__law_five : FnScope [Str.ofString "_law_bag_here", Str.ofString "_law_side", Str.ofString "_law_power", Str.ofString "_law_spots", Str.ofString "_law_wide"] [Str.ofString "_law_bag_here"] (defScope (top 20)) := ⟨rfl, rfl, rfl, by decide +kernel, rfl, by decide +kernel, by decide +kernel⟩
theorem ok__law_five {fd : FuncData} (F : FunD K (Str.ofString "_law_five") (Str.ofString "_law_five") (defArgs (top 20)) (defBody (top 20)) (defScope (top 20)) [] [] (He.ga K (Str.ofString "_law_five")) fd) (m : mg (Str.ofString "_law_five") = some (.ref (He.ga K (Str.ofString "_law_five")))) (h__law_of : Fx P w K mg base 2 (Str.ofString "_law_of") (top 16) [Str.ofString "_law_bag_here", Str.ofString "_law_things"] w__law_of) (h__law_draw : Fx P w K mg base 1 (Str.ofString "_law_draw") (top 15) [Str.ofString "_law_bag_here", Str.ofString "_law_size"] w__law_draw) : Fx P w K mg base 3 (Str.ofString "_law_five") (top 20) [Str.ofString "_law_bag_here"] w__law_five := by
  have S := sc__law_five
  exact fx_of (k := 2) (n := 5) (b := b__law_five) F m S (FunD.bindsN (ps := [Str.ofString "_law_bag_here"]) F (fun _ _ _ _ _ _ us hl => match us, hl with | [_], _ => rfl)) fun cdv A outer s H E hr tk => by
    exact snd_seq (snd_par3 (i := 1) (j := 2) (l := 3) rfl S.nd (snd_bin or_add b_add (snd_int) (call_f h__law_of tk hr (snd_cons (snd_var 0) (snd_cons (snd_lst (snd_cons (snd_int) (snd_cons (snd_int) (snd_cons (snd_int) (snd_cons (snd_int) (snd_cons (snd_int) (snd_nil))))))) (snd_nil))) (len_cons (len_cons len_nil)) (by omega))) (snd_bin or_add b_add (snd_int) (call_f h__law_draw tk hr (snd_cons (snd_var 0) (snd_cons (snd_int) (snd_nil))) (len_cons (len_cons len_nil)) (by omega))) (snd_bin or_add b_add (snd_int) (call_f h__law_of tk hr (snd_cons (snd_var 0) (snd_cons (snd_lst (snd_cons (snd_int) (snd_cons (snd_int) (snd_cons (snd_int) (snd_cons (snd_int) (snd_cons (snd_int) (snd_cons (call_f h__law_draw tk hr (snd_cons (snd_var 0) (snd_cons (snd_int) (snd_nil))) (len_cons (len_cons len_nil)) (by omega)) (snd_nil)))))))) (snd_nil))) (len_cons (len_cons len_nil)) (by omega)))) (snd_seq (snd_sIf (snd_tCmp op_lt c_lt isBB_lt (snd_bin or_mul b_mul (snd_var 2) (snd_var 3)) (snd_bin or_add b_add (snd_int) (snd_var 1)) rfl) (snd_one' (snd_set (i := 3) S.nd (snd_bin op_fdivW b_fdiv (snd_bin or_add b_add (snd_bin or_add b_add (snd_int) (snd_var 1)) (snd_var 2)) (snd_var 2)))) (snd_sNext)) (snd_seq (snd_set (i := 4) S.nd (call_f h__law_of tk hr (snd_cons (snd_var 0) (snd_cons (snd_lst (snd_cons (snd_int) (snd_cons (snd_int) (snd_cons (snd_int) (snd_cons (snd_int) (snd_cons (snd_int) (snd_cons (call_f h__law_draw tk hr (snd_cons (snd_var 0) (snd_cons (snd_int) (snd_nil))) (len_cons (len_cons len_nil)) (by omega)) (snd_nil)))))))) (snd_nil))) (len_cons (len_cons len_nil)) (by omega))) (snd_one' (snd_fz [4] (snd_ret (snd_tup (snd_cons (snd_bin or_add b_add (snd_int) (call_f h__law_draw tk hr (snd_cons (snd_var 0) (snd_cons (snd_int) (snd_nil))) (len_cons (len_cons len_nil)) (by omega))) (snd_cons (snd_bin op_shlW b_shl (snd_int) (snd_var 1)) (snd_cons (snd_bin op_shlW b_shl (snd_int) (snd_var 2)) (snd_cons (snd_var 3) (snd_cons (snd_var 4) (snd_nil))))))))))))
theorem sc__law_modulus : FnScope [Str.ofString "_law_five_here", Str.ofString "_law_q", Str.ofString "_law_k"] [Str.ofString "_law_five_here"] (defScope (top 21)) := ⟨rfl, rfl, rfl, by decide +kernel, rfl, by decide +kernel, by decide +kernel⟩
theorem ok__law_modulus {fd : FuncData} (F : FunD K (Str.ofString "_law_modulus") (Str.ofString "_law_modulus") (defArgs (top 21)) (defBody (top 21)) (defScope (top 21)) [] [] (He.ga K (Str.ofString "_law_modulus")) fd) (m : mg (Str.ofString "_law_modulus") = some (.ref (He.ga K (Str.ofString "_law_modulus")))) (g_range : mg (Str.ofString "range") = none) : Fx P w K mg base 1 (Str.ofString "_law_modulus") (top 21) [Str.ofString "_law_five_here"] w__law_modulus := by
  have S := sc__law_modulus
  exact fx_of (k := 0) (n := 3) (b := b__law_modulus) F m S (FunD.bindsN (ps := [Str.ofString "_law_five_here"]) F (fun _ _ _ _ _ _ us hl => match us, hl with | [_], _ => rfl)) fun cdv A outer s H E hr tk => by
    exact snd_seq (snd_set (i := 1) S.nd (snd_int)) (snd_seq (snd_for (passes_of rfl) rfl (snd_range1 (by rfl) g_range (snd_idx (snd_var 0) (snd_int))) (snd_gName S.nd (i := 2)) (snd_one' (snd_set (i := 1) S.nd (snd_bin or_mul b_mul (snd_var 1) (snd_idx (snd_var 0) (snd_int)))))) (snd_one' (snd_retV 1)))
theorem sc_any_number : FnScope [Str.ofString "value"] [Str.ofString "value"] (defScope (top 9)) := ⟨rfl, rfl, rfl, by decide +kernel, rfl, by decide +kernel, by decide +kernel⟩
theorem ok_any_number {fd : FuncData} (F : FunD K (Str.ofString "any_number") (Str.ofString "any_number") (defArgs (top 9)) (defBody (top 9)) (defScope (top 9)) [] [] (He.ga K (Str.ofString "any_number")) fd) (m : mg (Str.ofString "any_number") = some (.ref (He.ga K (Str.ofString "any_number")))) (g_isinstance : mg (Str.ofString "isinstance") = none) (g_int : mg (Str.ofString "int") = none) (g_bool : mg (Str.ofString "bool") = none) : Fx P w K mg base 1 (Str.ofString "any_number") (top 9) [Str.ofString "value"] w_any_number := by
  have S := sc_any_number
  exact fx_of (k := 0) (n := 1) (b := b_any_number) F m S (FunD.bindsN (ps := [Str.ofString "value"]) F (fun _ _ _ _ _ _ us hl => match us, hl with | [_], _ => rfl)) fun cdv A outer s H E hr tk => by
    exact snd_one' (snd_ret (snd_eAnd (snd_is1 .int tb_int (by rfl) g_isinstance (by rfl) g_int (snd_var 0)) (snd_one (snd_eNot (snd_is1 .bool tb_bool (by rfl) g_isinstance (by rfl) g_bool (snd_var 0))))))
theorem sc_is_number : FnScope [Str.ofString "value", Str.ofString "least", Str.ofString "most"] [Str.ofString "value", Str.ofString "least", Str.ofString "most"] (defScope (top 10)) := ⟨rfl, rfl, rfl, by decide +kernel, rfl, by decide +kernel, by decide +kernel⟩
theorem ok_is_number {fd : FuncData} (F : FunD K (Str.ofString "is_number") (Str.ofString "is_number") (defArgs (top 10)) (defBody (top 10)) (defScope (top 10)) [] [] (He.ga K (Str.ofString "is_number")) fd) (m : mg (Str.ofString "is_number") = some (.ref (He.ga K (Str.ofString "is_number")))) (h_any_number : Fx P w K mg base 1 (Str.ofString "any_number") (top 9) [Str.ofString "value"] w_any_number) : Fx P w K mg base 2 (Str.ofString "is_number") (top 10) [Str.ofString "value", Str.ofString "least", Str.ofString "most"] w_is_number := by
  have S := sc_is_number
  exact fx_of (k := 1) (n := 3) (b := b_is_number) F m S (FunD.bindsN (ps := [Str.ofString "value", Str.ofString "least", Str.ofString "most"]) F (fun _ _ _ _ _ _ us hl => match us, hl with | [_, _, _], _ => rfl)) fun cdv A outer s H E hr tk => by
    exact snd_one' (snd_ret (snd_eAnd (call_f h_any_number tk hr (snd_cons (snd_var 0) (snd_nil)) (len_cons len_nil) (by omega)) (snd_one (snd_chain op_le c_le op_le c_le (fz_of isBB_le) (snd_var 1) (snd_var 0) (snd_var 2)))))
theorem sc_Sizes___init__ : FnScope [Str.ofString "self", Str.ofString "length", Str.ofString "ring", Str.ofString "base", Str.ofString "places", Str.ofString "spread", Str.ofString "modulus", Str.ofString "_"] [Str.ofString "self", Str.ofString "length", Str.ofString "ring", Str.ofString "base", Str.ofString "places", Str.ofString "spread"] (defScope (mem 12 0)) := ⟨rfl, rfl, rfl, by decide +kernel, rfl, by decide +kernel, by decide +kernel⟩
theorem ok_Sizes___init__ {fd : FuncData} (F : FunD K (Str.ofString "__init__") (Str.ofString "Sizes.__init__") (defArgs (mem 12 0)) (defBody (mem 12 0)) (defScope (mem 12 0)) [] [] (He.ma K (cA K "Sizes") "__init__") fd) (m : mg (Str.ofString "Sizes") = some (.ref (cA K "Sizes"))) (ci : InsOk K "Sizes") (mk : Mk K (cA K "Sizes") (He.ma K (cA K "Sizes") "__init__")) (h_is_number : Fx P w K mg base 2 (Str.ofString "is_number") (top 10) [Str.ofString "value", Str.ofString "least", Str.ofString "most"] w_is_number) (g_range : mg (Str.ofString "range") = none) (n_Sizes_length : noB K "Sizes" "length" = true) (n_Sizes_ring : noB K "Sizes" "ring" = true) (n_Sizes_base : noB K "Sizes" "base" = true) (n_Sizes_places : noB K "Sizes" "places" = true) (n_Sizes_spread : noB K "Sizes" "spread" = true) (n_Sizes__modulus : noB K "Sizes" "_modulus" = true) : Ix P w K mg base 3 "Sizes" (mem 12 0) [Str.ofString "self", Str.ofString "length", Str.ofString "ring", Str.ofString "base", Str.ofString "places", Str.ofString "spread"] w_Sizes___init__ := by
  have S := sc_Sizes___init__
  exact ix_of (k := 2) (n := 8) (b := b_Sizes___init__) F m S ci mk (by decide) (by decide) fun cdv A outer s H E hr tk => by
    exact snd_seq (snd_sIf (snd_tNot (snd_tVal (call_f h_is_number tk hr (snd_cons (snd_var 1) (snd_cons (snd_int) (snd_cons (snd_int) (snd_nil)))) (len_cons (len_cons (len_cons len_nil))) (by omega)))) (snd_one' (snd_noS)) (snd_sNext)) (snd_seq (snd_sIf (PW.pt (snd_tOr (snd_tNot (snd_tVal (call_f h_is_number tk hr (snd_cons (snd_var 2) (snd_cons (snd_int) (snd_cons (snd_int) (snd_nil)))) (len_cons (len_cons (len_cons len_nil))) (by omega)))) (snd_or1 (snd_tCmp (or_ne hr.units) c_ne isBB_ne (snd_bin op_and b_and (snd_var 2) (snd_bin op_sub b_sub (snd_var 2) (snd_int))) (snd_int) rfl)))) (snd_one' (snd_noS)) (snd_sNext)) (snd_seq (snd_sIf (PW.pt (snd_tOr (snd_tNot (snd_tVal (call_f h_is_number tk hr (snd_cons (snd_var 3) (snd_cons (snd_int) (snd_cons (snd_int) (snd_nil)))) (len_cons (len_cons (len_cons len_nil))) (by omega)))) (snd_or1 (snd_tCmp (or_ne hr.units) c_ne isBB_ne (snd_bin op_and b_and (snd_var 3) (snd_bin op_sub b_sub (snd_var 3) (snd_int))) (snd_int) rfl)))) (snd_one' (snd_noS)) (snd_sNext)) (snd_seq (snd_sIf (snd_tNot (snd_tVal (call_f h_is_number tk hr (snd_cons (snd_var 4) (snd_cons (snd_int) (snd_cons (snd_int) (snd_nil)))) (len_cons (len_cons (len_cons len_nil))) (by omega)))) (snd_one' (snd_noS)) (snd_sNext)) (snd_seq (snd_sIf (snd_tNot (snd_tVal (call_f h_is_number tk hr (snd_cons (snd_var 5) (snd_cons (snd_int) (snd_cons (snd_int) (snd_nil)))) (len_cons (len_cons (len_cons len_nil))) (by omega)))) (snd_one' (snd_noS)) (snd_sNext)) (snd_seq (snd_set (i := 6) S.nd (snd_int)) (snd_seq (snd_for (passes_of rfl) rfl (snd_range1 (by rfl) g_range (snd_var 4)) (snd_gName S.nd (i := 7)) (snd_one' (snd_set (i := 6) S.nd (snd_bin or_mul b_mul (snd_var 6) (snd_var 3))))) (snd_seq (snd_sIf (snd_tCmp op_lt c_lt isBB_lt (snd_var 6) (snd_bin or_mul b_mul (snd_int) (snd_var 2)) rfl) (snd_one' (snd_noS)) (snd_sNext)) (snd_seq (snd_attr 0 (cc := "Sizes") (y := "length") (snd_var 1) (no_of n_Sizes_length)) (snd_seq (snd_attr 0 (cc := "Sizes") (y := "ring") (snd_var 2) (no_of n_Sizes_ring)) (snd_seq (snd_attr 0 (cc := "Sizes") (y := "base") (snd_var 3) (no_of n_Sizes_base)) (snd_seq (snd_attr 0 (cc := "Sizes") (y := "places") (snd_var 4) (no_of n_Sizes_places)) (snd_seq (snd_attr 0 (cc := "Sizes") (y := "spread") (snd_var 5) (no_of n_Sizes_spread)) (snd_one' (snd_attr 0 (cc := "Sizes") (y := "_modulus") (snd_var 6) (no_of n_Sizes__modulus)))))))))))))))
theorem sc__law_frame : FnScope [Str.ofString "_law_five_here"] [Str.ofString "_law_five_here"] (defScope (top 22)) := ⟨rfl, rfl, rfl, by decide +kernel, rfl, by decide +kernel, by decide +kernel⟩
theorem ok__law_frame {fd : FuncData} (F : FunD K (Str.ofString "_law_frame") (Str.ofString "_law_frame") (defArgs (top 22)) (defBody (top 22)) (defScope (top 22)) [] [] (He.ga K (Str.ofString "_law_frame")) fd) (m : mg (Str.ofString "_law_frame") = some (.ref (He.ga K (Str.ofString "_law_frame")))) (h_Sizes___init__ : Ix P w K mg base 3 "Sizes" (mem 12 0) [Str.ofString "self", Str.ofString "length", Str.ofString "ring", Str.ofString "base", Str.ofString "places", Str.ofString "spread"] w_Sizes___init__) : Fx P w K mg base 5 (Str.ofString "_law_frame") (top 22) [Str.ofString "_law_five_here"] w__law_frame := by
  have S := sc__law_frame
  exact fx_of (k := 4) (n := 1) (b := b__law_frame) F m S (FunD.bindsN (ps := [Str.ofString "_law_five_here"]) F (fun _ _ _ _ _ _ us hl => match us, hl with | [_], _ => rfl)) fun cdv A outer s H E hr tk => by
    exact snd_one' (snd_ret (make_fk (ks := []) h_Sizes___init__ tk hr [0, 1, 2, 3, 4] (n := 5) (fun _ _ _ _ _ _ _ us ws hu hw => match us, ws, hu, hw with | [_, _, _, _, _, _], [], _, _ => rfl) (snd_cons (snd_idx (snd_var 0) (snd_int)) (snd_cons (snd_idx (snd_var 0) (snd_int)) (snd_cons (snd_idx (snd_var 0) (snd_int)) (snd_cons (snd_idx (snd_var 0) (snd_int)) (snd_cons (snd_idx (snd_var 0) (snd_int)) (snd_nil)))))) (len_cons (len_cons (len_cons (len_cons (len_cons len_nil))))) (snd_kNil) len_nil (by omega)))
theorem sc__law_great : FnScope [Str.ofString "_law_bag_here", Str.ofString "_law_n", Str.ofString "_law_k"] [Str.ofString "_law_bag_here"] (defScope (top 19)) := ⟨rfl, rfl, rfl, by decide +kernel, rfl, by decide +kernel, by decide +kernel⟩
theorem ok__law_great {fd : FuncData} (F : FunD K (Str.ofString "_law_great") (Str.ofString "_law_great") (defArgs (top 19)) (defBody (top 19)) (defScope (top 19)) [] [] (He.ga K (Str.ofString "_law_great")) fd) (m : mg (Str.ofString "_law_great") = some (.ref (He.ga K (Str.ofString "_law_great")))) (h__law_of : Fx P w K mg base 2 (Str.ofString "_law_of") (top 16) [Str.ofString "_law_bag_here", Str.ofString "_law_things"] w__law_of) (h__law_draw : Fx P w K mg base 1 (Str.ofString "_law_draw") (top 15) [Str.ofString "_law_bag_here", Str.ofString "_law_size"] w__law_draw) (g_range : mg (Str.ofString "range") = none) : Fx P w K mg base 3 (Str.ofString "_law_great") (top 19) [Str.ofString "_law_bag_here"] w__law_great := by
  have S := sc__law_great
  exact fx_of (k := 2) (n := 3) (b := b__law_great) F m S (FunD.bindsN (ps := [Str.ofString "_law_bag_here"]) F (fun _ _ _ _ _ _ us hl => match us, hl with | [_], _ => rfl)) fun cdv A outer s H E hr tk => by
    exact snd_seq (snd_set (i := 1) S.nd (snd_int)) (snd_seq (snd_for (passes_of rfl) rfl (snd_range1 (by rfl) g_range (call_f h__law_of tk hr (snd_cons (snd_var 0) (snd_cons (snd_lst (snd_cons (snd_int) (snd_cons (snd_int) (snd_cons (snd_int) (snd_nil))))) (snd_nil))) (len_cons (len_cons len_nil)) (by omega))) (snd_gName S.nd (i := 2)) (snd_one' (snd_set (i := 1) S.nd (snd_bin or_add b_add (snd_bin or_mul b_mul (snd_var 1) (snd_bin op_pow b_pow (snd_int) (snd_int))) (call_f h__law_draw tk hr (snd_cons (snd_var 0) (snd_cons (snd_bin op_pow b_pow (snd_int) (snd_int)) (snd_nil))) (len_cons (len_cons len_nil)) (by omega)))))) (snd_one' (snd_ret (snd_if (snd_tCmp (or_eq hr.units) c_eq isBB_eq (call_f h__law_draw tk hr (snd_cons (snd_var 0) (snd_cons (snd_int) (snd_nil))) (len_cons (len_cons len_nil)) (by omega)) (snd_int) rfl) (snd_bin op_sub b_sub (snd_int) (snd_var 1)) (snd_var 1)))))
theorem sc__law_residue : FnScope [Str.ofString "_law_bag_here", Str.ofString "_law_q", Str.ofString "_law_pick", Str.ofString "_law_n", Str.ofString "_law_reach", Str.ofString "_law_k"] [Str.ofString "_law_bag_here", Str.ofString "_law_q"] (defScope (top 23)) := ⟨rfl, rfl, rfl, by decide +kernel, rfl, by decide +kernel, by decide +kernel⟩
theorem ok__law_residue {fd : FuncData} (F : FunD K (Str.ofString "_law_residue") (Str.ofString "_law_residue") (defArgs (top 23)) (defBody (top 23)) (defScope (top 23)) [] [] (He.ga K (Str.ofString "_law_residue")) fd) (m : mg (Str.ofString "_law_residue") = some (.ref (He.ga K (Str.ofString "_law_residue")))) (h__law_draw : Fx P w K mg base 1 (Str.ofString "_law_draw") (top 15) [Str.ofString "_law_bag_here", Str.ofString "_law_size"] w__law_draw) (g_range : mg (Str.ofString "range") = none) (g_int : mg (Str.ofString "int") = none) : Fx P w K mg base 2 (Str.ofString "_law_residue") (top 23) [Str.ofString "_law_bag_here", Str.ofString "_law_q"] w__law_residue := by
  have S := sc__law_residue
  exact fx_of (k := 1) (n := 6) (b := b__law_residue) F m S (FunD.bindsN (ps := [Str.ofString "_law_bag_here", Str.ofString "_law_q"]) F (fun _ _ _ _ _ _ us hl => match us, hl with | [_, _], _ => rfl)) fun cdv A outer s H E hr tk => by
    exact snd_seq (snd_set (i := 2) S.nd (call_f h__law_draw tk hr (snd_cons (snd_var 0) (snd_cons (snd_int) (snd_nil))) (len_cons (len_cons len_nil)) (by omega))) (snd_seq (snd_sIf (snd_tCmp op_lt c_lt isBB_lt (snd_var 2) (snd_int) rfl) (snd_one' (snd_ret (snd_idx (snd_tup (snd_cons (snd_int) (snd_cons (snd_bin op_sub b_sub (snd_var 1) (snd_int)) (snd_cons (snd_bin op_fdivW b_fdiv (snd_var 1) (snd_int)) (snd_cons (snd_bin op_sub b_sub (snd_bin op_fdivW b_fdiv (snd_var 1) (snd_int)) (snd_int)) (snd_cons (snd_int) (snd_nil))))))) (snd_var 2)))) (snd_sNext)) (snd_seq (snd_sIf (snd_tCmp (or_eq hr.units) c_eq isBB_eq (snd_var 2) (snd_int) rfl) (snd_one' (snd_ret (call_f h__law_draw tk hr (snd_cons (snd_var 0) (snd_cons (snd_int) (snd_nil))) (len_cons (len_cons len_nil)) (by omega)))) (snd_sNext)) (snd_seq (snd_asgG (snd_tup (snd_cons (snd_int) (snd_cons (snd_int) (snd_nil)))) (snd_gTup (n := 2) rfl (snd_gCons (snd_gName S.nd (i := 3)) (snd_gCons (snd_gName S.nd (i := 4)) (snd_gNil))))) (snd_seq (snd_for (passes_of rfl) rfl (snd_range1 (by rfl) g_range (snd_int)) (snd_gName S.nd (i := 5)) (snd_seq (snd_sIf (snd_tCmp op_ge c_ge isBB_ge (snd_var 4) (snd_var 1) rfl) (snd_one' (snd_bk)) (snd_sNext)) (snd_one' (snd_par (i := 3) (j := 4) rfl S.nd (snd_bin or_add b_add (snd_bin or_mul b_mul (snd_var 3) (snd_int)) (call_f h__law_draw tk hr (snd_cons (snd_var 0) (snd_cons (snd_int) (snd_nil))) (len_cons (len_cons len_nil)) (by omega))) (snd_bin or_mul b_mul (snd_var 4) (snd_int)))))) (snd_one' (snd_ret (snd_bin op_mod b_mod (snd_toInt (by rfl) g_int (snd_var 3)) (snd_var 1))))))))
theorem sc__law_loose : FnScope [Str.ofString "_law_bag_here", Str.ofString "_law_q", Str.ofString "_law_pick"] [Str.ofString "_law_bag_here", Str.ofString "_law_q"] (defScope (top 24)) := ⟨rfl, rfl, rfl, by decide +kernel, rfl, by decide +kernel, by decide +kernel⟩
theorem ok__law_loose {fd : FuncData} (F : FunD K (Str.ofString "_law_loose") (Str.ofString "_law_loose") (defArgs (top 24)) (defBody (top 24)) (defScope (top 24)) [] [] (He.ga K (Str.ofString "_law_loose")) fd) (m : mg (Str.ofString "_law_loose") = some (.ref (He.ga K (Str.ofString "_law_loose")))) (h__law_draw : Fx P w K mg base 1 (Str.ofString "_law_draw") (top 15) [Str.ofString "_law_bag_here", Str.ofString "_law_size"] w__law_draw) (h__law_great : Fx P w K mg base 3 (Str.ofString "_law_great") (top 19) [Str.ofString "_law_bag_here"] w__law_great) (h__law_residue : Fx P w K mg base 2 (Str.ofString "_law_residue") (top 23) [Str.ofString "_law_bag_here", Str.ofString "_law_q"] w__law_residue) : Fx P w K mg base 4 (Str.ofString "_law_loose") (top 24) [Str.ofString "_law_bag_here", Str.ofString "_law_q"] w__law_loose := by
  have S := sc__law_loose
  exact fx_of (k := 3) (n := 3) (b := b__law_loose) F m S (FunD.bindsN (ps := [Str.ofString "_law_bag_here", Str.ofString "_law_q"]) F (fun _ _ _ _ _ _ us hl => match us, hl with | [_, _], _ => rfl)) fun cdv A outer s H E hr tk => by
    exact snd_seq (snd_set (i := 2) S.nd (call_f h__law_draw tk hr (snd_cons (snd_var 0) (snd_cons (snd_int) (snd_nil))) (len_cons (len_cons len_nil)) (by omega))) (snd_seq (snd_sIf (snd_tCmp (or_eq hr.units) c_eq isBB_eq (snd_var 2) (snd_int) rfl) (snd_one' (snd_ret (call_f h__law_great tk hr (snd_cons (snd_var 0) (snd_nil)) (len_cons len_nil) (by omega)))) (snd_sNext)) (snd_one' (snd_ret (snd_bin or_add b_add (call_f h__law_residue tk hr (snd_cons (snd_var 0) (snd_cons (snd_var 1) (snd_nil))) (len_cons (len_cons len_nil)) (by omega)) (snd_bin or_mul b_mul (snd_var 1) (snd_idx (snd_tup (snd_cons (snd_int) (snd_cons (snd_int) (snd_cons (snd_int) (snd_cons (snd_bin op_sub b_sub (snd_int) (snd_int)) (snd_cons (snd_bin op_sub b_sub (snd_int) (snd_int)) (snd_nil))))))) (snd_var 2)))))))
theorem sc_Sizes_modulus : FnScope [Str.ofString "self"] [Str.ofString "self"] (defScope (mem 12 1)) := ⟨rfl, rfl, rfl, by decide +kernel, rfl, by decide +kernel, by decide +kernel⟩
theorem ok_Sizes_modulus {fd : FuncData} (F : FunD K (Str.ofString "modulus") (Str.ofString "Sizes.modulus") (defArgs (mem 12 1)) (defBody (mem 12 1)) (defScope (mem 12 1)) [] [] (pgA K "Sizes" "modulus") fd) (ci : InsOk K "Sizes") (pr : PropOf K (cA K "Sizes") (Str.ofString "modulus") (He.ma K (cA K "Sizes") (Str.ofString "modulus")) (pgA K "Sizes" "modulus"))  : Px P w K mg base 1 "Sizes" "modulus" w_Sizes_modulus := by
  have S := sc_Sizes_modulus
  exact px_of (k := 0) (n := 1) (b := b_Sizes_modulus) F S ci pr (FunD.bindsN (ps := [Str.ofString "self"]) F (fun _ _ _ _ _ _ us hl => match us, hl with | [_], _ => rfl)) fun cdv A outer s H E hr tk => by
    exact snd_one' (snd_ret (snd_fld (x := "_modulus") (snd_var 0)))
theorem sc_digits : FnScope [Str.ofString "value", Str.ofString "sizes", Str.ofString "base", Str.ofString "left", Str.ofString "found", Str.ofString "_", Str.ofString "digit"] [Str.ofString "value", Str.ofString "sizes"] (defScope (top 3)) := ⟨rfl, rfl, rfl, by decide +kernel, rfl, by decide +kernel, by decide +kernel⟩
theorem ok_digits {fd : FuncData} (F : FunD K (Str.ofString "digits") (Str.ofString "digits") (defArgs (top 3)) (defBody (top 3)) (defScope (top 3)) [] [] (He.ga K (Str.ofString "digits")) fd) (m : mg (Str.ofString "digits") = some (.ref (He.ga K (Str.ofString "digits")))) (h_Sizes_modulus : Px P w K mg base 1 "Sizes" "modulus" w_Sizes_modulus) (g_range : mg (Str.ofString "range") = none) : Fx P w K mg base 3 (Str.ofString "digits") (top 3) [Str.ofString "value", Str.ofString "sizes"] w_digits := by
  have S := sc_digits
  exact fx_of (k := 2) (n := 7) (b := b_digits) F m S (FunD.bindsN (ps := [Str.ofString "value", Str.ofString "sizes"]) F (fun _ _ _ _ _ _ us hl => match us, hl with | [_, _], _ => rfl)) fun cdv A outer s H E hr tk => by
    exact snd_seq (snd_set (i := 2) S.nd (snd_fld (x := "base") (snd_var 1))) (snd_seq (snd_set (i := 3) S.nd (snd_bin op_mod b_mod (snd_var 0) (prop_f (y := "modulus") h_Sizes_modulus hr (snd_var 1) (by omega)))) (snd_seq (snd_set (i := 4) S.nd (snd_lst (snd_nil))) (snd_seq (snd_for (passes_of rfl) rfl (snd_range1 (by rfl) g_range (snd_fld (x := "places") (snd_var 1))) (snd_gName S.nd (i := 5)) (snd_seq (snd_set (i := 6) S.nd (snd_bin op_mod b_mod (snd_var 3) (snd_var 2))) (snd_seq (snd_sIf (snd_tCmp op_ge c_ge isBB_ge (snd_var 6) (snd_bin op_fdivW b_fdiv (snd_var 2) (snd_int)) rfl) (snd_one' (snd_set (i := 6) S.nd (snd_bin op_sub b_sub (snd_var 6) (snd_var 2)))) (snd_sNext)) (snd_seq (snd_app 4 (snd_var 6)) (snd_one' (snd_set (i := 3) S.nd (snd_bin op_fdivW b_fdiv (snd_bin op_sub b_sub (snd_var 3) (snd_var 6)) (snd_var 2)))))))) (snd_one' (snd_retV 4)))))
theorem sc__law_is_number : FnScope [Str.ofString "_law_thing", Str.ofString "_law_low", Str.ofString "_law_top"] [Str.ofString "_law_thing", Str.ofString "_law_low", Str.ofString "_law_top"] (defScope (top 18)) := ⟨rfl, rfl, rfl, by decide +kernel, rfl, by decide +kernel, by decide +kernel⟩
theorem ok__law_is_number {fd : FuncData} (F : FunD K (Str.ofString "_law_is_number") (Str.ofString "_law_is_number") (defArgs (top 18)) (defBody (top 18)) (defScope (top 18)) [] [] (He.ga K (Str.ofString "_law_is_number")) fd) (m : mg (Str.ofString "_law_is_number") = some (.ref (He.ga K (Str.ofString "_law_is_number")))) (g_isinstance : mg (Str.ofString "isinstance") = none) (g_int : mg (Str.ofString "int") = none) (g_bool : mg (Str.ofString "bool") = none) : Fx P w K mg base 1 (Str.ofString "_law_is_number") (top 18) [Str.ofString "_law_thing", Str.ofString "_law_low", Str.ofString "_law_top"] w__law_is_number := by
  have S := sc__law_is_number
  exact fx_of (k := 0) (n := 3) (b := b__law_is_number) F m S (FunD.bindsN (ps := [Str.ofString "_law_thing", Str.ofString "_law_low", Str.ofString "_law_top"]) F (fun _ _ _ _ _ _ us hl => match us, hl with | [_, _, _], _ => rfl)) fun cdv A outer s H E hr tk => by
    exact snd_one' (snd_ret (snd_eAnd (snd_is1 .int tb_int (by rfl) g_isinstance (by rfl) g_int (snd_var 0)) (snd_eAnd (snd_eNot (snd_is1 .bool tb_bool (by rfl) g_isinstance (by rfl) g_bool (snd_var 0))) (snd_one (snd_chain op_le c_le op_le c_le (fz_of isBB_le) (snd_var 1) (snd_var 0) (snd_var 2))))))
theorem sc__law_like : FnScope [Str.ofString "_law_told", Str.ofString "_law_due", Str.ofString "_law_a", Str.ofString "_law_b"] [Str.ofString "_law_told", Str.ofString "_law_due"] (defScope (top 17)) := ⟨rfl, rfl, rfl, by decide +kernel, rfl, by decide +kernel, by decide +kernel⟩
theorem ok__law_like {fd : FuncData} (F : FunD K (Str.ofString "_law_like") (Str.ofString "_law_like") (defArgs (top 17)) (defBody (top 17)) (defScope (top 17)) [] [] (He.ga K (Str.ofString "_law_like")) fd) (m : mg (Str.ofString "_law_like") = some (.ref (He.ga K (Str.ofString "_law_like")))) (g_isinstance : mg (Str.ofString "isinstance") = none) (g_dict : mg (Str.ofString "dict") = none) (g_list : mg (Str.ofString "list") = none) (g_tuple : mg (Str.ofString "tuple") = none) (g_len : mg (Str.ofString "len") = none) (g_zip : mg (Str.ofString "zip") = none) (g_all : mg (Str.ofString "all") = none) (g_bool : mg (Str.ofString "bool") = none) (g_str : mg (Str.ofString "str") = none) (g_int : mg (Str.ofString "int") = none) : ∀ n : Nat, Fx P w K mg base (0 + n) (Str.ofString "_law_like") (top 17) [Str.ofString "_law_told", Str.ofString "_law_due"] (w__law_like n)
  | 0 => fx_zero F m (FunD.bindsN (ps := [Str.ofString "_law_told", Str.ofString "_law_due"]) F (fun _ _ _ _ _ _ us hl => match us, hl with | [_, _], _ => rfl))
  | n + 1 => by
    have h_self := ok__law_like F m g_isinstance g_dict g_list g_tuple g_len g_zip g_all g_bool g_str g_int n
    have S := sc__law_like
    exact fx_of (k := 0 + n) (n := 4) (b := b__law_like (w__law_like n)) F m S (FunD.bindsN (ps := [Str.ofString "_law_told", Str.ofString "_law_due"]) F (fun _ _ _ _ _ _ us hl => match us, hl with | [_, _], _ => rfl)) fun cdv A outer s H E hr tk => by
      exact snd_seq (snd_sIf (PW.pt (snd_tOr (snd_tVal (snd_is1 .dict tb_dict (by rfl) g_isinstance (by rfl) g_dict (snd_var 1))) (snd_or1 (snd_tVal (snd_is1 .dict tb_dict (by rfl) g_isinstance (by rfl) g_dict (snd_var 0)))))) (snd_one' (snd_ret (snd_eAnd (snd_is1 .dict tb_dict (by rfl) g_isinstance (by rfl) g_dict (snd_var 1)) (snd_eAnd (snd_is1 .dict tb_dict (by rfl) g_isinstance (by rfl) g_dict (snd_var 0)) (snd_one (snd_cmp (or_eq hr.units) c_eq (snd_var 0) (snd_var 1) rfl)))))) (snd_sNext)) (snd_seq (snd_sIf (snd_tVal (snd_is2 .list .tuple tb_list tb_tuple (by rfl) g_isinstance (by rfl) g_list (by rfl) g_tuple (snd_var 1))) (snd_seq (snd_sIf (PW.pt (snd_tOr (snd_tCmp (or_ne hr.units) c_ne isBB_ne (snd_is1 .list tb_list (by rfl) g_isinstance (by rfl) g_list (snd_var 0)) (snd_is1 .list tb_list (by rfl) g_isinstance (by rfl) g_list (snd_var 1)) rfl) (snd_or1 (snd_tCmp (or_ne hr.units) c_ne isBB_ne (snd_is1 .tuple tb_tuple (by rfl) g_isinstance (by rfl) g_tuple (snd_var 0)) (snd_is1 .tuple tb_tuple (by rfl) g_isinstance (by rfl) g_tuple (snd_var 1)) rfl)))) (snd_one' (snd_ret (snd_bl))) (snd_sNext)) (snd_one' (snd_ret (snd_eAnd (snd_cmp (or_eq hr.units) c_eq (snd_len (by rfl) g_len (snd_var 0)) (snd_len (by rfl) g_len (snd_var 1)) rfl) (snd_one (snd_all (by rfl) (by rfl) g_all (snd_comp (own := [("_law_a", 2), ("_law_b", 3)]) rfl S.nd (blkOk_by (N := [Str.ofString "_law_told", Str.ofString "_law_due", Str.ofString "_law_a", Str.ofString "_law_b"]) (sc := defScope (top 17)) (by decide +kernel)) (by decide) (snd_zip (by rfl) g_zip (snd_var 0) (snd_var 1)) (fun _ _ _ _ _ => snd_gTup (n := 2) rfl (snd_gCons (snd_gName S.nd (i := 2)) (snd_gCons (snd_gName S.nd (i := 3)) (snd_gNil)))) (fun _ _ _ _ _ => snd_yes) (fun _ _ _ _ _ => call_f h_self takes0 hr (snd_cons (snd_var 2) (snd_cons (snd_var 3) (snd_nil))) (len_cons (len_cons len_nil)) (by omega))))))))) (snd_sNext)) (snd_seq (snd_sIf (PW.pt (snd_tOr (snd_tIsN (snd_var 1)) (snd_or1 (snd_tIsN (snd_var 0))))) (snd_one' (snd_ret (snd_eAnd (snd_isN (snd_var 1)) (snd_one (snd_isN (snd_var 0)))))) (snd_sNext)) (snd_seq (snd_sIf (PW.pt (snd_tOr (snd_tVal (snd_is2 .list .tuple tb_list tb_tuple (by rfl) g_isinstance (by rfl) g_list (by rfl) g_tuple (snd_var 0))) (snd_or1 (snd_tCmp (or_ne hr.units) c_ne isBB_ne (snd_is1 .bool tb_bool (by rfl) g_isinstance (by rfl) g_bool (snd_var 0)) (snd_is1 .bool tb_bool (by rfl) g_isinstance (by rfl) g_bool (snd_var 1)) rfl)))) (snd_one' (snd_ret (snd_bl))) (snd_sNext)) (snd_seq (snd_sIf (PW.pt (snd_tOr (snd_tCmp (or_ne hr.units) c_ne isBB_ne (snd_is1 .str tb_str (by rfl) g_isinstance (by rfl) g_str (snd_var 0)) (snd_is1 .str tb_str (by rfl) g_isinstance (by rfl) g_str (snd_var 1)) rfl) (snd_or1 (snd_tCmp (or_ne hr.units) c_ne isBB_ne (snd_is1 .int tb_int (by rfl) g_isinstance (by rfl) g_int (snd_var 0)) (snd_is1 .int tb_int (by rfl) g_isinstance (by rfl) g_int (snd_var 1)) rfl)))) (snd_one' (snd_ret (snd_bl))) (snd_sNext)) (snd_one' (snd_ret (snd_cmp (or_eq hr.units) c_eq (snd_var 0) (snd_var 1) rfl)))))))
theorem sc_whole : FnScope [Str.ofString "row", Str.ofString "sizes", Str.ofString "total", Str.ofString "digit"] [Str.ofString "row", Str.ofString "sizes"] (defScope (top 4)) := ⟨rfl, rfl, rfl, by decide +kernel, rfl, by decide +kernel, by decide +kernel⟩
theorem ok_whole {fd : FuncData} (F : FunD K (Str.ofString "whole") (Str.ofString "whole") (defArgs (top 4)) (defBody (top 4)) (defScope (top 4)) [] [] (He.ga K (Str.ofString "whole")) fd) (m : mg (Str.ofString "whole") = some (.ref (He.ga K (Str.ofString "whole")))) (h_Sizes_modulus : Px P w K mg base 1 "Sizes" "modulus" w_Sizes_modulus) (g_reversed : mg (Str.ofString "reversed") = none) : Fx P w K mg base 3 (Str.ofString "whole") (top 4) [Str.ofString "row", Str.ofString "sizes"] w_whole := by
  have S := sc_whole
  exact fx_of (k := 2) (n := 4) (b := b_whole) F m S (FunD.bindsN (ps := [Str.ofString "row", Str.ofString "sizes"]) F (fun _ _ _ _ _ _ us hl => match us, hl with | [_, _], _ => rfl)) fun cdv A outer s H E hr tk => by
    exact snd_seq (snd_set (i := 2) S.nd (snd_int)) (snd_seq (snd_for (passes_of rfl) rfl (snd_rev (by rfl) g_reversed (snd_var 0)) (snd_gName S.nd (i := 3)) (snd_one' (snd_set (i := 2) S.nd (snd_bin op_mod b_mod (snd_bin or_add b_add (snd_bin or_mul b_mul (snd_var 2) (snd_fld (x := "base") (snd_var 1))) (snd_var 3)) (prop_f (y := "modulus") h_Sizes_modulus hr (snd_var 1) (by omega)))))) (snd_one' (snd_retV 2)))
theorem sc__law_digits_so : FnScope [Str.ofString "_law_frame_here", Str.ofString "_law_five_here", Str.ofString "_law_q", Str.ofString "_law_n", Str.ofString "_law_half", Str.ofString "_law_told", Str.ofString "_law_rest", Str.ofString "_law_place", Str.ofString "_law_each"] [Str.ofString "_law_frame_here", Str.ofString "_law_five_here", Str.ofString "_law_q", Str.ofString "_law_n"] (defScope (top 27)) := ⟨rfl, rfl, rfl, by decide +kernel, rfl, by decide +kernel, by decide +kernel⟩
theorem ok__law_digits_so {fd : FuncData} (F : FunD K (Str.ofString "_law_digits_so") (Str.ofString "_law_digits_so") (defArgs (top 27)) (defBody (top 27)) (defScope (top 27)) [] [] (He.ga K (Str.ofString "_law_digits_so")) fd) (m : mg (Str.ofString "_law_digits_so") = some (.ref (He.ga K (Str.ofString "_law_digits_so")))) (h_digits : Fx P w K mg base 3 (Str.ofString "digits") (top 3) [Str.ofString "value", Str.ofString "sizes"] w_digits) (h__law_is_number : Fx P w K mg base 1 (Str.ofString "_law_is_number") (top 18) [Str.ofString "_law_thing", Str.ofString "_law_low", Str.ofString "_law_top"] w__law_is_number) (h__law_like : Fx P w K mg base (0 + 8) (Str.ofString "_law_like") (top 17) [Str.ofString "_law_told", Str.ofString "_law_due"] (w__law_like 8)) (h_whole : Fx P w K mg base 3 (Str.ofString "whole") (top 4) [Str.ofString "row", Str.ofString "sizes"] w_whole) (g_isinstance : mg (Str.ofString "isinstance") = none) (g_list : mg (Str.ofString "list") = none) (g_len : mg (Str.ofString "len") = none) (g_all : mg (Str.ofString "all") = none) (g_int : mg (Str.ofString "int") = none) (g_tuple : mg (Str.ofString "tuple") = none) : Fx P w K mg base 10 (Str.ofString "_law_digits_so") (top 27) [Str.ofString "_law_frame_here", Str.ofString "_law_five_here", Str.ofString "_law_q", Str.ofString "_law_n"] w__law_digits_so := by
  have S := sc__law_digits_so
  exact fx_of (k := 9) (n := 9) (b := b__law_digits_so) F m S (FunD.bindsN (ps := [Str.ofString "_law_frame_here", Str.ofString "_law_five_here", Str.ofString "_law_q", Str.ofString "_law_n"]) F (fun _ _ _ _ _ _ us hl => match us, hl with | [_, _, _, _], _ => rfl)) fun cdv A outer s H E hr tk => by
    exact snd_seq (snd_set (i := 4) S.nd (snd_bin op_fdivW b_fdiv (snd_idx (snd_var 1) (snd_int)) (snd_int))) (snd_seq (snd_ref (i := 5) S.nd (call_f h_digits tk hr (snd_cons (snd_var 3) (snd_cons (snd_var 0) (snd_nil))) (len_cons (len_cons len_nil)) (by omega))) (snd_seq (snd_sIf (PW.pt (snd_tOr (snd_tNot (snd_tVal (snd_is1 .list tb_list (by rfl) g_isinstance (by rfl) g_list (snd_var 5)))) (snd_or1 (snd_tCmp (or_ne hr.units) c_ne isBB_ne (snd_len (by rfl) g_len (snd_var 5)) (snd_idx (snd_var 1) (snd_int)) rfl)))) (snd_one' (snd_ret (snd_non))) (snd_sNext)) (snd_seq (snd_sIf (snd_tNot (snd_tVal (snd_all (by rfl) (by rfl) g_all (snd_comp (own := [("_law_each", 8)]) rfl S.nd (blkOk_by (N := [Str.ofString "_law_frame_here", Str.ofString "_law_five_here", Str.ofString "_law_q", Str.ofString "_law_n", Str.ofString "_law_half", Str.ofString "_law_told", Str.ofString "_law_rest", Str.ofString "_law_place", Str.ofString "_law_each"]) (sc := defScope (top 27)) (by decide +kernel)) (by decide) (snd_iList (snd_var 5)) (fun _ _ _ _ _ => snd_gName S.nd (i := 8)) (fun _ _ _ _ _ => snd_yes) (fun _ _ _ _ _ => call_f h__law_is_number takes0 hr (snd_cons (snd_var 8) (snd_cons (snd_bin op_sub b_sub (snd_int) (snd_var 4)) (snd_cons (snd_bin op_sub b_sub (snd_var 4) (snd_int)) (snd_nil)))) (len_cons (len_cons (len_cons len_nil))) (by omega)))))) (snd_one' (snd_ret (snd_non))) (snd_sNext)) (snd_seq (snd_par (i := 6) (j := 7) rfl S.nd (snd_bin op_mod b_mod (snd_toInt (by rfl) g_int (snd_var 3)) (snd_var 2)) (snd_int)) (snd_seq (snd_for (passes_of rfl) rfl (snd_iList (snd_var 5)) (snd_gName S.nd (i := 8)) (snd_one' (snd_par (i := 6) (j := 7) rfl S.nd (snd_bin op_sub b_sub (snd_var 6) (snd_bin or_mul b_mul (snd_var 8) (snd_var 7))) (snd_bin or_mul b_mul (snd_var 7) (snd_idx (snd_var 1) (snd_int)))))) (snd_seq (snd_sIf (snd_tCmp (or_ne hr.units) c_ne isBB_ne (snd_bin op_mod b_mod (snd_toInt (by rfl) g_int (snd_var 6)) (snd_var 2)) (snd_int) rfl) (snd_one' (snd_ret (snd_non))) (snd_sNext)) (snd_seq (snd_sIf (snd_tNot (snd_tVal (call_f h__law_like tk hr (snd_cons (snd_lst (snd_cons (call_f h_whole tk hr (snd_cons (snd_var 5) (snd_cons (snd_var 0) (snd_nil))) (len_cons (len_cons len_nil)) (by omega)) (snd_cons (call_f h_whole tk hr (snd_cons (snd_tuple (by rfl) g_tuple (snd_var 5)) (snd_cons (snd_var 0) (snd_nil))) (len_cons (len_cons len_nil)) (by omega)) (snd_nil)))) (snd_cons (snd_lst (snd_cons (snd_bin op_mod b_mod (snd_toInt (by rfl) g_int (snd_var 3)) (snd_var 2)) (snd_cons (snd_bin op_mod b_mod (snd_toInt (by rfl) g_int (snd_var 3)) (snd_var 2)) (snd_nil)))) (snd_nil))) (len_cons (len_cons len_nil)) (by omega)))) (snd_one' (snd_ret (snd_non))) (snd_sNext)) (snd_one' (snd_retV 5)))))))))
theorem sc_centered : FnScope [Str.ofString "value", Str.ofString "sizes", Str.ofString "residue"] [Str.ofString "value", Str.ofString "sizes"] (defScope (top 2)) := ⟨rfl, rfl, rfl, by decide +kernel, rfl, by decide +kernel, by decide +kernel⟩
theorem ok_centered {fd : FuncData} (F : FunD K (Str.ofString "centered") (Str.ofString "centered") (defArgs (top 2)) (defBody (top 2)) (defScope (top 2)) [] [] (He.ga K (Str.ofString "centered")) fd) (m : mg (Str.ofString "centered") = some (.ref (He.ga K (Str.ofString "centered")))) (h_Sizes_modulus : Px P w K mg base 1 "Sizes" "modulus" w_Sizes_modulus) : Fx P w K mg base 3 (Str.ofString "centered") (top 2) [Str.ofString "value", Str.ofString "sizes"] w_centered := by
  have S := sc_centered
  exact fx_of (k := 2) (n := 3) (b := b_centered) F m S (FunD.bindsN (ps := [Str.ofString "value", Str.ofString "sizes"]) F (fun _ _ _ _ _ _ us hl => match us, hl with | [_, _], _ => rfl)) fun cdv A outer s H E hr tk => by
    exact snd_seq (snd_set (i := 2) S.nd (snd_bin op_mod b_mod (snd_var 0) (prop_f (y := "modulus") h_Sizes_modulus hr (snd_var 1) (by omega)))) (snd_seq (snd_sIf (snd_tCmp op_ge c_ge isBB_ge (snd_var 2) (snd_bin op_fdivW b_fdiv (prop_f (y := "modulus") h_Sizes_modulus hr (snd_var 1) (by omega)) (snd_int)) rfl) (snd_one' (snd_ret (snd_bin op_sub b_sub (snd_var 2) (prop_f (y := "modulus") h_Sizes_modulus hr (snd_var 1) (by omega))))) (snd_sNext)) (snd_one' (snd_retV 2)))
theorem sc__law_center_so : FnScope [Str.ofString "_law_frame_here", Str.ofString "_law_q", Str.ofString "_law_n", Str.ofString "_law_told"] [Str.ofString "_law_frame_here", Str.ofString "_law_q", Str.ofString "_law_n"] (defScope (top 28)) := ⟨rfl, rfl, rfl, by decide +kernel, rfl, by decide +kernel, by decide +kernel⟩
theorem ok__law_center_so {fd : FuncData} (F : FunD K (Str.ofString "_law_center_so") (Str.ofString "_law_center_so") (defArgs (top 28)) (defBody (top 28)) (defScope (top 28)) [] [] (He.ga K (Str.ofString "_law_center_so")) fd) (m : mg (Str.ofString "_law_center_so") = some (.ref (He.ga K (Str.ofString "_law_center_so")))) (h_centered : Fx P w K mg base 3 (Str.ofString "centered") (top 2) [Str.ofString "value", Str.ofString "sizes"] w_centered) (h__law_is_number : Fx P w K mg base 1 (Str.ofString "_law_is_number") (top 18) [Str.ofString "_law_thing", Str.ofString "_law_low", Str.ofString "_law_top"] w__law_is_number) (g_int : mg (Str.ofString "int") = none) : Fx P w K mg base 4 (Str.ofString "_law_center_so") (top 28) [Str.ofString "_law_frame_here", Str.ofString "_law_q", Str.ofString "_law_n"] w__law_center_so := by
  have S := sc__law_center_so
  exact fx_of (k := 3) (n := 4) (b := b__law_center_so) F m S (FunD.bindsN (ps := [Str.ofString "_law_frame_here", Str.ofString "_law_q", Str.ofString "_law_n"]) F (fun _ _ _ _ _ _ us hl => match us, hl with | [_, _, _], _ => rfl)) fun cdv A outer s H E hr tk => by
    exact snd_seq (snd_set (i := 3) S.nd (call_f h_centered tk hr (snd_cons (snd_var 2) (snd_cons (snd_var 0) (snd_nil))) (len_cons (len_cons len_nil)) (by omega))) (snd_one' (snd_fz [3] (snd_ret (snd_eAnd (call_f h__law_is_number tk hr (snd_cons (snd_var 3) (snd_cons (snd_bin op_sub b_sub (snd_int) (snd_bin op_fdivW b_fdiv (snd_var 1) (snd_int))) (snd_cons (snd_bin op_sub b_sub (snd_bin op_fdivW b_fdiv (snd_var 1) (snd_int)) (snd_int)) (snd_nil)))) (len_cons (len_cons (len_cons len_nil))) (by omega)) (snd_one (snd_cmp (or_eq hr.units) c_eq (snd_bin op_mod b_mod (snd_toInt (by rfl) g_int (snd_bin op_sub b_sub (snd_var 3) (snd_var 2))) (snd_var 1)) (snd_int) rfl))))))
theorem sc__law_sum : FnScope [Str.ofString "_law_lot", Str.ofString "_law_big", Str.ofString "_law_q", Str.ofString "_law_total", Str.ofString "_law_k"] [Str.ofString "_law_lot", Str.ofString "_law_big", Str.ofString "_law_q"] (defScope (top 25)) := ⟨rfl, rfl, rfl, by decide +kernel, rfl, by decide +kernel, by decide +kernel⟩
theorem ok__law_sum {fd : FuncData} (F : FunD K (Str.ofString "_law_sum") (Str.ofString "_law_sum") (defArgs (top 25)) (defBody (top 25)) (defScope (top 25)) [] [] (He.ga K (Str.ofString "_law_sum")) fd) (m : mg (Str.ofString "_law_sum") = some (.ref (He.ga K (Str.ofString "_law_sum")))) (g_len : mg (Str.ofString "len") = none) (g_range : mg (Str.ofString "range") = none) (g_int : mg (Str.ofString "int") = none) : Fx P w K mg base 1 (Str.ofString "_law_sum") (top 25) [Str.ofString "_law_lot", Str.ofString "_law_big", Str.ofString "_law_q"] w__law_sum := by
  have S := sc__law_sum
  exact fx_of (k := 0) (n := 5) (b := b__law_sum) F m S (FunD.bindsN (ps := [Str.ofString "_law_lot", Str.ofString "_law_big", Str.ofString "_law_q"]) F (fun _ _ _ _ _ _ us hl => match us, hl with | [_, _, _], _ => rfl)) fun cdv A outer s H E hr tk => by
    exact snd_seq (snd_set (i := 3) S.nd (snd_int)) (snd_seq (snd_for (passes_of rfl) rfl (snd_range1 (by rfl) g_range (snd_len (by rfl) g_len (snd_var 0))) (snd_gName S.nd (i := 4)) (snd_one' (snd_set (i := 3) S.nd (snd_bin op_mod b_mod (snd_toInt (by rfl) g_int (snd_bin or_add b_add (snd_bin or_mul b_mul (snd_var 3) (snd_var 1)) (snd_idx (snd_var 0) (snd_bin op_sub b_sub (snd_bin op_sub b_sub (snd_len (by rfl) g_len (snd_var 0)) (snd_int)) (snd_var 4))))) (snd_var 2))))) (snd_one' (snd_retV 3)))
theorem sc__law_number_so : FnScope [Str.ofString "_law_bag_here", Str.ofString "_law_frame_here", Str.ofString "_law_five_here", Str.ofString "_law_q", Str.ofString "_law_n", Str.ofString "_law_told", Str.ofString "_law_kept", Str.ofString "_law_moved", Str.ofString "_law_middle"] [Str.ofString "_law_bag_here", Str.ofString "_law_frame_here", Str.ofString "_law_five_here", Str.ofString "_law_q", Str.ofString "_law_n"] (defScope (top 29)) := ⟨rfl, rfl, rfl, by decide +kernel, rfl, by decide +kernel, by decide +kernel⟩
theorem ok__law_number_so {fd : FuncData} (F : FunD K (Str.ofString "_law_number_so") (Str.ofString "_law_number_so") (defArgs (top 29)) (defBody (top 29)) (defScope (top 29)) [] [] (He.ga K (Str.ofString "_law_number_so")) fd) (m : mg (Str.ofString "_law_number_so") = some (.ref (He.ga K (Str.ofString "_law_number_so")))) (h__law_digits_so : Fx P w K mg base 10 (Str.ofString "_law_digits_so") (top 27) [Str.ofString "_law_frame_here", Str.ofString "_law_five_here", Str.ofString "_law_q", Str.ofString "_law_n"] w__law_digits_so) (h__law_center_so : Fx P w K mg base 4 (Str.ofString "_law_center_so") (top 28) [Str.ofString "_law_frame_here", Str.ofString "_law_q", Str.ofString "_law_n"] w__law_center_so) (h__law_draw : Fx P w K mg base 1 (Str.ofString "_law_draw") (top 15) [Str.ofString "_law_bag_here", Str.ofString "_law_size"] w__law_draw) (h__law_of : Fx P w K mg base 2 (Str.ofString "_law_of") (top 16) [Str.ofString "_law_bag_here", Str.ofString "_law_things"] w__law_of) (h__law_like : Fx P w K mg base (0 + 8) (Str.ofString "_law_like") (top 17) [Str.ofString "_law_told", Str.ofString "_law_due"] (w__law_like 8)) (h_digits : Fx P w K mg base 3 (Str.ofString "digits") (top 3) [Str.ofString "value", Str.ofString "sizes"] w_digits) (h_centered : Fx P w K mg base 3 (Str.ofString "centered") (top 2) [Str.ofString "value", Str.ofString "sizes"] w_centered) (h_whole : Fx P w K mg base 3 (Str.ofString "whole") (top 4) [Str.ofString "row", Str.ofString "sizes"] w_whole) (h__law_sum : Fx P w K mg base 1 (Str.ofString "_law_sum") (top 25) [Str.ofString "_law_lot", Str.ofString "_law_big", Str.ofString "_law_q"] w__law_sum) (g_tuple : mg (Str.ofString "tuple") = none) (g_len : mg (Str.ofString "len") = none) (g_list : mg (Str.ofString "list") = none) : Fx P w K mg base 11 (Str.ofString "_law_number_so") (top 29) [Str.ofString "_law_bag_here", Str.ofString "_law_frame_here", Str.ofString "_law_five_here", Str.ofString "_law_q", Str.ofString "_law_n"] w__law_number_so := by
  have S := sc__law_number_so
  exact fx_of (k := 10) (n := 9) (b := b__law_number_so) F m S (FunD.bindsN (ps := [Str.ofString "_law_bag_here", Str.ofString "_law_frame_here", Str.ofString "_law_five_here", Str.ofString "_law_q", Str.ofString "_law_n"]) F (fun _ _ _ _ _ _ us hl => match us, hl with | [_, _, _, _, _], _ => rfl)) fun cdv A outer s H E hr tk => by
    exact snd_seq (snd_set (i := 5) S.nd (call_f h__law_digits_so tk hr (snd_cons (snd_var 1) (snd_cons (snd_var 2) (snd_cons (snd_var 3) (snd_cons (snd_var 4) (snd_nil))))) (len_cons (len_cons (len_cons (len_cons len_nil)))) (by omega))) (snd_seq (snd_sIf (PW.pt (snd_tOr (snd_tIsN (snd_var 5)) (snd_or1 (snd_tNot (snd_tVal (call_f h__law_center_so tk hr (snd_cons (snd_var 1) (snd_cons (snd_var 3) (snd_cons (snd_var 4) (snd_nil)))) (len_cons (len_cons (len_cons len_nil))) (by omega))))))) (snd_one' (snd_ret (snd_bl))) (snd_sNext)) (snd_seq (snd_set (i := 6) S.nd (snd_tuple (by rfl) g_tuple (snd_var 5))) (snd_seq (snd_put 5 (snd_bin op_pow b_pow (snd_int) (snd_int)) (call_f h__law_draw tk hr (snd_cons (snd_var 0) (snd_cons (snd_len (by rfl) g_len (snd_var 5)) (snd_nil))) (len_cons (len_cons len_nil)) (by omega))) (snd_seq (snd_app 5 (snd_int)) (snd_seq (snd_set (i := 7) S.nd (snd_bin or_add b_add (snd_var 4) (snd_bin or_mul b_mul (snd_var 3) (call_f h__law_of tk hr (snd_cons (snd_var 0) (snd_cons (snd_lst (snd_cons (snd_int) (snd_cons (snd_bin op_sub b_sub (snd_int) (snd_int)) (snd_cons (snd_int) (snd_cons (snd_bin op_sub b_sub (snd_int) (snd_int)) (snd_nil)))))) (snd_nil))) (len_cons (len_cons len_nil)) (by omega))))) (snd_seq (snd_fz [7] (snd_sIf (snd_tNot (snd_tVal (call_f h__law_like tk hr (snd_cons (snd_lst (snd_cons (call_f h_digits tk hr (snd_cons (snd_var 7) (snd_cons (snd_var 1) (snd_nil))) (len_cons (len_cons len_nil)) (by omega)) (snd_cons (call_fk0 (ks := ["sizes", "value"]) h_digits tk hr [1, 0] (fun _ _ _ _ _ _ us ws hu hw => match us, ws, hu, hw with | [], [_, _], _, _ => rfl) (snd_kCons (snd_var 1) (snd_kCons (snd_var 4) (snd_kNil))) (len_cons (len_cons len_nil)) (by omega)) (snd_nil)))) (snd_cons (snd_lst (snd_cons (snd_list (by rfl) g_list (snd_var 6)) (snd_cons (snd_list (by rfl) g_list (snd_var 6)) (snd_nil)))) (snd_nil))) (len_cons (len_cons len_nil)) (by omega)))) (snd_one' (snd_ret (snd_bl))) (snd_sNext))) (snd_seq (snd_set (i := 8) S.nd (call_f h_centered tk hr (snd_cons (snd_var 4) (snd_cons (snd_var 1) (snd_nil))) (len_cons (len_cons len_nil)) (by omega))) (snd_seq (snd_fz [7, 8] (snd_sIf (snd_tNot (snd_tVal (call_f h__law_like tk hr (snd_cons (snd_lst (snd_cons (call_f h_centered tk hr (snd_cons (snd_var 7) (snd_cons (snd_var 1) (snd_nil))) (len_cons (len_cons len_nil)) (by omega)) (snd_cons (call_fk0 (ks := ["sizes", "value"]) h_centered tk hr [1, 0] (fun _ _ _ _ _ _ us ws hu hw => match us, ws, hu, hw with | [], [_, _], _, _ => rfl) (snd_kCons (snd_var 1) (snd_kCons (snd_var 8) (snd_kNil))) (len_cons (len_cons len_nil)) (by omega)) (snd_nil)))) (snd_cons (snd_lst (snd_cons (snd_var 8) (snd_cons (snd_var 8) (snd_nil)))) (snd_nil))) (len_cons (len_cons len_nil)) (by omega)))) (snd_one' (snd_ret (snd_bl))) (snd_sNext))) (snd_one' (snd_fz [5, 8] (snd_ret (call_f h__law_like tk hr (snd_cons (snd_lst (snd_cons (call_f h_digits tk hr (snd_cons (snd_var 8) (snd_cons (snd_var 1) (snd_nil))) (len_cons (len_cons len_nil)) (by omega)) (snd_cons (call_f h_whole tk hr (snd_cons (snd_var 5) (snd_cons (snd_var 1) (snd_nil))) (len_cons (len_cons len_nil)) (by omega)) (snd_nil)))) (snd_cons (snd_lst (snd_cons (snd_list (by rfl) g_list (snd_var 6)) (snd_cons (call_f h__law_sum tk hr (snd_cons (snd_var 5) (snd_cons (snd_idx (snd_var 2) (snd_int)) (snd_cons (snd_var 3) (snd_nil)))) (len_cons (len_cons (len_cons len_nil))) (by omega)) (snd_nil)))) (snd_nil))) (len_cons (len_cons len_nil)) (by omega)))))))))))))
theorem sc__law_drawn_digits : FnScope [Str.ofString "_law_bag_here", Str.ofString "_law_five_here", Str.ofString "_law_half", Str.ofString "_law_lot", Str.ofString "_law_k"] [Str.ofString "_law_bag_here", Str.ofString "_law_five_here"] (defScope (top 26)) := ⟨rfl, rfl, rfl, by decide +kernel, rfl, by decide +kernel, by decide +kernel⟩
theorem ok__law_drawn_digits {fd : FuncData} (F : FunD K (Str.ofString "_law_drawn_digits") (Str.ofString "_law_drawn_digits") (defArgs (top 26)) (defBody (top 26)) (defScope (top 26)) [] [] (He.ga K (Str.ofString "_law_drawn_digits")) fd) (m : mg (Str.ofString "_law_drawn_digits") = some (.ref (He.ga K (Str.ofString "_law_drawn_digits")))) (h__law_of : Fx P w K mg base 2 (Str.ofString "_law_of") (top 16) [Str.ofString "_law_bag_here", Str.ofString "_law_things"] w__law_of) (h__law_draw : Fx P w K mg base 1 (Str.ofString "_law_draw") (top 15) [Str.ofString "_law_bag_here", Str.ofString "_law_size"] w__law_draw) (g_range : mg (Str.ofString "range") = none) : Fx P w K mg base 3 (Str.ofString "_law_drawn_digits") (top 26) [Str.ofString "_law_bag_here", Str.ofString "_law_five_here"] w__law_drawn_digits := by
  have S := sc__law_drawn_digits
  exact fx_of (k := 2) (n := 5) (b := b__law_drawn_digits) F m S (FunD.bindsN (ps := [Str.ofString "_law_bag_here", Str.ofString "_law_five_here"]) F (fun _ _ _ _ _ _ us hl => match us, hl with | [_, _], _ => rfl)) fun cdv A outer s H E hr tk => by
    exact snd_seq (snd_set (i := 2) S.nd (snd_bin op_fdivW b_fdiv (snd_idx (snd_var 1) (snd_int)) (snd_int))) (snd_seq (snd_set (i := 3) S.nd (snd_lst (snd_nil))) (snd_seq (snd_for (passes_of rfl) rfl (snd_range1 (by rfl) g_range (snd_idx (snd_var 1) (snd_int))) (snd_gName S.nd (i := 4)) (snd_one' (snd_app 3 (call_f h__law_of tk hr (snd_cons (snd_var 0) (snd_cons (snd_lst (snd_cons (snd_int) (snd_cons (snd_bin op_sub b_sub (snd_var 2) (snd_int)) (snd_cons (snd_bin op_sub b_sub (snd_int) (snd_var 2)) (snd_cons (snd_int) (snd_cons (snd_bin op_sub b_sub (snd_int) (snd_int)) (snd_cons (snd_bin op_sub b_sub (snd_int) (snd_var 2)) (snd_cons (snd_bin op_sub b_sub (call_f h__law_draw tk hr (snd_cons (snd_var 0) (snd_cons (snd_idx (snd_var 1) (snd_int)) (snd_nil))) (len_cons (len_cons len_nil)) (by omega)) (snd_var 2)) (snd_nil))))))))) (snd_nil))) (len_cons (len_cons len_nil)) (by omega))))) (snd_one' (snd_retV 3))))
theorem sc__law_rows_so : FnScope [Str.ofString "_law_bag_here", Str.ofString "_law_frame_here", Str.ofString "_law_five_here", Str.ofString "_law_q", Str.ofString "_law_many", Str.ofString "_law_lot", Str.ofString "_law_kept", Str.ofString "_law_due", Str.ofString "_law_more", Str.ofString "_law_k"] [Str.ofString "_law_bag_here", Str.ofString "_law_frame_here", Str.ofString "_law_five_here", Str.ofString "_law_q"] (defScope (top 30)) := ⟨rfl, rfl, rfl, by decide +kernel, rfl, by decide +kernel, by decide +kernel⟩
theorem ok__law_rows_so {fd : FuncData} (F : FunD K (Str.ofString "_law_rows_so") (Str.ofString "_law_rows_so") (defArgs (top 30)) (defBody (top 30)) (defScope (top 30)) [] [] (He.ga K (Str.ofString "_law_rows_so")) fd) (m : mg (Str.ofString "_law_rows_so") = some (.ref (He.ga K (Str.ofString "_law_rows_so")))) (h__law_of : Fx P w K mg base 2 (Str.ofString "_law_of") (top 16) [Str.ofString "_law_bag_here", Str.ofString "_law_things"] w__law_of) (h__law_draw : Fx P w K mg base 1 (Str.ofString "_law_draw") (top 15) [Str.ofString "_law_bag_here", Str.ofString "_law_size"] w__law_draw) (h__law_loose : Fx P w K mg base 4 (Str.ofString "_law_loose") (top 24) [Str.ofString "_law_bag_here", Str.ofString "_law_q"] w__law_loose) (h__law_sum : Fx P w K mg base 1 (Str.ofString "_law_sum") (top 25) [Str.ofString "_law_lot", Str.ofString "_law_big", Str.ofString "_law_q"] w__law_sum) (h__law_like : Fx P w K mg base (0 + 8) (Str.ofString "_law_like") (top 17) [Str.ofString "_law_told", Str.ofString "_law_due"] (w__law_like 8)) (h_whole : Fx P w K mg base 3 (Str.ofString "whole") (top 4) [Str.ofString "row", Str.ofString "sizes"] w_whole) (h_digits : Fx P w K mg base 3 (Str.ofString "digits") (top 3) [Str.ofString "value", Str.ofString "sizes"] w_digits) (g_range : mg (Str.ofString "range") = none) (g_tuple : mg (Str.ofString "tuple") = none) (g_list : mg (Str.ofString "list") = none) (g_len : mg (Str.ofString "len") = none) : Fx P w K mg base 10 (Str.ofString "_law_rows_so") (top 30) [Str.ofString "_law_bag_here", Str.ofString "_law_frame_here", Str.ofString "_law_five_here", Str.ofString "_law_q"] w__law_rows_so := by
  have S := sc__law_rows_so
  exact fx_of (k := 9) (n := 10) (b := b__law_rows_so) F m S (FunD.bindsN (ps := [Str.ofString "_law_bag_here", Str.ofString "_law_frame_here", Str.ofString "_law_five_here", Str.ofString "_law_q"]) F (fun _ _ _ _ _ _ us hl => match us, hl with | [_, _, _, _], _ => rfl)) fun cdv A outer s H E hr tk => by
    exact snd_seq (snd_set (i := 4) S.nd (call_f h__law_of tk hr (snd_cons (snd_var 0) (snd_cons (snd_lst (snd_cons (snd_int) (snd_cons (snd_int) (snd_cons (snd_idx (snd_var 2) (snd_int)) (snd_cons (snd_bin or_add b_add (snd_idx (snd_var 2) (snd_int)) (snd_int)) (snd_cons (call_f h__law_draw tk hr (snd_cons (snd_var 0) (snd_cons (snd_int) (snd_nil))) (len_cons (len_cons len_nil)) (by omega)) (snd_cons (call_f h__law_draw tk hr (snd_cons (snd_var 0) (snd_cons (snd_int) (snd_nil))) (len_cons (len_cons len_nil)) (by omega)) (snd_nil)))))))) (snd_nil))) (len_cons (len_cons len_nil)) (by omega))) (snd_seq (snd_fz [4] (snd_setLc (i := 5) (own := [("_law_k", 9)]) rfl S.nd (blkOk_by (N := [Str.ofString "_law_bag_here", Str.ofString "_law_frame_here", Str.ofString "_law_five_here", Str.ofString "_law_q", Str.ofString "_law_many", Str.ofString "_law_lot", Str.ofString "_law_kept", Str.ofString "_law_due", Str.ofString "_law_more", Str.ofString "_law_k"]) (sc := defScope (top 30)) (by decide +kernel)) (by decide) (snd_range1 (by rfl) g_range (snd_var 4)) (fun _ _ _ _ _ => snd_gName S.nd (i := 9)) (fun _ _ _ _ _ => snd_yes) (fun _ _ _ _ _ => call_f h__law_of takes0 hr (snd_cons (snd_var 0) (snd_cons (snd_lst (snd_cons (call_f h__law_loose takes0 hr (snd_cons (snd_var 0) (snd_cons (snd_var 3) (snd_nil))) (len_cons (len_cons len_nil)) (by omega)) (snd_cons (snd_bin op_sub b_sub (call_f h__law_draw takes0 hr (snd_cons (snd_var 0) (snd_cons (snd_int) (snd_nil))) (len_cons (len_cons len_nil)) (by omega)) (snd_int)) (snd_nil)))) (snd_nil))) (len_cons (len_cons len_nil)) (by omega)))) (snd_seq (snd_sIf (snd_tCmp (or_eq hr.units) c_eq isBB_eq (call_f h__law_draw tk hr (snd_cons (snd_var 0) (snd_cons (snd_int) (snd_nil))) (len_cons (len_cons len_nil)) (by omega)) (snd_int) rfl) (snd_one' (snd_set (i := 5) S.nd (snd_bin or_mul b_mul (snd_var 5) (snd_bin op_fdivW b_fdiv (snd_int) (snd_bin or_add b_add (snd_int) (snd_var 4)))))) (snd_sNext)) (snd_seq (snd_set (i := 6) S.nd (snd_tuple (by rfl) g_tuple (snd_var 5))) (snd_seq (snd_fz [5] (snd_set (i := 7) S.nd (call_f h__law_sum tk hr (snd_cons (snd_var 5) (snd_cons (snd_idx (snd_var 2) (snd_int)) (snd_cons (snd_var 3) (snd_nil)))) (len_cons (len_cons (len_cons len_nil))) (by omega)))) (snd_seq (snd_fz [5, 6, 7] (snd_sIf (PW.pt (snd_tOr (snd_tNot (snd_tVal (call_f h__law_like tk hr (snd_cons (snd_lst (snd_cons (call_f h_whole tk hr (snd_cons (snd_var 5) (snd_cons (snd_var 1) (snd_nil))) (len_cons (len_cons len_nil)) (by omega)) (snd_cons (call_fk0 (ks := ["sizes", "row"]) h_whole tk hr [1, 0] (fun _ _ _ _ _ _ us ws hu hw => match us, ws, hu, hw with | [], [_, _], _, _ => rfl) (snd_kCons (snd_var 1) (snd_kCons (snd_var 6) (snd_kNil))) (len_cons (len_cons len_nil)) (by omega)) (snd_nil)))) (snd_cons (snd_lst (snd_cons (snd_var 7) (snd_cons (snd_var 7) (snd_nil)))) (snd_nil))) (len_cons (len_cons len_nil)) (by omega)))) (snd_or1 (snd_tNot (snd_tVal (call_f h__law_like tk hr (snd_cons (snd_var 5) (snd_cons (snd_list (by rfl) g_list (snd_var 6)) (snd_nil))) (len_cons (len_cons len_nil)) (by omega))))))) (snd_one' (snd_ret (snd_bl))) (snd_sNext))) (snd_seq (snd_set (i := 8) S.nd (snd_bin or_add b_add (snd_sl (snd_var 5) (snd_no) (snd_part (snd_idx (snd_var 2) (snd_int)))) (snd_comp (own := [("_law_k", 9)]) rfl S.nd (blkOk_by (N := [Str.ofString "_law_bag_here", Str.ofString "_law_frame_here", Str.ofString "_law_five_here", Str.ofString "_law_q", Str.ofString "_law_many", Str.ofString "_law_lot", Str.ofString "_law_kept", Str.ofString "_law_due", Str.ofString "_law_more", Str.ofString "_law_k"]) (sc := defScope (top 30)) (by decide +kernel)) (by decide) (snd_range1 (by rfl) g_range (snd_int)) (fun _ _ _ _ _ => snd_gName S.nd (i := 9)) (fun _ _ _ _ _ => snd_yes) (fun _ _ _ _ _ => call_f h__law_loose takes0 hr (snd_cons (snd_var 0) (snd_cons (snd_var 3) (snd_nil))) (len_cons (len_cons len_nil)) (by omega))))) (snd_seq (snd_fz [8] (snd_sIf (PW.pt (snd_tAnd (snd_tCmp op_ge c_ge isBB_ge (snd_len (by rfl) g_len (snd_var 5)) (snd_idx (snd_var 2) (snd_int)) rfl) (snd_and1 (snd_tNot (snd_tVal (call_f h__law_like tk hr (snd_cons (call_f h_whole tk hr (snd_cons (snd_var 8) (snd_cons (snd_var 1) (snd_nil))) (len_cons (len_cons len_nil)) (by omega)) (snd_cons (call_f h_whole tk hr (snd_cons (snd_sl (snd_var 8) (snd_no) (snd_part (snd_idx (snd_var 2) (snd_int)))) (snd_cons (snd_var 1) (snd_nil))) (len_cons (len_cons len_nil)) (by omega)) (snd_nil))) (len_cons (len_cons len_nil)) (by omega))))))) (snd_one' (snd_ret (snd_bl))) (snd_sNext))) (snd_one' (snd_fz [7] (snd_ret (call_f h__law_like tk hr (snd_cons (call_f h_whole tk hr (snd_cons (call_f h_digits tk hr (snd_cons (snd_var 7) (snd_cons (snd_var 1) (snd_nil))) (len_cons (len_cons len_nil)) (by omega)) (snd_cons (snd_var 1) (snd_nil))) (len_cons (len_cons len_nil)) (by omega)) (snd_cons (snd_var 7) (snd_nil))) (len_cons (len_cons len_nil)) (by omega))))))))))))
theorem sc_law : FnScope [Str.ofString "_law_script", Str.ofString "_law_bag_here", Str.ofString "_law_lap", Str.ofString "_law_five_here", Str.ofString "_law_k", Str.ofString "_law_q", Str.ofString "_law_frame_here", Str.ofString "_law_n", Str.ofString "_law_drawn"] [Str.ofString "_law_script"] (defScope (top 31)) := ⟨rfl, rfl, rfl, by decide +kernel, rfl, by decide +kernel, by decide +kernel⟩
theorem ok_law {fd : FuncData} (F : FunD K (Str.ofString "law") (Str.ofString "law") (defArgs (top 31)) (defBody (top 31)) (defScope (top 31)) [] [] (He.ga K (Str.ofString "law")) fd) (m : mg (Str.ofString "law") = some (.ref (He.ga K (Str.ofString "law")))) (h__law_bag : Fx P w K mg base 1 (Str.ofString "_law_bag") (top 14) [Str.ofString "_law_script"] w__law_bag) (h__law_five : Fx P w K mg base 3 (Str.ofString "_law_five") (top 20) [Str.ofString "_law_bag_here"] w__law_five) (h__law_modulus : Fx P w K mg base 1 (Str.ofString "_law_modulus") (top 21) [Str.ofString "_law_five_here"] w__law_modulus) (h__law_frame : Fx P w K mg base 5 (Str.ofString "_law_frame") (top 22) [Str.ofString "_law_five_here"] w__law_frame) (h__law_loose : Fx P w K mg base 4 (Str.ofString "_law_loose") (top 24) [Str.ofString "_law_bag_here", Str.ofString "_law_q"] w__law_loose) (h__law_number_so : Fx P w K mg base 11 (Str.ofString "_law_number_so") (top 29) [Str.ofString "_law_bag_here", Str.ofString "_law_frame_here", Str.ofString "_law_five_here", Str.ofString "_law_q", Str.ofString "_law_n"] w__law_number_so) (h__law_drawn_digits : Fx P w K mg base 3 (Str.ofString "_law_drawn_digits") (top 26) [Str.ofString "_law_bag_here", Str.ofString "_law_five_here"] w__law_drawn_digits) (h__law_sum : Fx P w K mg base 1 (Str.ofString "_law_sum") (top 25) [Str.ofString "_law_lot", Str.ofString "_law_big", Str.ofString "_law_q"] w__law_sum) (h__law_of : Fx P w K mg base 2 (Str.ofString "_law_of") (top 16) [Str.ofString "_law_bag_here", Str.ofString "_law_things"] w__law_of) (h__law_like : Fx P w K mg base (0 + 8) (Str.ofString "_law_like") (top 17) [Str.ofString "_law_told", Str.ofString "_law_due"] (w__law_like 8)) (h_digits : Fx P w K mg base 3 (Str.ofString "digits") (top 3) [Str.ofString "value", Str.ofString "sizes"] w_digits) (h__law_rows_so : Fx P w K mg base 10 (Str.ofString "_law_rows_so") (top 30) [Str.ofString "_law_bag_here", Str.ofString "_law_frame_here", Str.ofString "_law_five_here", Str.ofString "_law_q"] w__law_rows_so) (g_range : mg (Str.ofString "range") = none) : Fx P w K mg base 12 (Str.ofString "law") (top 31) [Str.ofString "_law_script"] w_law := by
  have S := sc_law
  exact fx_of (k := 11) (n := 9) (b := b_law) F m S (FunD.bindsN (ps := [Str.ofString "_law_script"]) F (fun _ _ _ _ _ _ us hl => match us, hl with | [_], _ => rfl)) fun cdv A outer s H E hr tk => by
    exact snd_seq (snd_ref (i := 1) S.nd (call_f h__law_bag tk hr (snd_cons (snd_var 0) (snd_nil)) (len_cons len_nil) (by omega))) (snd_seq (snd_for (passes_of rfl) rfl (snd_range1 (by rfl) g_range (snd_int)) (snd_gName S.nd (i := 2)) (snd_seq (snd_set (i := 3) S.nd (call_f h__law_five tk hr (snd_cons (snd_var 1) (snd_nil)) (len_cons len_nil) (by omega))) (snd_seq (snd_fz [3] (snd_par (i := 5) (j := 6) rfl S.nd (call_f h__law_modulus tk hr (snd_cons (snd_var 3) (snd_nil)) (len_cons len_nil) (by omega)) (call_f h__law_frame tk hr (snd_cons (snd_var 3) (snd_nil)) (len_cons len_nil) (by omega)))) (snd_seq (snd_for (passes_of rfl) rfl (snd_range1 (by rfl) g_range (snd_int)) (snd_gName S.nd (i := 4)) (snd_seq (snd_set (i := 7) S.nd (call_f h__law_loose tk hr (snd_cons (snd_var 1) (snd_cons (snd_var 5) (snd_nil))) (len_cons (len_cons len_nil)) (by omega))) (snd_seq (snd_fz [3, 7] (snd_sIf (snd_tNot (snd_tVal (call_f h__law_number_so tk hr (snd_cons (snd_var 1) (snd_cons (snd_var 6) (snd_cons (snd_var 3) (snd_cons (snd_var 5) (snd_cons (snd_var 7) (snd_nil)))))) (len_cons (len_cons (len_cons (len_cons (len_cons len_nil))))) (by omega)))) (snd_one' (snd_ret (snd_bl))) (snd_sNext))) (snd_seq (snd_fz [3] (snd_set (i := 8) S.nd (call_f h__law_drawn_digits tk hr (snd_cons (snd_var 1) (snd_cons (snd_var 3) (snd_nil))) (len_cons (len_cons len_nil)) (by omega)))) (snd_seq (snd_fz [8] (snd_set (i := 7) S.nd (snd_bin or_add b_add (call_f h__law_sum tk hr (snd_cons (snd_var 8) (snd_cons (snd_idx (snd_var 3) (snd_int)) (snd_cons (snd_var 5) (snd_nil)))) (len_cons (len_cons (len_cons len_nil))) (by omega)) (snd_bin or_mul b_mul (snd_var 5) (call_f h__law_of tk hr (snd_cons (snd_var 1) (snd_cons (snd_lst (snd_cons (snd_int) (snd_cons (snd_int) (snd_cons (snd_bin op_sub b_sub (snd_int) (snd_int)) (snd_cons (snd_int) (snd_nil)))))) (snd_nil))) (len_cons (len_cons len_nil)) (by omega)))))) (snd_one' (snd_fz [3, 7, 8] (snd_sIf (PW.pt (snd_tOr (snd_tNot (snd_tVal (call_f h__law_like tk hr (snd_cons (call_f h_digits tk hr (snd_cons (snd_var 7) (snd_cons (snd_var 6) (snd_nil))) (len_cons (len_cons len_nil)) (by omega)) (snd_cons (snd_var 8) (snd_nil))) (len_cons (len_cons len_nil)) (by omega)))) (snd_or1 (snd_tNot (snd_tVal (call_f h__law_number_so tk hr (snd_cons (snd_var 1) (snd_cons (snd_var 6) (snd_cons (snd_var 3) (snd_cons (snd_var 5) (snd_cons (snd_var 7) (snd_nil)))))) (len_cons (len_cons (len_cons (len_cons (len_cons len_nil))))) (by omega))))))) (snd_one' (snd_ret (snd_bl))) (snd_sNext))))))))) (snd_one' (snd_for (passes_of rfl) rfl (snd_range1 (by rfl) g_range (snd_int)) (snd_gName S.nd (i := 4)) (snd_one' (snd_fz [3] (snd_sIf (snd_tNot (snd_tVal (call_f h__law_rows_so tk hr (snd_cons (snd_var 1) (snd_cons (snd_var 6) (snd_cons (snd_var 3) (snd_cons (snd_var 5) (snd_nil))))) (len_cons (len_cons (len_cons (len_cons len_nil)))) (by omega)))) (snd_one' (snd_ret (snd_bl))) (snd_sNext)))))))))) (snd_one' (snd_ret (snd_bl))))
end
end K03
end Q

set_option Elab.async false
set_option linter.all false
set_option maxRecDepth 100000
set_option maxHeartbeats 4000000
namespace Q
namespace K03
open PySem PySem.Spec PyProof.Rows L2 RZ RT C
def fa : List He.Fa := [.glo (Str.ofString "_law_bag"), .glo (Str.ofString "_law_draw"), .glo (Str.ofString "_law_of"), .glo (Str.ofString "_law_five"), .glo (Str.ofString "_law_modulus"), .glo (Str.ofString "any_number"), .glo (Str.ofString "is_number"), .glo (Str.ofString "Sizes"), .glo (Str.ofString "_law_frame"), .glo (Str.ofString "_law_great"), .glo (Str.ofString "_law_residue"), .glo (Str.ofString "_law_loose"), .glo (Str.ofString "digits"), .glo (Str.ofString "_law_is_number"), .glo (Str.ofString "_law_like"), .glo (Str.ofString "whole"), .glo (Str.ofString "_law_digits_so"), .glo (Str.ofString "centered"), .glo (Str.ofString "_law_center_so"), .glo (Str.ofString "_law_sum"), .glo (Str.ofString "_law_number_so"), .glo (Str.ofString "_law_drawn_digits"), .glo (Str.ofString "_law_rows_so"), .glo (Str.ofString "law"), .free (Str.ofString "int"), .free (Str.ofString "list"), .free (Str.ofString "len"), .free (Str.ofString "range"), .free (Str.ofString "isinstance"), .free (Str.ofString "bool"), .free (Str.ofString "dict"), .free (Str.ofString "tuple"), .free (Str.ofString "zip"), .free (Str.ofString "all"), .free (Str.ofString "str"), .free (Str.ofString "reversed")]
def fn : List He5.DefA := [⟨fun K => He.ga K (Str.ofString "_law_bag"), Str.ofString "_law_bag", Str.ofString "_law_bag", defArgs (top 14), defBody (top 14), defScope (top 14), [], []⟩,
  ⟨fun K => He.ga K (Str.ofString "_law_draw"), Str.ofString "_law_draw", Str.ofString "_law_draw", defArgs (top 15), defBody (top 15), defScope (top 15), [], []⟩,
  ⟨fun K => He.ga K (Str.ofString "_law_of"), Str.ofString "_law_of", Str.ofString "_law_of", defArgs (top 16), defBody (top 16), defScope (top 16), [], []⟩,
  ⟨fun K => He.ga K (Str.ofString "_law_five"), Str.ofString "_law_five", Str.ofString "_law_five", defArgs (top 20), defBody (top 20), defScope (top 20), [], []⟩,
  ⟨fun K => He.ga K (Str.ofString "_law_modulus"), Str.ofString "_law_modulus", Str.ofString "_law_modulus", defArgs (top 21), defBody (top 21), defScope (top 21), [], []⟩,
  ⟨fun K => He.ga K (Str.ofString "any_number"), Str.ofString "any_number", Str.ofString "any_number", defArgs (top 9), defBody (top 9), defScope (top 9), [], []⟩,
  ⟨fun K => He.ga K (Str.ofString "is_number"), Str.ofString "is_number", Str.ofString "is_number", defArgs (top 10), defBody (top 10), defScope (top 10), [], []⟩,
  ⟨fun K => He.ma K (cA K "Sizes") "__init__", Str.ofString "__init__", Str.ofString "Sizes.__init__", defArgs (mem 12 0), defBody (mem 12 0), defScope (mem 12 0), [], []⟩,
  ⟨fun K => He.ga K (Str.ofString "_law_frame"), Str.ofString "_law_frame", Str.ofString "_law_frame", defArgs (top 22), defBody (top 22), defScope (top 22), [], []⟩,
  ⟨fun K => He.ga K (Str.ofString "_law_great"), Str.ofString "_law_great", Str.ofString "_law_great", defArgs (top 19), defBody (top 19), defScope (top 19), [], []⟩,
  ⟨fun K => He.ga K (Str.ofString "_law_residue"), Str.ofString "_law_residue", Str.ofString "_law_residue", defArgs (top 23), defBody (top 23), defScope (top 23), [], []⟩,
  ⟨fun K => He.ga K (Str.ofString "_law_loose"), Str.ofString "_law_loose", Str.ofString "_law_loose", defArgs (top 24), defBody (top 24), defScope (top 24), [], []⟩,
  ⟨fun K => pgA K "Sizes" "modulus", Str.ofString "modulus", Str.ofString "Sizes.modulus", defArgs (mem 12 1), defBody (mem 12 1), defScope (mem 12 1), [], []⟩,
  ⟨fun K => He.ga K (Str.ofString "digits"), Str.ofString "digits", Str.ofString "digits", defArgs (top 3), defBody (top 3), defScope (top 3), [], []⟩,
  ⟨fun K => He.ga K (Str.ofString "_law_is_number"), Str.ofString "_law_is_number", Str.ofString "_law_is_number", defArgs (top 18), defBody (top 18), defScope (top 18), [], []⟩,
  ⟨fun K => He.ga K (Str.ofString "_law_like"), Str.ofString "_law_like", Str.ofString "_law_like", defArgs (top 17), defBody (top 17), defScope (top 17), [], []⟩,
  ⟨fun K => He.ga K (Str.ofString "whole"), Str.ofString "whole", Str.ofString "whole", defArgs (top 4), defBody (top 4), defScope (top 4), [], []⟩,
  ⟨fun K => He.ga K (Str.ofString "_law_digits_so"), Str.ofString "_law_digits_so", Str.ofString "_law_digits_so", defArgs (top 27), defBody (top 27), defScope (top 27), [], []⟩,
  ⟨fun K => He.ga K (Str.ofString "centered"), Str.ofString "centered", Str.ofString "centered", defArgs (top 2), defBody (top 2), defScope (top 2), [], []⟩,
  ⟨fun K => He.ga K (Str.ofString "_law_center_so"), Str.ofString "_law_center_so", Str.ofString "_law_center_so", defArgs (top 28), defBody (top 28), defScope (top 28), [], []⟩,
  ⟨fun K => He.ga K (Str.ofString "_law_sum"), Str.ofString "_law_sum", Str.ofString "_law_sum", defArgs (top 25), defBody (top 25), defScope (top 25), [], []⟩,
  ⟨fun K => He.ga K (Str.ofString "_law_number_so"), Str.ofString "_law_number_so", Str.ofString "_law_number_so", defArgs (top 29), defBody (top 29), defScope (top 29), [], []⟩,
  ⟨fun K => He.ga K (Str.ofString "_law_drawn_digits"), Str.ofString "_law_drawn_digits", Str.ofString "_law_drawn_digits", defArgs (top 26), defBody (top 26), defScope (top 26), [], []⟩,
  ⟨fun K => He.ga K (Str.ofString "_law_rows_so"), Str.ofString "_law_rows_so", Str.ofString "_law_rows_so", defArgs (top 30), defBody (top 30), defScope (top 30), [], []⟩,
  ⟨fun K => He.ga K (Str.ofString "law"), Str.ofString "law", Str.ofString "law", defArgs (top 31), defBody (top 31), defScope (top 31), [], []⟩]
def ex (K : PySem.W.Frag) : List Bool := [noB K "Sizes" "length",
  noB K "Sizes" "ring",
  noB K "Sizes" "base",
  noB K "Sizes" "places",
  noB K "Sizes" "spread",
  noB K "Sizes" "_modulus",
  insB K "Sizes",
  mkB K "Sizes",
  propB K "Sizes" "modulus"]
abbrev R : PySem.W.OpenRow := PySem.W.OpenLaw.row PySem.Challenge.rw_veiledgates_k03_whole_digits_come_home
abbrev hk : PySem.W.Hook := hookQ 5 fa fn ex
def ob (s : PySem.W.SharedT) : AlQ := obsQG 5 fa fn ex (HandSHeadRun.getT s)
theorem ob_eq (s : PySem.W.SharedT) : ob s = hk.obs s.abs := obsQG_eq (HandSHeadRun.getT_eq s)
abbrev loose : List Str := ([Str.ofString "_wall", Str.ofString "centered", Str.ofString "digits", Str.ofString "whole", Str.ofString "VeilError", Str.ofString "BadSizes", Str.ofString "any_number", Str.ofString "is_number", Str.ofString "Sizes", Str.ofString "_law_bag", Str.ofString "_law_draw", Str.ofString "_law_of", Str.ofString "_law_like", Str.ofString "_law_is_number", Str.ofString "_law_great", Str.ofString "_law_five", Str.ofString "_law_modulus", Str.ofString "_law_frame", Str.ofString "_law_residue", Str.ofString "_law_loose", Str.ofString "_law_sum", Str.ofString "_law_drawn_digits", Str.ofString "_law_digits_so", Str.ofString "_law_center_so", Str.ofString "_law_number_so", Str.ofString "_law_rows_so"] : List Str)
theorem run (w : World) : HandSHeadRun.RunEq R (PySem.W.view R.prog [31]) hk ob 4000 loose w := by
  intro os
  kernel_rfl
theorem facts {P : Program} {w : World} {K : PySem.W.Frag} {h base : Heap} {mg : Str → Option Value} (X : K.In h) (G : h.Ns mainGlobals mg) (c : SaysQ fa fn ex K) : Fx P w K mg base 12 (Str.ofString "law") (top 31) [Str.ofString "_law_script"] w_law := by
  obtain ⟨_, F__law_bag⟩ := c.a.def_ 0 rfl
  have h__law_bag := ok__law_bag (P := P) (w := w) (mg := mg) (base := base) F__law_bag (He.glo_ok X G (c.a.fact 0 rfl)) (He.free_ok X G (c.a.fact 24 rfl)) (He.free_ok X G (c.a.fact 25 rfl))
  obtain ⟨_, F__law_draw⟩ := c.a.def_ 1 rfl
  have h__law_draw := ok__law_draw (P := P) (w := w) (mg := mg) (base := base) F__law_draw (He.glo_ok X G (c.a.fact 1 rfl)) (He.free_ok X G (c.a.fact 26 rfl)) (He.free_ok X G (c.a.fact 24 rfl))
  obtain ⟨_, F__law_of⟩ := c.a.def_ 2 rfl
  have h__law_of := ok__law_of (P := P) (w := w) (mg := mg) (base := base) F__law_of (He.glo_ok X G (c.a.fact 2 rfl)) h__law_draw (He.free_ok X G (c.a.fact 26 rfl))
  obtain ⟨_, F__law_five⟩ := c.a.def_ 3 rfl
  have h__law_five := ok__law_five (P := P) (w := w) (mg := mg) (base := base) F__law_five (He.glo_ok X G (c.a.fact 3 rfl)) h__law_of h__law_draw
  obtain ⟨_, F__law_modulus⟩ := c.a.def_ 4 rfl
  have h__law_modulus := ok__law_modulus (P := P) (w := w) (mg := mg) (base := base) F__law_modulus (He.glo_ok X G (c.a.fact 4 rfl)) (He.free_ok X G (c.a.fact 27 rfl))
  obtain ⟨_, F_any_number⟩ := c.a.def_ 5 rfl
  have h_any_number := ok_any_number (P := P) (w := w) (mg := mg) (base := base) F_any_number (He.glo_ok X G (c.a.fact 5 rfl)) (He.free_ok X G (c.a.fact 28 rfl)) (He.free_ok X G (c.a.fact 24 rfl)) (He.free_ok X G (c.a.fact 29 rfl))
  obtain ⟨_, F_is_number⟩ := c.a.def_ 6 rfl
  have h_is_number := ok_is_number (P := P) (w := w) (mg := mg) (base := base) F_is_number (He.glo_ok X G (c.a.fact 6 rfl)) h_any_number
  obtain ⟨_, F_Sizes___init__⟩ := c.a.def_ 7 rfl
  have h_Sizes___init__ := ok_Sizes___init__ (P := P) (w := w) (mg := mg) (base := base) F_Sizes___init__ (He.glo_ok X G (c.a.fact 7 rfl)) (ins_of (c.t 6)) (mk_of (c.t 7)) h_is_number (He.free_ok X G (c.a.fact 27 rfl)) (c.t 0) (c.t 1) (c.t 2) (c.t 3) (c.t 4) (c.t 5)
  obtain ⟨_, F__law_frame⟩ := c.a.def_ 8 rfl
  have h__law_frame := ok__law_frame (P := P) (w := w) (mg := mg) (base := base) F__law_frame (He.glo_ok X G (c.a.fact 8 rfl)) h_Sizes___init__
  obtain ⟨_, F__law_great⟩ := c.a.def_ 9 rfl
  have h__law_great := ok__law_great (P := P) (w := w) (mg := mg) (base := base) F__law_great (He.glo_ok X G (c.a.fact 9 rfl)) h__law_of h__law_draw (He.free_ok X G (c.a.fact 27 rfl))
  obtain ⟨_, F__law_residue⟩ := c.a.def_ 10 rfl
  have h__law_residue := ok__law_residue (P := P) (w := w) (mg := mg) (base := base) F__law_residue (He.glo_ok X G (c.a.fact 10 rfl)) h__law_draw (He.free_ok X G (c.a.fact 27 rfl)) (He.free_ok X G (c.a.fact 24 rfl))
  obtain ⟨_, F__law_loose⟩ := c.a.def_ 11 rfl
  have h__law_loose := ok__law_loose (P := P) (w := w) (mg := mg) (base := base) F__law_loose (He.glo_ok X G (c.a.fact 11 rfl)) h__law_draw h__law_great h__law_residue
  obtain ⟨_, F_Sizes_modulus⟩ := c.a.def_ 12 rfl
  have h_Sizes_modulus := ok_Sizes_modulus (P := P) (w := w) (mg := mg) (base := base) F_Sizes_modulus (ins_of (c.t 6)) (prop_of (c.t 8)) 
  obtain ⟨_, F_digits⟩ := c.a.def_ 13 rfl
  have h_digits := ok_digits (P := P) (w := w) (mg := mg) (base := base) F_digits (He.glo_ok X G (c.a.fact 12 rfl)) h_Sizes_modulus (He.free_ok X G (c.a.fact 27 rfl))
  obtain ⟨_, F__law_is_number⟩ := c.a.def_ 14 rfl
  have h__law_is_number := ok__law_is_number (P := P) (w := w) (mg := mg) (base := base) F__law_is_number (He.glo_ok X G (c.a.fact 13 rfl)) (He.free_ok X G (c.a.fact 28 rfl)) (He.free_ok X G (c.a.fact 24 rfl)) (He.free_ok X G (c.a.fact 29 rfl))
  obtain ⟨_, F__law_like⟩ := c.a.def_ 15 rfl
  have h__law_like := ok__law_like (P := P) (w := w) (mg := mg) (base := base) F__law_like (He.glo_ok X G (c.a.fact 14 rfl)) (He.free_ok X G (c.a.fact 28 rfl)) (He.free_ok X G (c.a.fact 30 rfl)) (He.free_ok X G (c.a.fact 25 rfl)) (He.free_ok X G (c.a.fact 31 rfl)) (He.free_ok X G (c.a.fact 26 rfl)) (He.free_ok X G (c.a.fact 32 rfl)) (He.free_ok X G (c.a.fact 33 rfl)) (He.free_ok X G (c.a.fact 29 rfl)) (He.free_ok X G (c.a.fact 34 rfl)) (He.free_ok X G (c.a.fact 24 rfl)) 8
  obtain ⟨_, F_whole⟩ := c.a.def_ 16 rfl
  have h_whole := ok_whole (P := P) (w := w) (mg := mg) (base := base) F_whole (He.glo_ok X G (c.a.fact 15 rfl)) h_Sizes_modulus (He.free_ok X G (c.a.fact 35 rfl))
  obtain ⟨_, F__law_digits_so⟩ := c.a.def_ 17 rfl
  have h__law_digits_so := ok__law_digits_so (P := P) (w := w) (mg := mg) (base := base) F__law_digits_so (He.glo_ok X G (c.a.fact 16 rfl)) h_digits h__law_is_number h__law_like h_whole (He.free_ok X G (c.a.fact 28 rfl)) (He.free_ok X G (c.a.fact 25 rfl)) (He.free_ok X G (c.a.fact 26 rfl)) (He.free_ok X G (c.a.fact 33 rfl)) (He.free_ok X G (c.a.fact 24 rfl)) (He.free_ok X G (c.a.fact 31 rfl))
  obtain ⟨_, F_centered⟩ := c.a.def_ 18 rfl
  have h_centered := ok_centered (P := P) (w := w) (mg := mg) (base := base) F_centered (He.glo_ok X G (c.a.fact 17 rfl)) h_Sizes_modulus
  obtain ⟨_, F__law_center_so⟩ := c.a.def_ 19 rfl
  have h__law_center_so := ok__law_center_so (P := P) (w := w) (mg := mg) (base := base) F__law_center_so (He.glo_ok X G (c.a.fact 18 rfl)) h_centered h__law_is_number (He.free_ok X G (c.a.fact 24 rfl))
  obtain ⟨_, F__law_sum⟩ := c.a.def_ 20 rfl
  have h__law_sum := ok__law_sum (P := P) (w := w) (mg := mg) (base := base) F__law_sum (He.glo_ok X G (c.a.fact 19 rfl)) (He.free_ok X G (c.a.fact 26 rfl)) (He.free_ok X G (c.a.fact 27 rfl)) (He.free_ok X G (c.a.fact 24 rfl))
  obtain ⟨_, F__law_number_so⟩ := c.a.def_ 21 rfl
  have h__law_number_so := ok__law_number_so (P := P) (w := w) (mg := mg) (base := base) F__law_number_so (He.glo_ok X G (c.a.fact 20 rfl)) h__law_digits_so h__law_center_so h__law_draw h__law_of h__law_like h_digits h_centered h_whole h__law_sum (He.free_ok X G (c.a.fact 31 rfl)) (He.free_ok X G (c.a.fact 26 rfl)) (He.free_ok X G (c.a.fact 25 rfl))
  obtain ⟨_, F__law_drawn_digits⟩ := c.a.def_ 22 rfl
  have h__law_drawn_digits := ok__law_drawn_digits (P := P) (w := w) (mg := mg) (base := base) F__law_drawn_digits (He.glo_ok X G (c.a.fact 21 rfl)) h__law_of h__law_draw (He.free_ok X G (c.a.fact 27 rfl))
  obtain ⟨_, F__law_rows_so⟩ := c.a.def_ 23 rfl
  have h__law_rows_so := ok__law_rows_so (P := P) (w := w) (mg := mg) (base := base) F__law_rows_so (He.glo_ok X G (c.a.fact 22 rfl)) h__law_of h__law_draw h__law_loose h__law_sum h__law_like h_whole h_digits (He.free_ok X G (c.a.fact 27 rfl)) (He.free_ok X G (c.a.fact 31 rfl)) (He.free_ok X G (c.a.fact 25 rfl)) (He.free_ok X G (c.a.fact 26 rfl))
  obtain ⟨_, F_law⟩ := c.a.def_ 24 rfl
  have h_law := ok_law (P := P) (w := w) (mg := mg) (base := base) F_law (He.glo_ok X G (c.a.fact 23 rfl)) h__law_bag h__law_five h__law_modulus h__law_frame h__law_loose h__law_number_so h__law_drawn_digits h__law_sum h__law_of h__law_like h_digits h__law_rows_so (He.free_ok X G (c.a.fact 27 rfl))
  exact h_law
theorem def_law {K : PySem.W.Frag} (c : SaysQ fa fn ex K) : ∃ fd, FunD K (Str.ofString "law") (Str.ofString "law") (defArgs (top 31)) (defBody (top 31)) (defScope (top 31)) [] [] (He.ga K (Str.ofString "law")) fd := c.a.def_ 24 rfl
end K03
end Q
open PySem PySem.W PySem.Calls PyProof.Rows
theorem PySem.Challenge.cw_veiledgates_k03_whole_digits_come_home_holds : PySem.Challenge.rw_veiledgates_k03_whole_digits_come_home.Holds := by
  w_on; o_law
  refine HandSHeadRun.head_any (r := OpenLaw.row PySem.Challenge.rw_veiledgates_k03_whole_digits_come_home) (q := view (OpenLaw.row PySem.Challenge.rw_veiledgates_k03_whole_digits_come_home).prog [31]) (H := Q.K03.hk) (ob := Q.K03.ob) (M := 4000) (loose := Q.K03.loose) (d := HandSHeadRun.topDef (OpenLaw.row PySem.Challenge.rw_veiledgates_k03_whole_digits_come_home).prog 31) (kwd := []) Q.K03.ob_eq
    (by kernel_rfl) (fun s => by kernel_rfl) Q.K03.run (by kernel_rfl) (by kernel_rfl) (by kernel_rfl) (by rfl) (by first | assumption | decide +kernel) (by decide +kernel) ⟨rfl, rfl, rfl, rfl, rfl, by decide +kernel⟩ ?hw ?hc
  case hw => w_witness2
  case hc =>
    exact Q.law_ends (l := PySem.Challenge.rw_veiledgates_k03_whole_digits_come_home) (k := 12) (x := PySem.Str.ofString "_law_script") (st := Q.K03.top 31) (g := Q.K03.w_law) (fa := Q.K03.fa) (fn := Q.K03.fn) (ex := Q.K03.ex) rfl (by kernel_rfl) ⟨rfl, by decide, by decide⟩ (by kernel_rfl)
      (fun _ _ _ _ _ _ us hl => match us, hl with | [_], _ => rfl) (fun w K mg h base X G c => Q.K03.facts X G c) (fun K c => Q.K03.def_law c) Q.K03.law_true
