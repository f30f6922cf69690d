import PyProof.Rows.All
import PyProof.P3Statements
import HandS.Text
import Wide.All
import OpenK.AllK
import Wide.FinOn
import HandS.ForExc
import HandS.Comp
import HandS.AnyAll
import HandS.TupAny
import HandS.Rev
import HandS.Conv
import KE.DataEq
import KE.SortData
import HandS.IsInst
import HandS.SortKw
import HandS.More
import HandS.Deep
import HandS.Strs
import HandS.ExcOwn
import HandS.WordsExc
import HandS.CallSlots
import HandS.TryOnly
import HandS.GenList
import HandS.Style
import HandS.Defaults
import HandS.Ends
import HandS.EndTab
import HandS.HeadWalk
import HandS.HeadHook4
import KE.KStateDown
import HandS.Head2
import PySem.Challenge.RW_rootworks_k79_orders_of_things
set_option linter.all false
set_option autoImplicit false
/-! EV: a small language of values (PyData), its evaluator. Written for the kernel: recursors, no monads. -/
noncomputable section
namespace EV
open PySem

inductive R where | ok (d : PyData) | exc (c : Nat) | fail
/-- what a slot owns: a list; a list of lists of its own -/
inductive OV where | lst (ds : List PyData) | ll (dss : List (List PyData))
/-- as data -/
def OV.dat : OV → PyData
  | .lst ds => .list ds
  | .ll dss => .list (dss.map .list)
inductive SV where | non | val (d : PyData) | own (o : OV)
inductive Op | add | sub | mul | fdiv | mod | pow
inductive Cm | eq | ne | lt | le | gt | ge | is | isnt | isin | notin
inductive Bf | len | tuple | list | sum | sorted | sortedRev | int | abs | min | max | isInt | isTup | isStr | tupRev | listRev | listRng | str
/-- targets: a name, or names in a tuple -/
inductive Pt | nm (i : Nat) | nil | cons (a b : Pt)

inductive X
  | v (i : Nat) | pk (i : Nat) | c (d : PyData)
  | nil | cons (a b : X)
  | lst (a : X)
  | bin (o : Op) (a b : X) | neg (a : X) | no (a : X) | and (a b : X) | or (a b : X)
  | cmp (o : Cm) (a b : X) | chn (o p : Cm) (a b c : X) | ite (c a b : X)
  | ix (a b : X) | sl (a lo hi : X)
  | call (f : Nat) (a : X)
  | blt (f : Bf) (a : X)
  | rng (a b : X) | rev (a : X)
  | comp (p : Pt) (it cond elt : X) (own : List Nat)
  | gen (all : Bool) (p : Pt) (it cond elt : X) (own : List Nat)
  | kin (neg : Bool) (kvs : List (Str × Int)) (a : X) | kget (kvs : List (Str × Int)) (a : X)
  | spl (a b : X) | lix (a b : X) | rep (a b : X)
  | comp2 (p : Pt) (it : X) (q : Pt) (it2 cond elt : X) (own : List Nat)

def R.bind (r : R) (f : PyData → R) : R := R.rec (fun d => f d) (fun c => .exc c) .fail r
def b2 (b : Bool) (x y : R) : R := Bool.rec y x b

/-! ### data -/
def shalL (f : PyData → Bool) (xs : List PyData) : Bool := List.rec true (fun x _ ih => match f x with | true => ih | false => false) xs
def shal (n : Nat) : PyData → Bool := Nat.rec (motive := fun _ => PyData → Bool)
  (fun d => match d with | .none => true | .bool _ => true | .int _ => true | .str _ => true | _ => false)
  (fun _ ih d => match d with | .list xs => shalL ih xs | .tuple xs => shalL ih xs | .dict _ => false | _ => true) n
/-- .. without texts -/
def shn (n : Nat) : PyData → Bool := Nat.rec (motive := fun _ => PyData → Bool)
  (fun d => match d with | .none => true | .bool _ => true | .int _ => true | _ => false)
  (fun _ ih d => match d with | .list xs => shalL ih xs | .tuple xs => shalL ih xs | .none => true | .bool _ => true | .int _ => true | _ => false) n
def eqL (f : PyData → PyData → Bool) (xs : List PyData) : List PyData → Bool := List.rec (motive := fun _ => List PyData → Bool)
  (fun ys => match ys with | [] => true | _ :: _ => false)
  (fun x _ ih ys => match ys with | [] => false | y :: ys => match f x y with | true => ih ys | false => false) xs
def iEq (i j : Int) : Bool := match i, j with
  | .ofNat a, .ofNat b => Nat.beq a b
  | .negSucc a, .negSucc b => Nat.beq a b
  | _, _ => false
def iLe (i j : Int) : Bool := match i, j with
  | .ofNat a, .ofNat b => Nat.ble a b
  | .negSucc a, .negSucc b => Nat.ble b a
  | .negSucc _, .ofNat _ =>
      true
  | .ofNat _, .negSucc _ =>
      false
def iLt (i j : Int) : Bool := match i, j with
  | .ofNat a, .ofNat b => Nat.blt a b
  | .negSucc a, .negSucc b => Nat.blt b a
  | .negSucc _, .ofNat _ =>
      true
  | .ofNat _, .negSucc _ =>
      false
def eqF (n : Nat) : PyData → PyData → Bool := Nat.rec (motive := fun _ => PyData → PyData → Bool)
  (fun a b => PyData.eqv a b)
  (fun _ ih a b => match a, b with
    | .int i, .int j => iEq i j
    | .tuple xs, .tuple ys => eqL ih xs ys
    | .list xs, .list ys => eqL ih xs ys
    | .bool x, .bool y => match x, y with | true, true => true | false, false => true | _, _ => false
    | a, b => PyData.eqv a b) n
/-- whether x stands in xs -/
def memF (x : PyData) (xs : List PyData) : Bool := List.rec false (fun y _ ih => match eqF 60 y x with | true => true | false => ih) xs
/-- whether a sign stands in a text -/
def memN (c : Nat) (xs : List Nat) : Bool := List.rec false (fun y _ ih => match Nat.beq c y with | true => true | false => ih) xs
/-- a row of ints -/
def intsOf (xs : List PyData) : Option (List Int) := List.rec (some []) (fun x _ ih => match x with | .int i => (match ih with | some r => some (i :: r) | none => none) | _ => none) xs
def lexI (xs : List Int) : List Int → Bool := List.rec (motive := fun _ => List Int → Bool)
  (fun ys => match ys with | [] => false | _ :: _ => true)
  (fun x _ ih ys => match ys with | [] => false | y :: ys => match iEq x y with | true => ih ys | false => iLt x y) xs
/-- the order of alike data: ints, tuples of such -/
def ltL (e f : PyData → PyData → Bool) (xs : List PyData) : List PyData → Bool := List.rec (motive := fun _ => List PyData → Bool)
  (fun ys => match ys with | [] => false | _ :: _ => true)
  (fun x _ ih ys => match ys with | [] => false | y :: ys => match e x y with | true => ih ys | false => f x y) xs
def ltF (n : Nat) : PyData → PyData → Bool := Nat.rec (motive := fun _ => PyData → PyData → Bool)
  (fun _ _ => false)
  (fun m ih a b => match a, b with
    | .int i, .int j => iLt i j
    | .tuple xs, .tuple ys => ltL (eqF m) ih xs ys
    | _, _ => false) n
/-- one kind: ints all; tuples, not empty, of the same kinds place by place as far as both go -/
def alkL (f : PyData → PyData → Bool) (xs : List PyData) : List PyData → Bool := List.rec (motive := fun _ => List PyData → Bool)
  (fun _ => true)
  (fun x _ ih ys => match ys with | [] => true | y :: ys => match f x y with | true => ih ys | false => false) xs
def alkF (n : Nat) : PyData → PyData → Bool := Nat.rec (motive := fun _ => PyData → PyData → Bool)
  (fun _ _ => false)
  (fun _ ih a b => match a, b with
    | .int _, .int _ => true
    | .tuple xs, .tuple ys => alkL ih xs ys
    | _, _ => false) n
/-- all places of a row of one kind of ints, of rows of ints -/
def insF (lt : PyData → PyData → Bool) (x : PyData) (xs : List PyData) : List PyData := List.rec [x] (fun y ys ih => match lt y x with | true => y :: ih | false => x :: y :: ys) xs
def sortF (lt : PyData → PyData → Bool) (xs : List PyData) : List PyData := List.rec [] (fun x _ ih => insF lt x ih) xs

def lenF (xs : List PyData) : Nat := List.rec 0 (fun _ _ ih => Nat.add ih 1) xs
/-- short enough (lists have a largest length) -/
def fitN (n : Nat) : Bool := Nat.ble n 16000000
def sumF (xs : List PyData) : Int → R := List.rec (motive := fun _ => Int → R) (fun a => .ok (.int a)) (fun x _ ih a => match x with | .int i => ih (Int.add a i) | _ => .fail) xs
def nthF (xs : List PyData) : Nat → R := List.rec (motive := fun _ => Nat → R) (fun _ => .fail) (fun x _ ih n => Nat.rec (.ok x) (fun m _ => ih m) n) xs
def nthS (xs : List Nat) : Nat → R := List.rec (motive := fun _ => Nat → R) (fun _ => .fail) (fun x _ ih n => Nat.rec (.ok (.str ⟨⟨[x]⟩⟩)) (fun m _ => ih m) n) xs
def ixI (n : Nat) (i : Int) : Nat := match i with | .ofNat a => a | .negSucc a => match Nat.blt a n with | true => Nat.sub n (Nat.succ a) | false => n
/-- one behind the other, so often -/
def repF (xs : List PyData) (n : Nat) : List PyData := Nat.rec [] (fun _ ih => xs ++ ih) n
def small (i : Int) : Bool := Nat.blt i.natAbs 4611686018427387904
def binF (o : Op) (a b : PyData) : R := match o, a, b with
  | .add, .int i, .int j => .ok (.int (Int.add i j))
  | .sub, .int i, .int j => .ok (.int (Int.sub i j))
  | .mul, .int i, .int j => (match Nat.blt i.natAbs 18446744073709551616 || Nat.blt j.natAbs 18446744073709551616 with | true => .ok (.int (Int.mul i j)) | false => .fail)
  | .fdiv, .int i, .int j => (match Nat.blt 0 j.natAbs && Nat.blt j.natAbs 1073741824 with | true => .ok (.int (Int.fdiv i j)) | false => .fail)
  | .mod, .int i, .int j => (match Nat.blt 0 j.natAbs with | true => .ok (.int (Int.fmod i j)) | false => .fail)
  | .pow, .int i, .int j => (match iLe 0 j && (iLe j 1000 && Nat.blt i.natAbs 18446744073709551616) with | true => .ok (.int (i ^ j.toNat)) | false => .fail)
  | .add, .tuple xs, .tuple ys => (match fitN (lenF xs + lenF ys) with | true => .ok (.tuple (xs ++ ys)) | false => .fail)
  | .add, .list xs, .list ys => (match fitN (lenF xs + lenF ys) with | true => .ok (.list (xs ++ ys)) | false => .fail)
  | .add, .str x, .str y => (match fitN (x.length + y.length) with | true => .ok (.str (x ++ y)) | false => .fail)
  | _, _, _ => .fail
def rb (b : Bool) : R := .ok (.bool b)
def isF (a b : PyData) : Option Bool := match b with
  | .none => (match a with | .none => some true | _ => some false)
  | .bool y => (match a with | .bool x => some (x == y) | _ => some false)
  | _ => none
def cmpF (o : Cm) (a b : PyData) : R := match o with
  | .eq => (match shal 60 a with | true => rb (eqF 61 a b) | false => .fail)
  | .ne => (match shal 60 a with | true => rb (!eqF 61 a b) | false => .fail)
  | .lt => (match a, b with | .int i, .int j => rb (iLt i j) | .tuple xs, .tuple ys => (match intsOf xs, intsOf ys with | some u, some w => rb (lexI u w) | _, _ => .fail) | _, _ => .fail)
  | .le => (match a, b with | .int i, .int j => rb (iLe i j) | _, _ => .fail)
  | .gt => (match a, b with | .int i, .int j => rb (iLt j i) | _, _ => .fail)
  | .ge => (match a, b with | .int i, .int j => rb (iLe j i) | _, _ => .fail)
  | .is => (match isF a b with | some x => rb x | none => .fail)
  | .isnt => (match isF a b with | some x => rb (!x) | none => .fail)
  | .isin => (match shal 59 a, b with | true, .list xs => rb (memF a xs) | true, .tuple xs => rb (memF a xs) | true, .str z => (match a with | .str ⟨⟨[c]⟩⟩ => rb (memN c z.cps.toList) | _ => .fail) | _, _ => .fail)
  | .notin => (match shal 59 a, b with | true, .list xs => rb (!memF a xs) | true, .tuple xs => rb (!memF a xs) | true, .str z => (match a with | .str ⟨⟨[c]⟩⟩ => rb (!memN c z.cps.toList) | _ => .fail) | _, _ => .fail)
def ixF (a b : PyData) : R := match a, b with
  | .list xs, .int i => (match small i with | true => nthF xs (ixI (lenF xs) i) | false => .fail)
  | .tuple xs, .int i => (match small i with | true => nthF xs (ixI (lenF xs) i) | false => .fail)
  | .str z, .int i => (match small i && fitN z.length with | true => nthS z.cps.toList (ixI z.length i) | false => .fail)
  | _, _ => .fail
/-- a slice's bound -/
def bnd (n d : Nat) (o : PyData) : Option Nat := match o with
  | .none => some d
  | .int (.ofNat a) => some (match Nat.ble a n with | true => a | false => n)
  | .int (.negSucc a) => some (match Nat.blt a n with | true => Nat.sub n (Nat.succ a) | false => 0)
  | _ => none
def cutF (xs : List PyData) (i j : Nat) : List PyData := (xs.drop i).take (Nat.sub j i)
def slF (a lo hi : PyData) : R := match a with
  | .list xs => (match bnd (lenF xs) 0 lo, bnd (lenF xs) (lenF xs) hi with | some i, some j => .ok (.list (cutF xs i j)) | _, _ => .fail)
  | .tuple xs => (match bnd (lenF xs) 0 lo, bnd (lenF xs) (lenF xs) hi with | some i, some j => .ok (.tuple (cutF xs i j)) | _, _ => .fail)
  | _ => .fail
def extI (f : Int → Int → Bool) (xs : List PyData) : Int → R := List.rec (motive := fun _ => Int → R) (fun m => .ok (.int m)) (fun x _ ih m => match x with | .int i => (match f i m with | true => ih i | false => ih m) | _ => .fail) xs
def ext2 (f : Int → Int → Bool) (as : List PyData) : R := match as with
  | [.list (.int x :: xs)] => extI f xs x
  | [.tuple (.int x :: xs)] => extI f xs x
  | [.int x, .int y] => (match f y x with | true => .ok (.int y) | false => .ok (.int x))
  | _ => .fail
def okH (y : PyData) : Bool := match y with | .int _ => true | .tuple (_ :: _) => true | _ => false
/-- all places alike, ready to be sorted -/
def sortable (xs : List PyData) : Bool := shalL okH xs && shalL (fun y => shalL (fun z => alkF 20 y z) xs) xs
/-- below, or above -/
def ltB (b : Bool) (x y : PyData) : Bool := match b with | true => ltF 20 y x | false => ltF 20 x y
def sortG (lt : PyData → PyData → Bool) (a : PyData) : R := match a with
  | .list xs => (match sortable xs && fitN (lenF xs) with | true => .ok (.list (sortF lt xs)) | false => .fail)
  | .tuple xs => (match sortable xs && fitN (lenF xs) with | true => .ok (.list (sortF lt xs)) | false => .fail)
  | _ => .fail
def revL (xs : List PyData) : List PyData → List PyData := List.rec (motive := fun _ => List PyData → List PyData) (fun a => a) (fun x _ ih a => ih (x :: a)) xs
def bltF (f : Bf) (as : List PyData) : R := match f, as with
  | .len, [.list xs] => .ok (.int (Int.ofNat (lenF xs)))
  | .len, [.tuple xs] => .ok (.int (Int.ofNat (lenF xs)))
  | .len, [.str z] => (match fitN z.length with | true => .ok (.int (Int.ofNat z.length)) | false => .fail)
  | .str, [.int i] => (match Nat.blt i.natAbs 4611686018427387904 with | true => .ok (.str (toString i)) | false => .fail)
  | .int, [.str z] => (match PySem.intText? z, Nat.ble z.length 640 with | some i, true => .ok (.int i) | _, _ => .fail)
  | .tuple, [.list xs] => .ok (.tuple xs)
  | .tuple, [.tuple xs] => .ok (.tuple xs)
  | .list, [.list xs] => .ok (.list xs)
  | .list, [.tuple xs] => .ok (.list xs)
  | .listRng, [.list xs] => (match fitN (lenF xs) with | true => .ok (.list xs) | false => .fail)
  | .sum, [.list xs] => sumF xs 0
  | .sum, [.tuple xs] => sumF xs 0
  | .int, [.int i] => .ok (.int i)
  | .int, [.bool true] => .ok (.int 1)
  | .int, [.bool false] => .ok (.int 0)
  | .abs, [.int i] => .ok (.int (Int.ofNat i.natAbs))
  | .min, as => ext2 iLt as
  | .max, as => ext2 (fun i j => iLt j i) as
  | .sorted, [a] => sortG (ltB false) a
  | .sortedRev, [a] => sortG (ltB true) a
  | .isInt, [a] => rb (match a with | .int _ => true | .bool _ => true | _ => false)
  | .isTup, [a] => rb (match a with | .tuple _ => true | _ => false)
  | .isStr, [a] => rb (match a with | .str _ => true | _ => false)
  | .tupRev, [.list xs] => (match fitN (lenF xs) with | true => .ok (.tuple (revL xs [])) | false => .fail)
  | .tupRev, [.tuple xs] => (match fitN (lenF xs) with | true => .ok (.tuple (revL xs [])) | false => .fail)
  | .listRev, [.list xs] => (match fitN (lenF xs) with | true => .ok (.list (revL xs [])) | false => .fail)
  | .listRev, [.tuple xs] => (match fitN (lenF xs) with | true => .ok (.list (revL xs [])) | false => .fail)
  | _, _ => .fail
/-- lo, lo + 1, .. -/
def rngF (n : Nat) : Int → List PyData := Nat.rec (motive := fun _ => Int → List PyData) (fun _ => []) (fun _ ih i => .int i :: ih (Int.add i 1)) n
def rngR (a b : PyData) : R := match a, b with
  | .int i, .int j => (match small i && small j with | true => .ok (.list (rngF (Int.sub j i).toNat i)) | false => .fail)
  | _, _ => .fail
def itemsF (d : PyData) : Option (List PyData) := match d with | .list xs => some xs | .tuple xs => some xs | _ => none

/-! ### slots -/
def getS (env : List SV) : Nat → SV := List.rec (motive := fun _ => Nat → SV) (fun _ => .non) (fun x _ ih n => Nat.rec x (fun m _ => ih m) n) env
def setS (env : List SV) : Nat → SV → List SV := List.rec (motive := fun _ => Nat → SV → List SV) (fun _ _ => []) (fun x r ih n y => Nat.rec (y :: r) (fun m _ => x :: ih m y) n) env
def wipeS (env : List SV) (vs : List Nat) : List SV := List.rec env (fun i _ ih => setS ih i .non) vs
def bindP (p : Pt) : PyData → List SV → Option (List SV) := Pt.rec (motive := fun _ => PyData → List SV → Option (List SV))
  (fun i d env => some (setS env i (.val d)))
  (fun d env => match d with | .tuple [] => some env | _ => none)
  (fun _ _ iha ihb d env => match d with | .tuple (x :: xs) => (match iha x env with | some env1 => ihb (.tuple xs) env1 | none => none) | _ => none) p

/-- the slots of a target -/
def slP (p : Pt) : List Nat := Pt.rec (fun i => [i]) [] (fun _ _ a b => a ++ b) p
/-! ### comprehensions -/
def compL (bnd : PyData → Option (List SV)) (cond elt : List SV → R) (xs : List PyData) : Option (List PyData) :=
  List.rec (some []) (fun x _ ih => match bnd x with
    | none => none
    | some env => match cond env with
      | .ok (.bool true) => (match elt env with | .ok y => (match ih with | some r => some (y :: r) | none => none) | _ => none)
      | .ok (.bool false) => ih
      | _ => none) xs
def genL (all : Bool) (bnd : PyData → Option (List SV)) (cond elt : List SV → R) (xs : List PyData) : R :=
  List.rec (rb all) (fun x _ ih => match bnd x with
    | none => .fail
    | some env => match cond env with
      | .ok (.bool true) => (match elt env with
        | .ok (.bool true) => (match all with | true => ih | false => rb true)
        | .ok (.bool false) => (match all with | true => rb false | false => ih)
        | _ => .fail)
      | .ok (.bool false) => ih
      | _ => .fail) xs
/-- none of these slots owns a thing -/
def noOwn (env : List SV) (vs : List Nat) : Bool := List.rec true (fun i _ ih => match getS env i with | .own _ => false | _ => ih) vs
/-- the value of a text in a written table -/
def kvF (x : Str) (kvs : List (Str × Int)) : Option Int := List.rec none (fun p _ ih => match decide (p.1 = x) with | true => some p.2 | false => ih) kvs
def kinF (neg : Bool) (kvs : List (Str × Int)) (d : PyData) : R := match d with | .str x => (match kvF x kvs with | some _ => rb (!neg) | none => .fail) | _ => .fail
def kgetF (kvs : List (Str × Int)) (d : PyData) : R := match d with | .str x => (match kvF x kvs with | some i => .ok (.int i) | none => .fail) | _ => .fail
/-- the first place of x in xs -/
def lixL (x : PyData) (xs : List PyData) : Nat → R := List.rec (motive := fun _ => Nat → R) (fun _ => .fail) (fun y _ ih n => match eqF 60 y x with | true => .ok (.int (Int.ofNat n)) | false => ih (Nat.succ n)) xs
def lixF (xs : List PyData) (b : PyData) : R := match shn 59 b, shalL (shn 59) xs with | true, true => lixL b xs 0 | _, _ => .fail
def repR (a b : PyData) : R := match a, b with | .list xs, .int i => (match small i && fitN (lenF xs * i.toNat) with | true => .ok (.list (repF xs i.toNat)) | false => .fail) | _, _ => .fail
def splF (x : Str) (b : PyData) : R := match b with
  | .str y => (match Nat.beq y.length 0, fitN x.length with | false, true => .ok (.list ((Txt.split x y).map .str)) | _, _ => .fail)
  | _ => .fail
/-- two clauses, one within the other -/
def comp2L (bnd : PyData → Option (List SV)) (inner : List SV → Option (List PyData)) (xs : List PyData) : Option (List PyData) :=
  List.rec (some []) (fun x _ ih => match bnd x with
    | none => none
    | some env => match inner env with
      | some ys => (match ih with | some r => some (ys ++ r) | none => none)
      | none => none) xs
def lstR (o : Option (List PyData)) : R := match o with | some xs => .ok (.list xs) | none => .fail

/-! ### expressions -/
def ev (C : Nat → List PyData → R) (x : X) : List SV → R := X.rec (motive := fun _ => List SV → R)
  (fun i env => match getS env i with | .val d => .ok d | _ => .fail)
  (fun i env => match getS env i with | .val d => .ok d | .own (.lst ds) => .ok (.list ds) | _ => .fail)
  (fun d _ => .ok d)
  (fun _ => .ok (.tuple []))
  (fun _ _ a b env => (a env).bind fun x => (b env).bind fun y => match y with | .tuple ys => .ok (.tuple (x :: ys)) | _ => .fail)
  (fun _ a env => (a env).bind fun x => match x with | .tuple xs => .ok (.list xs) | _ => .fail)
  (fun o _ _ a b env => (a env).bind fun x => (b env).bind fun y => binF o x y)
  (fun _ a env => (a env).bind fun x => match x with | .int i => .ok (.int (Int.neg i)) | _ => .fail)
  (fun _ a env => (a env).bind fun x => match x with | .bool b => rb (!b) | _ => .fail)
  (fun _ _ a b env => (a env).bind fun x => match x with | .bool true => b env | .bool false => rb false | _ => .fail)
  (fun _ _ a b env => (a env).bind fun x => match x with | .bool false => b env | .bool true => rb true | _ => .fail)
  (fun o _ _ a b env => (a env).bind fun x => (b env).bind fun y => cmpF o x y)
  (fun o p _ _ _ a b c env => (a env).bind fun x => (b env).bind fun y => (cmpF o x y).bind fun r => match r with | .bool true => (c env).bind fun z => cmpF p y z | .bool false => rb false | _ => .fail)
  (fun _ _ _ c a b env => (c env).bind fun r => match r with | .bool true => a env | .bool false => b env | _ => .fail)
  (fun _ _ a b env => (a env).bind fun x => (b env).bind fun y => ixF x y)
  (fun _ _ _ a lo hi env => (a env).bind fun x => (lo env).bind fun y => (hi env).bind fun z => slF x y z)
  (fun f _ a env => (a env).bind fun x => match x with | .tuple xs => C f xs | _ => .fail)
  (fun f _ a env => (a env).bind fun x => match x with | .tuple xs => bltF f xs | _ => .fail)
  (fun _ _ a b env => (a env).bind fun x => (b env).bind fun y => rngR x y)
  (fun _ a env => (a env).bind fun x => match itemsF x with | some xs => .ok (.list (revL xs [])) | none => .fail)
  (fun p _ _ _ own it cond elt env => (it env).bind fun x => match itemsF x with | some xs => (match fitN (lenF xs) && noOwn env own with | true => lstR (compL (fun d => bindP p d (wipeS env own)) cond elt xs) | false => .fail) | none => .fail)
  (fun all p _ _ _ own it cond elt env => (it env).bind fun x => match itemsF x with | some xs => (match fitN (lenF xs) && noOwn env own with | true => genL all (fun d => bindP p d (wipeS env own)) cond elt xs | false => .fail) | none => .fail)
  (fun neg kvs _ a env => (a env).bind fun x => kinF neg kvs x)
  (fun kvs _ a env => (a env).bind fun x => kgetF kvs x)
  (fun _ _ a b env => (a env).bind fun x => match x with | .str z => (b env).bind fun y => splF z y | _ => .fail)
  (fun _ _ a b env => (a env).bind fun x => match x with | .list xs => (b env).bind fun y => lixF xs y | _ => .fail)
  (fun _ _ a b env => (a env).bind fun x => (b env).bind fun y => repR x y)
  (fun p _ q _ _ _ own it it2 cond elt env => (it env).bind fun x => match itemsF x with
    | some xs => (match fitN (lenF xs) && noOwn env own with
      | true => (match comp2L (fun d => bindP p d (wipeS env own)) (fun env1 => match it2 env1 with
          | .ok y => (match itemsF y with
            | some ys => (match noOwn env1 (slP q) with | true => compL (fun d => bindP q d (wipeS env1 (slP q))) cond elt ys | false => none)
            | none => none)
          | _ => none) xs with
        | some zs => (match fitN (lenF zs) with | true => .ok (.list zs) | false => .fail)
        | none => .fail)
      | false => .fail)
    | none => .fail) x

/-! ### statements -/
inductive S
  | skip | seq (a b : S)
  | set (p : Pt) (e : X) | setO (i : Nat) (e : X)
  | aug (i : Nat) (o : Op) (e : X) | setIx (i : Nat) (a e : X)
  | app (i : Nat) (e : X) | pop (p : Pt) (i : Nat)
  | setLL (i : Nat) (e : X) | set2 (i : Nat) (a b e : X) | swp (i : Nat) (a b x y : X) | appPop (i j : Nat) (e : X)
  | expr (e : X) | ifS (c : X) (a b : S)
  | for (p : Pt) (it : X) (b : S) | whl (c : X) (b : S) | brk | cont
  | ret (e : X) | rse (c : Nat) | tryS (b : S) (c n : Nat) (h : S) | frz (i : Nat)
inductive RS | next (env : List SV) | brk (env : List SV) | cont (env : List SV) | ret (d : PyData) | exc (c : Nat) (env : List SV) | fail

def R.st (r : R) (env : List SV) (f : PyData → RS) : RS := R.rec (fun d => f d) (fun c => .exc c env) .fail r
def optS (o : Option (List SV)) : RS := match o with | some env => .next env | none => .fail
def forL (p : Pt) (b : List SV → RS) (xs : List PyData) : List SV → RS := List.rec (motive := fun _ => List SV → RS)
  (fun env => .next env)
  (fun x _ ih env => match bindP p x env with
    | none => .fail
    | some env1 => match b env1 with
      | .next env2 => ih env2
      | .cont env2 => ih env2
      | .brk env2 => .next env2
      | .ret d => .ret d
      | .exc c env2 => .exc c env2
      | .fail => .fail) xs
def whlL (c : List SV → R) (b : List SV → RS) (n : Nat) : List SV → RS := Nat.rec (motive := fun _ => List SV → RS)
  (fun _ => .fail)
  (fun _ ih env => (c env).st env fun d => match d with
    | .bool false => .next env
    | .bool true => (match b env with
      | .next env2 => ih env2
      | .cont env2 => ih env2
      | .brk env2 => .next env2
      | .ret d => .ret d
      | .exc c env2 => .exc c env2
      | .fail => .fail)
    | _ => .fail) n
def popL (xs : List PyData) : Option (List PyData × PyData) := List.rec none (fun x r ih => match r with | [] => some ([], x) | _ :: _ => (match ih with | some (a, y) => some (x :: a, y) | none => none)) xs
def setL (xs : List PyData) : Nat → PyData → Option (List PyData) := List.rec (motive := fun _ => Nat → PyData → Option (List PyData)) (fun _ _ => none) (fun x r ih n y => Nat.rec (some (y :: r)) (fun m _ => match ih m y with | some z => some (x :: z) | none => none) n) xs
/-- rows that are lists, all -/
def lists (xs : List PyData) : Option (List (List PyData)) := List.rec (some []) (fun x _ ih => match x with | .list ds => (match ih with | some r => some (ds :: r) | none => none) | _ => none) xs
def lenLL (xs : List (List PyData)) : Nat := List.rec 0 (fun _ _ ih => Nat.add ih 1) xs
def nthLL (xs : List (List PyData)) : Nat → Option (List PyData) := List.rec (motive := fun _ => Nat → Option (List PyData)) (fun _ => none) (fun x _ ih n => Nat.rec (some x) (fun m _ => ih m) n) xs
def putLL (xs : List (List PyData)) : Nat → List PyData → List (List PyData) := List.rec (motive := fun _ => Nat → List PyData → List (List PyData)) (fun _ _ => []) (fun x r ih n y => Nat.rec (y :: r) (fun m _ => x :: ih m y) n) xs
/-- the item at a place, and the others -/
def takeL (xs : List PyData) : Nat → Option (PyData × List PyData) := List.rec (motive := fun _ => Nat → Option (PyData × List PyData)) (fun _ => none) (fun x r ih n => Nat.rec (some (x, r)) (fun m _ => match ih m with | some (y, z) => some (y, x :: z) | none => none) n) xs
def ex (C : Nat → List PyData → R) (wf : Nat) (s : S) : List SV → RS := S.rec (motive := fun _ => List SV → RS)
  (fun env => .next env)
  (fun _ _ a b env => match a env with
    | .next env1 => b env1
    | .brk e => .brk e | .cont e => .cont e | .ret d => .ret d | .exc c e => .exc c e | .fail => .fail)
  (fun p e env => (ev C e env).st env fun d => optS (bindP p d env))
  (fun i e env => (ev C e env).st env fun d => match d with | .list xs => .next (setS env i (.own (.lst xs))) | _ => .fail)
  (fun i o e env => match getS env i with
    | .val (.int a) => (ev C e env).st env fun y => (match y with | .int b => (binF o (.int a) (.int b)).st env fun z => .next (setS env i (.val z)) | _ => .fail)
    | _ => .fail)
  (fun i a e env => match getS env i with
    | .own (.lst xs) => (ev C e env).st env fun y => (ev C a env).st env fun k => (match k with
      | .int j => (match small j with | true => (match setL xs (ixI (lenF xs) j) y with | some ys => .next (setS env i (.own (.lst ys))) | none => .fail) | false => .fail)
      | _ => .fail)
    | _ => .fail)
  (fun i e env => match getS env i with
    | .own (.lst xs) => (ev C e env).st env fun y => (match fitN (lenF xs) with | true => .next (setS env i (.own (.lst (xs ++ [y])))) | false => .fail)
    | _ => .fail)
  (fun p i env => match getS env i with
    | .own (.lst xs) => (match popL xs with | some (ys, y) => optS (bindP p y (setS env i (.own (.lst ys)))) | none => .fail)
    | _ => .fail)
  (fun i e env => (ev C e env).st env fun d => match d with | .list xs => (match lists xs with | some dss => .next (setS env i (.own (.ll dss))) | none => .fail) | _ => .fail)
  (fun i a b e env => match getS env i with
    | .own (.ll dss) => (ev C e env).st env fun y => (ev C a env).st env fun k => (match k with
      | .int k => (match small k with
        | true => (match nthLL dss (ixI (lenLL dss) k) with
          | some ds => (ev C b env).st env fun l => (match l with
            | .int l => (match small l with
              | true => (match setL ds (ixI (lenF ds) l) y with
                | some ds' => .next (setS env i (.own (.ll (putLL dss (ixI (lenLL dss) k) ds'))))
                | none => .fail)
              | false => .fail)
            | _ => .fail)
          | none => .fail)
        | false => .fail)
      | _ => .fail)
    | _ => .fail)
  (fun i a b x y env => (ev C x env).st env fun u => (ev C y env).st env fun w => match getS env i with
    | .own (.lst xs) => (ev C a env).st env fun k => (match k with
      | .int k => (match small k with
        | true => (match setL xs (ixI (lenF xs) k) u with
          | some xs1 => (match ev C b (setS env i (.own (.lst xs1))) with
            | .ok (.int l) => (match small l with
              | true => (match setL xs1 (ixI (lenF xs1) l) w with
                | some xs2 => .next (setS env i (.own (.lst xs2)))
                | none => .fail)
              | false => .fail)
            | _ => .fail)
          | none => .fail)
        | false => .fail)
      | _ => .fail)
    | _ => .fail)
  (fun i j e env => match getS env i, getS env j with
    | .own (.lst xs), .own (.lst ys) => (match Nat.beq i j with
      | true => .fail
      | false => (ev C e env).st env fun k => (match k with
        | .int k => (match small k && fitN (lenF xs) with | true => (match takeL ys (ixI (lenF ys) k) with | some (y, zs) => .next (setS (setS env j (.own (.lst zs))) i (.own (.lst (xs ++ [y])))) | none => .fail) | false => .fail)
        | _ => .fail))
    | _, _ => .fail)
  (fun e env => (ev C e env).st env fun _ => .next env)
  (fun c _ _ a b env => (ev C c env).st env fun d => match d with | .bool true => a env | .bool false => b env | _ => .fail)
  (fun p it _ b env => (ev C it env).st env fun d => match itemsF d with | some xs => forL p b xs env | none => .fail)
  (fun c _ b env => whlL (ev C c) b wf env)
  (fun env => .brk env)
  (fun env => .cont env)
  (fun e env => (ev C e env).st env fun d => .ret d)
  (fun c env => .exc c env)
  (fun _ c n _ b h env => match b env with
    | .exc c' e => (match Nat.beq c c' with | true => h e | false => (match Nat.blt c' n with | true => .exc c' e | false => .fail))
    | r => r)
  (fun i env => match getS env i with
    | .own (.lst xs) => .next (setS env i (.val (.list xs)))
    | .own (.ll xss) => .next (setS env i (.val (.list (xss.map .list))))
    | _ => .next env) s

/-! ### defs -/
structure Fn where
  np : Nat
  ns : Nat
  body : S
def argS (ds : List PyData) (n : Nat) : List SV := List.rec (Nat.rec [] (fun _ ih => SV.non :: ih) n) (fun d _ ih => .val d :: ih) ds
def callF (T : Nat → Option Fn) (wf : Nat) (k : Nat) : Nat → List PyData → R := Nat.rec (motive := fun _ => Nat → List PyData → R)
  (fun _ _ => .fail)
  (fun _ ih f ds => match T f with
    | none => .fail
    | some F => match Nat.beq (lenF ds) F.np with
      | false => .fail
      | true => match ex ih wf F.body (argS ds (Nat.sub F.ns F.np)) with
        | .next _ => .ok .none
        | .ret d => .ok d
        | .exc c _ => .exc c
        | _ => .fail) k
end EV
end

set_option Elab.async false
set_option linter.all false
set_option autoImplicit false
set_option maxRecDepth 100000
/-! ES1: how slots stand for values: data in the heap, owned lists. -/
noncomputable section
namespace ES
open PySem PySem.Spec PyProof.Rows L2 EV GxR

/-- a list of the written part -/
def KList (K : PySem.W.Frag) (a : Addr) (xs : List V) : Prop :=
  ∃ (o : Obj) (its : Array Value) (n : Nat),
      K.lookup a = some o ∧ o.cls = .type "list" ∧ o.dict = none ∧ o.data = .seq its n ∧ its.size ≤ sizeLine ∧ Vals xs its.toList

mutual
/-- data at a value; no list of it stands at an address of B -/
inductive Rp (K : PySem.W.Frag) (B : Addr → Prop) (H : Hp) : V → PyData → Prop
  | non : Rp K B H .non .none
  | bl (b : Bool) : Rp K B H (.bl b) (.bool b)
  | int (i : Int) : Rp K B H (.int i) (.int i)
  | str (x : Str) : Rp K B H (.str x) (.str x)
  | lst {a : Addr} {xs : List V} {ds : List PyData} : Rd H a (.lst xs) → ¬ B a → RpA K B H xs ds → Rp K B H (.ref a) (.list ds)
  | lstK {a : Addr} {xs : List V} {ds : List PyData} : KList K a xs → RpA K B H xs ds → Rp K B H (.ref a) (.list ds)
  | tup {a : Addr} {xs : List V} {ds : List PyData} : SqT K H a xs → RpA K B H xs ds → Rp K B H (.ref a) (.tuple ds)
inductive RpA (K : PySem.W.Frag) (B : Addr → Prop) (H : Hp) : List V → List PyData → Prop
  | nil : RpA K B H [] []
  | cons {v : V} {vs : List V} {d : PyData} {ds : List PyData} : Rp K B H v d → RpA K B H vs ds → RpA K B H (v :: vs) (d :: ds)
end

section
variable {K : PySem.W.Frag} {B B' : Addr → Prop} {H H' : Hp} {v : V} {d : PyData} {vs xs : List V} {ds : List PyData} {a : Addr}

mutual
theorem Rp.imp (hl : ∀ a xs, ¬ B a → Rd H a (.lst xs) → Rd H' a (.lst xs) ∧ ¬ B' a) (ht : ∀ a xs, SqT K H a xs → SqT K H' a xs) : ∀ {v : V} {d : PyData}, Rp K B H v d → Rp K B' H' v d
  | _, _, .non => .non
  | _, _, .bl b => .bl b
  | _, _, .int i => .int i
  | _, _, .str x => .str x
  | _, _, .lst h n r => .lst (hl _ _ n h).1 (hl _ _ n h).2 (RpA.imp hl ht r)
  | _, _, .lstK h r => .lstK h (RpA.imp hl ht r)
  | _, _, .tup h r => .tup (ht _ _ h) (RpA.imp hl ht r)
theorem RpA.imp (hl : ∀ a xs, ¬ B a → Rd H a (.lst xs) → Rd H' a (.lst xs) ∧ ¬ B' a) (ht : ∀ a xs, SqT K H a xs → SqT K H' a xs) : ∀ {vs : List V} {ds : List PyData}, RpA K B H vs ds → RpA K B' H' vs ds
  | _, _, .nil => .nil
  | _, _, .cons r t => .cons (Rp.imp hl ht r) (RpA.imp hl ht t)
end
mutual
theorem Rp.dp : ∀ {v : V} {d : PyData}, Rp K B H v d → Dp K H v d
  | _, _, .non => .non
  | _, _, .bl b => .bl b
  | _, _, .int i => .int i
  | _, _, .str x => .str x
  | _, _, .lst h n r => .lst (.inl h) (RpA.dp r)
  | _, _, .lstK h r => .lst (.inr h) (RpA.dp r)
  | _, _, .tup h r => .tup h (RpA.dp r)
theorem RpA.dp : ∀ {vs : List V} {ds : List PyData}, RpA K B H vs ds → DpAll K H vs ds
  | _, _, .nil => .nil
  | _, _, .cons r t => .cons (Rp.dp r) (RpA.dp t)
end
mutual
theorem Rp.plain : ∀ {v : V} {d : PyData}, Rp K B H v d → d.plain = true
  | _, _, .non => rfl
  | _, _, .bl b => rfl
  | _, _, .int i => rfl
  | _, _, .str x => rfl
  | _, _, .lst h n r => by rw [PyData.plain]; exact RpA.plain r
  | _, _, .lstK h r => by rw [PyData.plain]; exact RpA.plain r
  | _, _, .tup h r => by rw [PyData.plain]; exact RpA.plain r
theorem RpA.plain : ∀ {vs : List V} {ds : List PyData}, RpA K B H vs ds → PyData.plainAll ds = true
  | _, _, .nil => rfl
  | _, _, .cons r t => by rw [PyData.plainAll, Rp.plain r, RpA.plain t]; rfl
end
theorem RpA.length : ∀ {vs : List V} {ds : List PyData}, RpA K B H vs ds → vs.length = ds.length
  | _, _, .nil => rfl
  | _, _, .cons _ t => congrArg Nat.succ (RpA.length t)
theorem RpA.get : ∀ {vs : List V} {ds : List PyData} {i : Nat} {d : PyData}, RpA K B H vs ds → ds[i]? = some d → ∃ v, vs[i]? = some v ∧ Rp K B H v d
  | _, _, i, _, .nil, e => by simp at e
  | _, _, 0, _, .cons r _, e =>
      by simp at e; subst e; exact ⟨_, rfl, r⟩
  | _, _, i + 1, _, .cons _ t, e => by
    obtain ⟨v, h1, h2⟩ := RpA.get (i := i) t (by simpa using e)
    exact ⟨v, by simpa using h1, h2⟩
theorem RpA.getV : ∀ {vs : List V} {ds : List PyData} {i : Nat} {v : V}, RpA K B H vs ds → vs[i]? = some v → ∃ d, ds[i]? = some d ∧ Rp K B H v d
  | _, _, i, _, .nil, e => by simp at e
  | _, _, 0, _, .cons r _, e =>
      by simp at e; subst e; exact ⟨_, rfl, r⟩
  | _, _, i + 1, _, .cons _ t, e => by
    obtain ⟨v, h1, h2⟩ := RpA.getV (i := i) t (by simpa using e)
    exact ⟨v, by simpa using h1, h2⟩
theorem RpA.append : ∀ {vs ws : List V} {ds es : List PyData}, RpA K B H vs ds → RpA K B H ws es → RpA K B H (vs ++ ws) (ds ++ es)
  | _, _, _, _, .nil, s => s
  | _, _, _, _, .cons r t, s => .cons r (RpA.append t s)
theorem RpA.drop : ∀ {vs : List V} {ds : List PyData} (n : Nat), RpA K B H vs ds → RpA K B H (vs.drop n) (ds.drop n)
  | _, _, 0, r => r
  | _, _, _ + 1, .nil => .nil
  | _, _, n + 1, .cons _ t => RpA.drop n t
theorem RpA.take : ∀ {vs : List V} {ds : List PyData} (n : Nat), RpA K B H vs ds → RpA K B H (vs.take n) (ds.take n)
  | _, _, 0, r => .nil
  | _, _, _ + 1, .nil => .nil
  | _, _, n + 1, .cons r t => .cons r (RpA.take n t)
theorem RpA.snoc (r : RpA K B H vs ds) (q : Rp K B H v d) : RpA K B H (vs ++ [v]) (ds ++ [d]) := r.append (.cons q .nil)
theorem RpA.reverse : ∀ {vs : List V} {ds : List PyData}, RpA K B H vs ds → RpA K B H vs.reverse ds.reverse
  | _, _, .nil => .nil
  | _, _, .cons r t => by rw [List.reverse_cons, List.reverse_cons]; exact (RpA.reverse t).snoc r
theorem RpA.ints : ∀ {vs : List V} {ns : List Int}, RpA K B H vs (ns.map .int) → vs = ns.map V.int
  | [], [], _ => rfl
  | _, [], .nil => rfl
  | _, n :: ns, .cons r t => by
    cases r
    rw [RpA.ints t]; rfl
theorem RpA.of_ints : ∀ (ns : List Int), RpA K B H (ns.map V.int) (ns.map .int)
  | [] => .nil
  | n :: ns => .cons (.int n) (RpA.of_ints ns)

/-- a tuple's reading -/
theorem Rp.tuple_inv (r : Rp K B H v (.tuple ds)) : ∃ a xs, v = .ref a ∧ SqT K H a xs ∧ RpA K B H xs ds := by
  cases r with
  | tup h r => exact ⟨_, _, rfl, h, r⟩
theorem Rp.list_inv (r : Rp K B H v (.list ds)) : ∃ a xs, v = .ref a ∧ SqL K H a xs ∧ RpA K B H xs ds := by
  cases r with
  | lst h n r => exact ⟨_, _, rfl, .inl h, r⟩
  | lstK h r => exact ⟨_, _, rfl, .inr h, r⟩
end

/-! ### growth -/
/-- what stood is kept, but tables grow -/
def Gr (T : List Addr) (H H' : Hp) : Prop := (∀ a o, H a = some o → a ∉ T → H' a = some o) ∧ (∀ P, P ∈ T → TabG H P → TabG H' P)
def Tabs (T : List Addr) (H : Hp) : Prop := ∀ P, P ∈ T → TabG H P
section
variable {K : PySem.W.Frag} {T : List Addr} {B B' : Addr → Prop} {H H0 H1 H2 H' : Hp} {v : V} {d : PyData} {vs xs : List V} {ds : List PyData} {a p : Addr} {o : HO}
theorem Gr.refl : Gr T H H := ⟨fun _ _ h _ => h, fun _ _ h => h⟩
theorem Gr.trans (g : Gr T H H1) (g' : Gr T H1 H2) : Gr T H H2 := ⟨fun a o h n => g'.1 a o (g.1 a o h n) n, fun P hP h => g'.2 P hP (g.2 P hP h)⟩
theorem Tabs.gr (t : Tabs T H) (g : Gr T H H') : Tabs T H' := fun P hP => g.2 P hP (t P hP)
theorem Tabs.not (t : Tabs T H) (h : H a = some o) (n : ∀ ps, o ≠ .tbl ps) : a ∉ T := fun hm => by
  obtain ⟨ps, e, _⟩ := t a hm
  rw [h] at e
  exact n ps (Option.some.inj e)
theorem Tabs.notNone (t : Tabs T H) (h : H a = none) : a ∉ T := fun hm => by
  obtain ⟨ps, e, _⟩ := t a hm
  rw [h] at e; cases e
theorem Gr.at (g : Gr T H H') (t : Tabs T H) (h : H a = some o) (n : ∀ ps, o ≠ .tbl ps) : H' a = some o := g.1 a o h (t.not h n)
theorem Gr.rd (g : Gr T H H') (t : Tabs T H) {u : HO} (n : ∀ ps, u ≠ .tbl ps) (h : Rd H a u) : Rd H' a u := by
  rcases h with h | ⟨o, h⟩
  · exact .inl (g.at t h n)
  · exact .inr ⟨o, g.at t h fun ps e => by cases e⟩
theorem Gr.sqT (g : Gr T H H') (t : Tabs T H) (h : SqT K H a xs) : SqT K H' a xs := by
  rcases h with h | h
  · exact .inl (g.rd t (fun ps e => by cases e) h)
  · exact .inr h
theorem Gr.sqL (g : Gr T H H') (t : Tabs T H) (h : SqL K H a xs) : SqL K H' a xs := by
  rcases h with h | h
  · exact .inl (g.rd t (fun ps e => by cases e) h)
  · exact .inr h
theorem Rp.grow (g : Gr T H H') (t : Tabs T H) (r : Rp K B H v d) : Rp K B H' v d := r.imp (fun a xs n h => ⟨g.rd t (fun ps e => by cases e) h, n⟩) fun a xs h => g.sqT t h
theorem RpA.grow (g : Gr T H H') (t : Tabs T H) (r : RpA K B H vs ds) : RpA K B H' vs ds := r.imp (fun a xs n h => ⟨g.rd t (fun ps e => by cases e) h, n⟩) fun a xs h => g.sqT t h
theorem Rp.less (h : ∀ a, B' a → B a) (r : Rp K B H v d) : Rp K B' H v d := r.imp (fun a xs n q => ⟨q, fun z => n (h a z)⟩) fun a xs q => q
theorem RpA.less (h : ∀ a, B' a → B a) (r : RpA K B H vs ds) : RpA K B' H vs ds := r.imp (fun a xs n q => ⟨q, fun z => n (h a z)⟩) fun a xs q => q
theorem Gr.new (t : Tabs T H) (hp : H p = none) : Gr T H (upd H p o) := by
  refine ⟨fun a u h _ => ?_, fun P hP h => ?_⟩
  · rw [upd_ne (ne_of_none h hp)]; exact h
  · obtain ⟨ps, e, q⟩ := h
    exact ⟨ps, by rw [upd_ne (ne_of_none e hp)]; exact e, q⟩
theorem Gr.tab {P : Addr} (hP : P ∈ T) (h : Tabbed P H H') : Gr T H H' := by
  refine ⟨fun a u e n => ?_, fun Q hQ g => ?_⟩
  · rw [h.2 a fun z => n (by rw [z]; exact hP)]; exact e
  · by_cases z : Q = P
    · rw [z]; exact h.1
    · obtain ⟨ps, e, q⟩ := g
      exact ⟨ps, by rw [h.2 Q z]; exact e, q⟩
/-- fresh addresses added to B -/
theorem Rp.moreL {as : List Addr} (hp : ∀ p ∈ as, H p = none) (r : Rp K B H v d) : Rp K (fun a => B a ∨ a ∈ as) H v d := r.imp (fun a xs n q => ⟨q, fun z => by
    rcases z with z | z
    · exact n z
    · rcases q with q | ⟨o, q⟩ <;> (rw [hp a z] at q; cases q)⟩) fun a xs q => q
theorem RpA.moreL {as : List Addr} (hp : ∀ p ∈ as, H p = none) (r : RpA K B H vs ds) : RpA K (fun a => B a ∨ a ∈ as) H vs ds := r.imp (fun a xs n q => ⟨q, fun z => by
    rcases z with z | z
    · exact n z
    · rcases q with q | ⟨o, q⟩ <;> (rw [hp a z] at q; cases q)⟩) fun a xs q => q
/-- a fresh address added to B -/
theorem Rp.more (hp : H p = none) (r : Rp K B H v d) : Rp K (fun a => B a ∨ a = p) H v d := r.imp (fun a xs n q => ⟨q, fun z => by
    rcases z with z | z
    · exact n z
    · rw [z] at q
      rcases q with q | ⟨o, q⟩ <;> (rw [hp] at q; cases q)⟩) fun a xs q => q
theorem RpA.more (hp : H p = none) (r : RpA K B H vs ds) : RpA K (fun a => B a ∨ a = p) H vs ds := r.imp (fun a xs n q => ⟨q, fun z => by
    rcases z with z | z
    · exact n z
    · rw [z] at q
      rcases q with q | ⟨o, q⟩ <;> (rw [hp] at q; cases q)⟩) fun a xs q => q
/-- what an owned object is: no tuple, nothing known, no table -/
def Wr : HO → Prop
  | .tup _ => False
  | .frz _ _ => False
  | .tbl _ => False
  | _ => True
theorem wr_tup {u : HO} {ys : List V} (w : Wr u) : HO.tup ys ≠ u := fun z => by rw [← z] at w; exact w
theorem wr_frz {u : HO} {ob : Obj} {u' : HO} (w : Wr u) : HO.frz ob u' ≠ u := fun z => by rw [← z] at w; exact w
theorem wr_tbl {u : HO} (w : Wr u) : ∀ ps, u ≠ .tbl ps := fun ps z => by rw [z] at w; exact w
/-- an owned object is written -/
theorem Rp.writeO {u : HO} (hp : H p = some u) (w : Wr u) (hB : B p) (r : Rp K B H v d) : Rp K B (upd H p o) v d := r.imp (fun a ys n q => ⟨by
    have e : a ≠ p := fun z => n (by rw [z]; exact hB)
    rcases q with q | ⟨u, q⟩
    · exact .inl (by rw [upd_ne e]; exact q)
    · exact .inr ⟨u, by rw [upd_ne e]; exact q⟩, n⟩) fun a ys q => by
    rcases q with (q | ⟨u', q⟩) | q
    · exact .inl (.inl (by rw [upd_ne (ne_of q hp (wr_tup w))]; exact q))
    · exact .inl (.inr ⟨u', by rw [upd_ne (ne_of q hp (wr_frz w))]; exact q⟩)
    · exact .inr q
theorem RpA.writeO {u : HO} (hp : H p = some u) (w : Wr u) (hB : B p) : ∀ {vs : List V} {ds : List PyData}, RpA K B H vs ds → RpA K B (upd H p o) vs ds
  | _, _, .nil => .nil
  | _, _, .cons r t => .cons (r.writeO hp w hB) (RpA.writeO hp w hB t)
theorem Rp.write (hp : H p = some (.lst xs)) (hB : B p) (r : Rp K B H v d) : Rp K B (upd H p o) v d := r.writeO hp True.intro hB
theorem RpA.write (hp : H p = some (.lst xs)) (hB : B p) : ∀ {vs : List V} {ds : List PyData}, RpA K B H vs ds → RpA K B (upd H p o) vs ds
  | _, _, .nil => .nil
  | _, _, .cons r t => .cons (r.write hp hB) (RpA.write hp hB t)
end

/-! ### slots -/
theorem getS_nil (i : Nat) : getS [] i = .non := rfl
theorem getS_zero (x : SV) (r : List SV) : getS (x :: r) 0 = x := rfl
theorem getS_succ (x : SV) (r : List SV) (i : Nat) : getS (x :: r) (i + 1) = getS r i := rfl
theorem setS_len : ∀ (env : List SV) (i : Nat) (y : SV), (setS env i y).length = env.length
  | [], _, _ => rfl
  | _ :: _, 0, _ => rfl
  | x :: r, i + 1, y => congrArg Nat.succ (setS_len r i y)
theorem getS_lt : ∀ {env : List SV} {i : Nat}, getS env i ≠ .non → i < env.length
  | [], _, h => absurd rfl h
  | _ :: _, 0, _ => Nat.succ_pos _
  | _ :: r, i + 1, h => Nat.succ_lt_succ (getS_lt (env := r) (i := i) h)
theorem getS_set_same : ∀ {env : List SV} {i : Nat} {y : SV}, i < env.length → getS (setS env i y) i = y
  | [], _, _, h =>
      absurd h (Nat.not_lt_zero _)
  | _ :: _, 0, _, _ => rfl
  | _ :: r, i + 1, y, h => getS_set_same (env := r) (Nat.lt_of_succ_lt_succ h)
theorem getS_set_ne : ∀ {env : List SV} {i j : Nat} {y : SV}, i ≠ j → getS (setS env i y) j = getS env j
  | [], _, _, _, _ => rfl
  | _ :: _, 0, 0, _, h => absurd rfl h
  | _ :: _, 0, _ + 1, _, _ => rfl
  | _ :: _, _ + 1, 0, _, _ => rfl
  | _ :: r, i + 1, j + 1, y, h => getS_set_ne (env := r) fun e => h (congrArg Nat.succ e)
theorem wipeS_cons (env : List SV) (i : Nat) (vs : List Nat) : wipeS env (i :: vs) = setS (wipeS env vs) i .non := rfl
theorem wipeS_len (env : List SV) : ∀ vs : List Nat, (wipeS env vs).length = env.length
  | [] => rfl
  | i :: vs => by rw [wipeS_cons, setS_len, wipeS_len env vs]
theorem getS_wipe {env : List SV} {j : Nat} : ∀ {vs : List Nat}, getS (wipeS env vs) j ≠ .non → getS (wipeS env vs) j = getS env j ∧ j ∉ vs
  | [], _ => ⟨rfl, by simp⟩
  | i :: vs, h => by
    rw [wipeS_cons] at h ⊢
    by_cases e : i = j
    · subst e
      by_cases l : i < (wipeS env vs).length
      · rw [getS_set_same l] at h; exact absurd rfl h
      · have := getS_lt h
        rw [setS_len] at this
        exact absurd this l
    · rw [getS_set_ne e] at h ⊢
      obtain ⟨h1, h2⟩ := getS_wipe h
      exact ⟨h1, by simp only [List.mem_cons, not_or]; exact ⟨fun z => e z.symm, h2⟩⟩

/-! ### what a slot owns -/
/-- lists, each at its place -/
inductive LLs (K : PySem.W.Frag) (B : Addr → Prop) (H : Hp) : List Addr → List (List PyData) → Prop
  | nil : LLs K B H [] []
  | cons {p : Addr} {ps : List Addr} {xs : List V} {ds : List PyData} {dss : List (List PyData)} : H p = some (.lst xs) → RpA K B H xs ds → LLs K B H ps dss → LLs K B H (p :: ps) (ds :: dss)
/-- the object, over all places that are its own -/
def ObAt (K : PySem.W.Frag) (B : Addr → Prop) (H : Hp) (as : List Addr) : OV → Prop
  | .lst ds => ∃ p xs, as = [p] ∧ H p = some (.lst xs) ∧ RpA K B H xs ds
  | .ll dss => ∃ p ps, as = p :: ps ∧ H p = some (.lst (ps.map .ref)) ∧ LLs K B H ps dss
section
variable {K : PySem.W.Frag} {T : List Addr} {B B' : Addr → Prop} {H H' : Hp} {as ps : List Addr} {ob : OV} {dss : List (List PyData)} {p : Addr} {o u : HO}
theorem LLs.imp (h1 : ∀ p ∈ ps, ∀ xs, H p = some (.lst xs) → H' p = some (.lst xs)) (h2 : ∀ xs ds, RpA K B H xs ds → RpA K B' H' xs ds) (h : LLs K B H ps dss) : LLs K B' H' ps dss := by
  induction h with
  | nil => exact .nil
  | cons a r t ih => exact .cons (h1 _ (List.mem_cons_self ..) _ a) (h2 _ _ r) (ih fun p hp => h1 p (List.mem_cons_of_mem _ hp))
theorem LLs.dom (h : LLs K B H ps dss) : ∀ a ∈ ps, ∃ xs, H a = some (.lst xs) := by
  induction h with
  | nil => intro a ha; cases ha
  | cons e r t ih =>
    intro a ha
    rcases List.mem_cons.mp ha with z | z
    · rw [z]; exact ⟨_, e⟩
    · exact ih a z
theorem ObAt.imp (h1 : ∀ p ∈ as, ∀ xs, H p = some (.lst xs) → H' p = some (.lst xs)) (h2 : ∀ xs ds, RpA K B H xs ds → RpA K B' H' xs ds) (h : ObAt K B H as ob) : ObAt K B' H' as ob := by
  cases ob with
  | lst ds =>
    obtain ⟨p, xs, e, a, r⟩ := h
    exact ⟨p, xs, e, h1 p (by rw [e]; exact List.mem_cons_self ..) _ a, h2 _ _ r⟩
  | ll dss =>
    obtain ⟨p, ps, e, a, r⟩ := h
    subst e
    exact ⟨p, ps, rfl, h1 p (List.mem_cons_self ..) _ a, r.imp (fun q hq => h1 q (List.mem_cons_of_mem _ hq)) h2⟩
theorem ObAt.dom (h : ObAt K B H as ob) : ∀ a ∈ as, ∃ u, H a = some u ∧ Wr u := by
  intro a ha
  cases ob with
  | lst ds =>
    obtain ⟨p, xs, e, q, r⟩ := h
    rw [e] at ha
    rw [List.mem_singleton.mp ha]
    exact ⟨_, q, True.intro⟩
  | ll dss =>
    obtain ⟨p, ps, e, q, r⟩ := h
    subst e
    rcases List.mem_cons.mp ha with z | z
    · rw [z]; exact ⟨_, q, True.intro⟩
    · obtain ⟨xs, e⟩ := r.dom a z
      exact ⟨_, e, True.intro⟩
theorem ObAt.grow (g : Gr T H H') (t : Tabs T H) (h : ObAt K B H as ob) : ObAt K B H' as ob := h.imp (fun p _ xs e => g.at t e fun ps z => by cases z) fun _ _ r => r.grow g t
theorem ObAt.less (h : ∀ a, B' a → B a) (r : ObAt K B H as ob) : ObAt K B' H as ob := r.imp (fun _ _ _ e => e) fun _ _ r => r.less h
theorem ObAt.moreL {bs : List Addr} (hp : ∀ p ∈ bs, H p = none) (r : ObAt K B H as ob) : ObAt K (fun a => B a ∨ a ∈ bs) H as ob := r.imp (fun _ _ _ e => e) fun _ _ r => r.moreL hp
theorem ObAt.more (hp : H p = none) (r : ObAt K B H as ob) : ObAt K (fun a => B a ∨ a = p) H as ob := r.imp (fun _ _ _ e => e) fun _ _ r => r.more hp
theorem ObAt.writeO (hp : H p = some u) (w : Wr u) (hB : B p) (hn : p ∉ as) (r : ObAt K B H as ob) : ObAt K B (upd H p o) as ob := r.imp (fun q hq _ e => by rw [upd_ne fun z => hn (by rw [← z]; exact hq)]; exact e) fun _ _ r => r.writeO hp w hB
end
/-- the first place of what a slot owns -/
def hd (A : Nat → List Addr) (i : Nat) : Addr := (A i).headD 0
/-- what no value but its slot's names: B, and what the slots own -/
def Bt (B : Addr → Prop) (A : Nat → List Addr) (env : List SV) : Addr → Prop := fun a => B a ∨ ∃ i o, getS env i = .own o ∧ a ∈ A i
structure Rl (K : PySem.W.Frag) (T : List Addr) (B : Addr → Prop) (H0 : Hp) (A : Nat → List Addr) (env : List SV) (σ : L2.St) (H : Hp) : Prop where
  gr : Gr T H0 H
  tabs : Tabs T H
  dom : ∀ a, B a → H a ≠ none
  len : env.length = σ.length
  own : ∀ i o, getS env i = .own o → σ[i]? = some (some (.ref (hd A i))) ∧ ObAt K (Bt B A env) H (A i) o ∧ (A i).Nodup ∧ ∀ a ∈ A i, H0 a = none ∧ ¬ B a
  inj : ∀ i j o o', getS env i = .own o → getS env j = .own o' → ∀ a, a ∈ A i → a ∈ A j → i = j
  val : ∀ i d, getS env i = .val d → ∃ v, σ[i]? = some (some v) ∧ Rp K (Bt B A env) H v d
section
variable {K : PySem.W.Frag} {T : List Addr} {B : Addr → Prop} {H H0 H' : Hp} {A : Nat → List Addr} {env : List SV} {σ : L2.St} {v : V} {d : PyData} {i : Nat} {ds es : List PyData} {p : Addr} {xs : List V} {o : OV}
theorem Rl.ownL1 (r : Rl K T B H0 A env σ H) (h : getS env i = .own (.lst ds)) : A i = [hd A i] := by
  obtain ⟨_, ⟨p, xs, e, _⟩, _⟩ := r.own i _ h
  unfold hd
  rw [e]; rfl
theorem Rl.ownL (r : Rl K T B H0 A env σ H) (i : Nat) (ds : List PyData) (h : getS env i = .own (.lst ds)) : ∃ xs, σ[i]? = some (some (.ref (hd A i))) ∧ H (hd A i) = some (.lst xs) ∧ RpA K (Bt B A env) H xs ds ∧ H0 (hd A i) = none ∧ ¬ B (hd A i) := by
  obtain ⟨h1, ⟨p, xs, e, h2, h3⟩, _, h4⟩ := r.own i _ h
  have e' : hd A i = p := by unfold hd; rw [e]; rfl
  have q := h4 p (by rw [e]; exact List.mem_cons_self ..)
  rw [e']
  exact ⟨xs, by rw [← e']; exact h1, h2, h3, q.1, q.2⟩
theorem Rl.btA (r : Rl K T B H0 A env σ H) (h : getS env i = .own (.lst ds)) : Bt B A env (hd A i) := .inr ⟨i, _, h, by rw [r.ownL1 h]; exact List.mem_cons_self ..⟩
theorem Rl.grow (r : Rl K T B H0 A env σ H) (g : Gr T H H') : Rl K T B H0 A env σ H' where
  gr := r.gr.trans g
  tabs := r.tabs.gr g
  dom := fun a h e => by
    have h1 := r.dom a h
    cases q : H a with
    | none => exact h1 q
    | some o =>
      by_cases hT : a ∈ T
      · obtain ⟨ps, e', _⟩ := g.2 a hT (r.tabs a hT)
        rw [e] at e'; cases e'
      · rw [g.1 a o q hT] at e; cases e
  len := r.len
  own := fun i o h => by
    obtain ⟨h1, h2, h3⟩ := r.own i o h
    exact ⟨h1, h2.grow g r.tabs, h3⟩
  inj := r.inj
  val := fun i d h => by
    obtain ⟨v, h1, h2⟩ := r.val i d h
    exact ⟨v, h1, h2.grow g r.tabs⟩
theorem get_set_of {y z : SV} {j : Nat} (hz : z ≠ .non) (h : getS (setS env i y) j = z) : (i = j ∧ i < env.length ∧ y = z) ∨ (i ≠ j ∧ getS env j = z) := by
  by_cases e : i = j
  · subst e
    have q : i < (setS env i y).length := getS_lt (by rw [h]; exact hz)
    rw [setS_len] at q
    rw [getS_set_same q] at h
    exact .inl ⟨rfl, q, h⟩
  · rw [getS_set_ne e] at h
    exact .inr ⟨e, h⟩
theorem Bt.set {y : SV} (hy : ∀ o, y ≠ .own o) : ∀ a, Bt B A (setS env i y) a → Bt B A env a := fun a h => by
  rcases h with h | ⟨j, o, h, e⟩
  · exact .inl h
  · rcases get_set_of (by intro z; cases z) h with ⟨_, _, q⟩ | ⟨_, h⟩
    · exact absurd q (hy o)
    · exact .inr ⟨j, o, h, e⟩
/-- the slots but one keep what they are -/
theorem Rl.put (r : Rl K T B H0 A env σ H) {y : SV} {x : Option V} (hy : ∀ o, y ≠ .own o) (hv : ∀ d, y = .val d → ∃ v, x = some v ∧ Rp K (Bt B A env) H v d) : Rl K T B H0 A (setS env i y) (σ.set i x) H where
  gr := r.gr
  tabs := r.tabs
  dom := r.dom
  len := by rw [setS_len, List.length_set]; exact r.len
  own := fun j o h => by
    rcases get_set_of (by intro z; cases z) h with ⟨_, _, e⟩ | ⟨e, h⟩
    · exact absurd e (hy o)
    · obtain ⟨h1, h2, h3⟩ := r.own j o h
      exact ⟨by rw [List.getElem?_set_ne e]; exact h1, h2.less (Bt.set hy), h3⟩
  inj := fun j k o o' h1 h2 e => by
    rcases get_set_of (by intro z; cases z) h1 with ⟨_, _, q⟩ | ⟨_, h1⟩
    · exact absurd q (hy o)
    · rcases get_set_of (by intro z; cases z) h2 with ⟨_, _, q⟩ | ⟨_, h2⟩
      · exact absurd q (hy o')
      · exact r.inj j k o o' h1 h2 e
  val := fun j d' h => by
    rcases get_set_of (by intro z; cases z) h with ⟨e, l, q⟩ | ⟨e, h⟩
    · subst e
      obtain ⟨v, ev, rv⟩ := hv d' q
      exact ⟨v, by rw [List.getElem?_set_self (by rw [← r.len]; exact l), ev], rv.less (Bt.set hy)⟩
    · obtain ⟨v', h1, h2⟩ := r.val j d' h
      exact ⟨v', by rw [List.getElem?_set_ne e]; exact h1, h2.less (Bt.set hy)⟩
theorem Rl.set (r : Rl K T B H0 A env σ H) (hv : Rp K (Bt B A env) H v d) : Rl K T B H0 A (setS env i (.val d)) (σ.set i (some v)) H :=
  r.put (fun o e => by cases e) fun d' e => by cases e; exact ⟨v, rfl, hv⟩
/-- a slot's value is forgotten -/
theorem Rl.drop (r : Rl K T B H0 A env σ H) : Rl K T B H0 A (setS env i .non) (σ.set i none) H :=
  r.put (fun o e => by cases e) fun d' e => by cases e
theorem Rl.wipe (r : Rl K T B H0 A env σ H) : ∀ vs : List Nat, Rl K T B H0 A (wipeS env vs) (L2.wipe σ vs) H
  | [] => r
  | v :: vs => by
    rw [wipeS_cons]
    exact Rl.drop (Rl.wipe r vs)
theorem Bt.wipe : ∀ (vs : List Nat) (a : Addr), Bt B A (wipeS env vs) a → Bt B A env a
  | [], _, h => h
  | v :: vs, a, h => Bt.wipe vs a (Bt.set (i := v) (y := .non) (fun ds z => by cases z) a h)
theorem LLs.rp {B' : Addr → Prop} {ps : List Addr} {dss : List (List PyData)} (hn : ∀ p ∈ ps, ¬ B' p) (hl : ∀ a, B' a → B a) (h : LLs K B H ps dss) : RpA K B' H (ps.map .ref) (dss.map .list) := by
  induction h with
  | nil => exact .nil
  | cons e r t ih => exact .cons (.lst (.inl e) (hn _ (List.mem_cons_self ..)) (r.less hl)) (ih fun p hp => hn p (List.mem_cons_of_mem _ hp))
theorem ObAt.rp {B' : Addr → Prop} {as : List Addr} (hn : ∀ p ∈ as, ¬ B' p) (hl : ∀ a, B' a → B a) (h : ObAt K B H as o) : Rp K B' H (.ref (as.headD 0)) o.dat := by
  cases o with
  | lst ds =>
    obtain ⟨p, xs, e, h2, h3⟩ := h
    subst e
    exact .lst (.inl h2) (hn p (List.mem_cons_self ..)) (h3.less hl)
  | ll dss =>
    obtain ⟨p, ps, e, h2, h3⟩ := h
    subst e
    exact .lst (.inl h2) (hn p (List.mem_cons_self ..)) (h3.rp (fun q hq => hn q (List.mem_cons_of_mem _ hq)) hl)
theorem Rl.frzO (r : Rl K T B H0 A env σ H) (h : getS env i = .own o) : Rl K T B H0 A (setS env i (.val o.dat)) σ H := by
  obtain ⟨h1, h2, h3, h5⟩ := r.own i o h
  have hl : i < env.length := getS_lt (by rw [h]; intro z; cases z)
  have e : σ.set i (some (.ref (hd A i))) = σ := by
    apply List.ext_getElem?
    intro j
    by_cases z : i = j
    · subst z
      rw [List.getElem?_set_self (by rw [← r.len]; exact hl), h1]
    · rw [List.getElem?_set_ne z]
  have hb : ∀ a, Bt B A (setS env i (.val o.dat)) a → Bt B A env a := Bt.set fun o z => by cases z
  have nA : ∀ a ∈ A i, ¬ Bt B A (setS env i (.val o.dat)) a := fun a ha q => by
    rcases q with q | ⟨j, o', q, ej⟩
    · exact (h5 a ha).2 q
    · rcases get_set_of (by intro z; cases z) q with ⟨_, _, e⟩ | ⟨e, q⟩
      · cases e
      · exact e (r.inj i j o o' h q a ha ej)
  refine ⟨r.gr, r.tabs, r.dom, by rw [setS_len]; exact r.len, fun j o' hj => ?_, fun j k o' o'' hj hk ek => ?_, fun j d' hj => ?_⟩
  · rcases get_set_of (by intro z; cases z) hj with ⟨_, _, e⟩ | ⟨e, hj⟩
    · cases e
    · obtain ⟨h1, h2, h3⟩ := r.own j o' hj
      exact ⟨h1, h2.less hb, h3⟩
  · rcases get_set_of (by intro z; cases z) hj with ⟨_, _, q⟩ | ⟨_, hj⟩
    · cases q
    · rcases get_set_of (by intro z; cases z) hk with ⟨_, _, q⟩ | ⟨_, hk⟩
      · cases q
      · exact r.inj j k o' o'' hj hk ek
  · rcases get_set_of (by intro z; cases z) hj with ⟨e, l, q⟩ | ⟨e, hj⟩
    · subst e
      cases q
      exact ⟨_, h1, h2.rp nA hb⟩
    · obtain ⟨v', h1, h2⟩ := r.val j d' hj
      exact ⟨v', h1, h2.less hb⟩
theorem Rl.frz (r : Rl K T B H0 A env σ H) (h : getS env i = .own (.lst ds)) : Rl K T B H0 A (setS env i (.val (.list ds))) σ H := r.frzO h
theorem Bt.own {o o' : OV} (h : getS env i = .own o) (a : Addr) : Bt B A (setS env i (.own o')) a ↔ Bt B A env a := by
  have hl : i < env.length := getS_lt (by rw [h]; intro z; cases z)
  constructor
  · intro q
    rcases q with q | ⟨j, o2, q, e⟩
    · exact .inl q
    · rcases get_set_of (by intro z; cases z) q with ⟨z, _, _⟩ | ⟨_, q⟩
      · subst z; exact .inr ⟨_, o, h, e⟩
      · exact .inr ⟨j, o2, q, e⟩
  · intro q
    rcases q with q | ⟨j, o2, q, e⟩
    · exact .inl q
    · by_cases z : i = j
      · subst z; exact .inr ⟨i, o', getS_set_same hl, e⟩
      · exact .inr ⟨j, o2, by rw [getS_set_ne z]; exact q, e⟩
/-- an owned object gets another content, at one of its places -/
theorem Rl.writeG (r : Rl K T B H0 A env σ H) {o' : OV} {u : HO} (h : getS env i = .own o) (hp : p ∈ A i) (hx : ObAt K (Bt B A env) (upd H p u) (A i) o') : Rl K T B H0 A (setS env i (.own o')) σ (upd H p u) := by
  obtain ⟨h1, h2, h3, h5⟩ := r.own i o h
  have hl : i < env.length := getS_lt (by rw [h]; intro z; cases z)
  obtain ⟨u0, hu, w⟩ := h2.dom p hp
  have hA : Bt B A env p := .inr ⟨i, o, h, hp⟩
  have nT : p ∉ T := r.tabs.not hu (wr_tbl w)
  have eB : ∀ a, Bt B A (setS env i (.own o')) a ↔ Bt B A env a := Bt.own h
  refine ⟨⟨fun a o e n => ?_, fun P hP g => ?_⟩, fun P hP => ?_, fun a ha e => ?_, by rw [setS_len]; exact r.len, fun j o2 hj => ?_, fun j k o2 o3 hj hk ek => ?_, fun j d' hj => ?_⟩
  · rw [upd_ne (ne_of_none e (h5 p hp).1)]; exact r.gr.1 a o e n
  · obtain ⟨ps, e, q⟩ := r.gr.2 P hP g
    exact ⟨ps, by rw [upd_ne fun z => nT (by rw [← z]; exact hP)]; exact e, q⟩
  · obtain ⟨ps, e, q⟩ := r.tabs P hP
    exact ⟨ps, by rw [upd_ne fun z => nT (by rw [← z]; exact hP)]; exact e, q⟩
  · by_cases z : a = p
    · rw [z, upd_same] at e; cases e
    · rw [upd_ne z] at e; exact r.dom a ha e
  · rcases get_set_of (by intro z; cases z) hj with ⟨z, _, q⟩ | ⟨z, hj⟩
    · subst z
      cases q
      exact ⟨h1, hx.less fun a => (eB a).mp, h3, h5⟩
    · obtain ⟨j1, j2, j3⟩ := r.own j o2 hj
      exact ⟨j1, (j2.writeO hu w hA fun q => z (r.inj j i o2 o hj h p q hp).symm).less fun a => (eB a).mp, j3⟩
  · have at_ : ∀ {j : Nat} {o2 : OV}, getS (setS env i (.own o')) j = .own o2 → ∃ o3, getS env j = .own o3 := fun {j o2} q => by
      rcases get_set_of (by intro z; cases z) q with ⟨z, _, _⟩ | ⟨_, q⟩
      · subst z; exact ⟨o, h⟩
      · exact ⟨o2, q⟩
    obtain ⟨_, hj⟩ := at_ hj
    obtain ⟨_, hk⟩ := at_ hk
    exact r.inj j k _ _ hj hk ek
  · rcases get_set_of (by intro z; cases z) hj with ⟨z, _, q⟩ | ⟨z, hj⟩
    · cases q
    · obtain ⟨v', j1, j2⟩ := r.val j d' hj
      exact ⟨v', j1, (j2.writeO hu w hA).less fun a => (eB a).mp⟩
/-- an owned list gets another content -/
theorem Rl.write (r : Rl K T B H0 A env σ H) (h : getS env i = .own (.lst ds)) (hx : RpA K (Bt B A env) H xs es) : Rl K T B H0 A (setS env i (.own (.lst es))) σ (upd H (hd A i) (.lst xs)) := by
  obtain ⟨ys, h1, h2, h3, h4, h5⟩ := r.ownL i ds h
  refine r.writeG h (by rw [r.ownL1 h]; exact List.mem_cons_self ..) ⟨_, xs, r.ownL1 h, upd_same, hx.write h2 (r.btA h)⟩
def setA (A : Nat → List Addr) (i : Nat) (as : List Addr) : Nat → List Addr := fun j => if j = i then as else A j
theorem setA_same {as : List Addr} : setA A i as i = as := if_pos rfl
theorem setA_ne {as : List Addr} {j : Nat} (h : i ≠ j) : setA A i as j = A j := if_neg fun e => h e.symm
theorem Bt.setOb {as : List Addr} : ∀ a, Bt B (setA A i as) (setS env i (.own o)) a → Bt B A env a ∨ a ∈ as := fun a q => by
  rcases q with q | ⟨j, o', q, e⟩
  · exact .inl (.inl q)
  · rcases get_set_of (by intro z; cases z) q with ⟨z, _, _⟩ | ⟨z, q⟩
    · subst z
      rw [setA_same] at e
      exact .inr e
    · rw [setA_ne z] at e
      exact .inl (.inr ⟨j, o', q, e⟩)
/-- a new object is laid into a slot that owns it: its places were free in H, it stands in H' -/
theorem Rl.setOb (r : Rl K T B H0 A env σ H) {as : List Addr} (g : Gr T H H') (hp : ∀ p ∈ as, H p = none) (hn : as.Nodup) (hx : ObAt K (fun a => Bt B A env a ∨ a ∈ as) H' as o) :
    Rl K T B H0 (setA A i as) (setS env i (.own o)) (σ.set i (some (.ref (as.headD 0)))) H' := by
  have hB : ∀ p ∈ as, ¬ B p := fun p m q => r.dom p q (hp p m)
  have hB' : ∀ a, Bt B (setA A i as) (setS env i (.own o)) a → Bt B A env a ∨ a ∈ as := Bt.setOb
  have h0 : ∀ p ∈ as, H0 p = none := fun p m => by
    cases e : H0 p with
    | none => rfl
    | some o =>
      have nT : p ∉ T := r.tabs.notNone (hp p m)
      have := r.gr.1 p o e nT
      rw [hp p m] at this; cases this
  have r' := r.grow g
  have up : ∀ {v : V} {d : PyData}, Rp K (Bt B A env) H v d → Rp K (Bt B (setA A i as) (setS env i (.own o))) H' v d := fun q => ((q.moreL hp).less hB').grow g r.tabs
  refine ⟨r'.gr, r'.tabs, r'.dom, by rw [setS_len, List.length_set]; exact r.len, fun j o' hj => ?_, fun j k o' o'' hj hk a ha hb => ?_, fun j d' hj => ?_⟩
  · rcases get_set_of (by intro z; cases z) hj with ⟨z, l, q⟩ | ⟨z, hj⟩
    · subst z
      cases q
      refine ⟨?_, by rw [setA_same]; exact hx.less hB', by rw [setA_same]; exact hn, by rw [setA_same]; exact fun a m => ⟨h0 a m, hB a m⟩⟩
      unfold hd
      rw [setA_same, List.getElem?_set_self (by rw [← r.len]; exact l)]
    · obtain ⟨j1, j2, j3⟩ := r.own j o' hj
      unfold hd
      rw [setA_ne z]
      exact ⟨by rw [List.getElem?_set_ne z]; exact j1, ((j2.moreL hp).less hB').grow g r.tabs, j3⟩
  · have old : ∀ {j : Nat} {o' : OV}, getS env j = .own o' → ∀ a ∈ A j, a ∉ as := fun {j o'} q a m n => by
      obtain ⟨_, j2, _⟩ := r.own j o' q
      obtain ⟨u, e, _⟩ := j2.dom a m
      rw [hp a n] at e; cases e
    rcases get_set_of (by intro z; cases z) hj with ⟨z, _, _⟩ | ⟨z, hj⟩
    · subst z
      rcases get_set_of (by intro z; cases z) hk with ⟨z, _, _⟩ | ⟨z, hk⟩
      · exact z
      · rw [setA_same] at ha
        rw [setA_ne z] at hb
        exact absurd ha (old hk a hb)
    · rcases get_set_of (by intro z; cases z) hk with ⟨y, _, _⟩ | ⟨y, hk⟩
      · subst y
        rw [setA_same] at hb
        rw [setA_ne z] at ha
        exact absurd hb (old hj a ha)
      · rw [setA_ne z] at ha
        rw [setA_ne y] at hb
        exact r.inj j k _ _ hj hk a ha hb
  · rcases get_set_of (by intro z; cases z) hj with ⟨_, _, q⟩ | ⟨z, hj⟩
    · cases q
    · obtain ⟨v', j1, j2⟩ := r.val j d' hj
      exact ⟨v', by rw [List.getElem?_set_ne z]; exact j1, up j2⟩
theorem Rl.setOwn (r : Rl K T B H0 A env σ H) (g : Gr T H H') (hp : H p = none) (hp' : H' p = some (.lst xs)) (hx : RpA K (fun a => Bt B A env a ∨ a = p) H' xs ds) :
    Rl K T B H0 (setA A i [p]) (setS env i (.own (.lst ds))) (σ.set i (some (.ref p))) H' :=
  r.setOb g (fun q m => by rw [List.mem_singleton.mp m]; exact hp) (List.nodup_cons.mpr ⟨by simp, List.nodup_nil⟩) ⟨p, xs, rfl, hp', hx.less fun a q => by
    rcases q with q | q
    · exact .inl q
    · exact .inr (List.mem_singleton.mp q)⟩
/-- a fresh address is put into B -/
theorem Rl.addB (r : Rl K T B H0 A env σ H) (hp : H p = none) {o : HO} : Rl K T (fun a => B a ∨ a = p) H0 A env σ (upd H p o) := by
  have g : Gr T H (upd H p o) := Gr.new r.tabs hp
  have r' := r.grow g
  have hB : ∀ a, Bt (fun a => B a ∨ a = p) A env a → Bt B A env a ∨ a = p := fun a q => by
    rcases q with (q | q) | q
    · exact .inl (.inl q)
    · exact .inr q
    · exact .inl (.inr q)
  refine ⟨r'.gr, r'.tabs, fun a ha => ?_, r.len, fun j o' hj => ?_, r.inj, fun j d hj => ?_⟩
  · rcases ha with ha | ha
    · exact r'.dom a ha
    · rw [ha, upd_same]; intro z; cases z
  · obtain ⟨h1, h2, h3, h5⟩ := r.own j o' hj
    refine ⟨h1, ((h2.more hp).less hB).grow g r.tabs, h3, fun a ha => ⟨(h5 a ha).1, fun q => ?_⟩⟩
    rcases q with q | q
    · exact (h5 a ha).2 q
    · obtain ⟨u, e, _⟩ := h2.dom a ha
      rw [q, hp] at e; cases e
  · obtain ⟨v, h1, h2⟩ := r.val j d hj
    exact ⟨v, h1, ((h2.more hp).less hB).grow g r.tabs⟩
/-- where B's own list at p (no slot's) is written -/
theorem Rl.writeB (r : Rl K T B H0 A env σ H) (hp : H p = some (.lst xs)) (hB : B p) (h0 : H0 p = none) {ys : List V} : Rl K T B H0 A env σ (upd H p (.lst ys)) := by
  have nT : p ∉ T := r.tabs.not hp fun ps e => by cases e
  refine ⟨⟨fun a o e n => ?_, fun P hP g => ?_⟩, fun P hP => ?_, fun a ha e => ?_, r.len, fun j o hj => ?_, r.inj, fun j d hj => ?_⟩
  · rw [upd_ne (ne_of_none e h0)]; exact r.gr.1 a o e n
  · obtain ⟨ps, e, q⟩ := r.gr.2 P hP g
    exact ⟨ps, by rw [upd_ne fun z => nT (by rw [← z]; exact hP)]; exact e, q⟩
  · obtain ⟨ps, e, q⟩ := r.tabs P hP
    exact ⟨ps, by rw [upd_ne fun z => nT (by rw [← z]; exact hP)]; exact e, q⟩
  · by_cases z : a = p
    · rw [z, upd_same] at e; cases e
    · rw [upd_ne z] at e; exact r.dom a ha e
  · obtain ⟨h1, h2, h3, h5⟩ := r.own j o hj
    exact ⟨h1, h2.writeO hp True.intro (.inl hB) fun q => (h5 p q).2 hB, h3, h5⟩
  · obtain ⟨v, h1, h2⟩ := r.val j d hj
    exact ⟨v, h1, h2.write hp (.inl hB)⟩
end
end ES
end

set_option Elab.async false
set_option linter.all false
set_option autoImplicit false
set_option maxRecDepth 100000
set_option maxHeartbeats 4000007
/-! ES2: the operations on values, by data. -/
noncomputable section
namespace ES
open PySem PySem.Spec PyProof.Rows L2 EV GxR

/-- .. or an owned list itself -/
def Rw (K : PySem.W.Frag) (B : Addr → Prop) (H : Hp) (v : V) (d : PyData) : Prop :=
  Rp K B H v d ∨ ∃ a xs ds, v = .ref a ∧ d = .list ds ∧ H a = some (.lst xs) ∧ RpA K B H xs ds
/-- a list is a new one -/
def Fresh (K : PySem.W.Frag) (B : Addr → Prop) (H H' : Hp) (v : V) (d : PyData) : Prop :=
  ∀ ds, d = .list ds → ∃ p xs, v = .ref p ∧ H p = none ∧ H' p = some (.lst xs) ∧ RpA K (fun a => B a ∨ a = p) H' xs ds
def OkR (r : R) (P : PyData → Prop) (Z : Nat → Prop) : Prop := match r with | .ok d => P d | .exc c => Z c | .fail => False
theorem OkR.bind {r : R} {f : PyData → R} {P : PyData → Prop} {Z : Nat → Prop} (h : OkR (r.bind f) P Z) : OkR r (fun d => OkR (f d) P Z) Z := by
  cases r with
  | ok d => exact h
  | exc c => exact h
  | fail => exact h
theorem OkR.imp {r : R} {P P' : PyData → Prop} {Z Z' : Nat → Prop} (h : OkR r P Z) (hp : ∀ d, P d → P' d) (hz : ∀ c, Z c → Z' c) : OkR r P' Z' := by
  cases r with
  | ok d => exact hp d h
  | exc c => exact hz c h
  | fail => exact h
/-- what an operation is to give -/
def Wn (K : PySem.W.Frag) (T : List Addr) (B : Addr → Prop) (H : Hp) (r : R) (Q : VK) : Prop :=
  OkR r (fun d => ∀ v H', Gr T H H' → Rp K B H' v d → Fresh K B H H' v d → Q v H') fun _ => False
/-- .. where a list may be an old one -/
def Wo (K : PySem.W.Frag) (T : List Addr) (B : Addr → Prop) (H : Hp) (r : R) (Q : VK) : Prop :=
  OkR r (fun d => ∀ v H', Gr T H H' → Rp K B H' v d → Q v H') fun _ => False
structure Pre (T : List Addr) (B : Addr → Prop) (H : Hp) : Prop where
  tabs : Tabs T H
  dom : ∀ a, B a → H a ≠ none

section
variable {K : PySem.W.Frag} {T : List Addr} {B : Addr → Prop} {H H' : Hp} {v : V} {d : PyData} {ds : List PyData} {r : R} {Q : VK} {p : Addr} {xs : List V}
theorem Rw.grow (g : Gr T H H') (t : Tabs T H) (r : Rw K B H v d) : Rw K B H' v d := by
  rcases r with r | ⟨a, xs, ds, e1, e2, h, r⟩
  · exact .inl (r.grow g t)
  · exact .inr ⟨a, xs, ds, e1, e2, g.at t h (fun ps e => by cases e), r.grow g t⟩
theorem Rw.list (r : Rw K B H v (.list ds)) : ∃ a xs, v = .ref a ∧ SqL K H a xs ∧ RpA K B H xs ds := by
  rcases r with r | ⟨a, xs, ds', e1, e2, h, r⟩
  · exact r.list_inv
  · cases e2; exact ⟨a, xs, e1, .of h, r⟩
theorem Rw.tuple (r : Rw K B H v (.tuple ds)) : ∃ a xs, v = .ref a ∧ SqT K H a xs ∧ RpA K B H xs ds := by
  rcases r with r | ⟨a, xs, ds', e1, e2, h, r⟩
  · exact r.tuple_inv
  · cases e2
theorem Rw.dp (r : Rw K B H v d) : Dp K H v d := by
  rcases r with r | ⟨a, xs, ds', e1, e2, h, r⟩
  · exact r.dp
  · subst e1 e2; exact .lst (.of h) r.dp
theorem Rw.plain (r : Rw K B H v d) : d.plain = true := by
  rcases r with r | ⟨a, xs, ds', e1, e2, h, r⟩
  · exact r.plain
  · subst e2; rw [PyData.plain]; exact r.plain
theorem Rw.int {i : Int} (r : Rw K B H v (.int i)) : v = .int i := by
  rcases r with r | ⟨a, xs, ds', e1, e2, h, r⟩
  · cases r; rfl
  · cases e2
theorem Rw.bl {b : Bool} (r : Rw K B H v (.bool b)) : v = .bl b := by
  rcases r with r | ⟨a, xs, ds', e1, e2, h, r⟩
  · cases r; rfl
  · cases e2
theorem Rw.non (r : Rw K B H v .none) : v = .non := by
  rcases r with r | ⟨a, xs, ds', e1, e2, h, r⟩
  · cases r; rfl
  · cases e2
theorem Rw.str {x : Str} (r : Rw K B H v (.str x)) : v = .str x := by
  rcases r with r | ⟨a, xs, ds', e1, e2, h, r⟩
  · cases r; rfl
  · cases e2
theorem Rp.int_inv {i : Int} (r : Rp K B H v (.int i)) : v = .int i := by cases r; rfl
theorem Rp.bl_inv {b : Bool} (r : Rp K B H v (.bool b)) : v = .bl b := by cases r; rfl
theorem Fresh.of (h : ∀ ds, d ≠ .list ds) : Fresh K B H H' v d := fun ds e => absurd e (h ds)
theorem wn_int {i : Int} (h : Wn K T B H (.ok (.int i)) Q) : Q (.int i) H := h _ _ Gr.refl (.int i) (.of fun ds e => by cases e)
theorem wn_bl {b : Bool} (h : Wn K T B H (.ok (.bool b)) Q) : Q (.bl b) H := h _ _ Gr.refl (.bl b) (.of fun ds e => by cases e)
theorem wn_str {x : Str} (h : Wn K T B H (.ok (.str x)) Q) : Q (.str x) H := h _ _ Gr.refl (.str x) (.of fun ds e => by cases e)
theorem wn_wo (h : Wo K T B H r Q) : Wn K T B H r Q := OkR.imp h (fun d q v H' g r _ => q v H' g r) fun _ z => z
/-- a new tuple -/
theorem wn_tup (pr : Pre T B H) (r : RpA K B H xs ds) (hp : H p = none) (h : Wn K T B H (.ok (.tuple ds)) Q) : Q (.ref p) (upd H p (.tup xs)) :=
  h _ _ (Gr.new pr.tabs hp) (.tup (.of upd_same) (r.grow (Gr.new pr.tabs hp) pr.tabs)) (.of fun ds e => by cases e)
/-- a new list -/
theorem wn_lst (pr : Pre T B H) (r : RpA K B H xs ds) (hp : H p = none) (h : Wn K T B H (.ok (.list ds)) Q) : Q (.ref p) (upd H p (.lst xs)) := by
  have g : Gr T H (upd H p (.lst xs)) := Gr.new pr.tabs hp
  refine h _ _ g (.lst (.inl upd_same) (fun z => pr.dom p z hp) (r.grow g pr.tabs)) fun ds' e => ?_
  cases e
  exact ⟨p, xs, rfl, hp, upd_same, (r.more hp).grow g pr.tabs⟩
end

/-! ### lengths, truth values of Lean's own -/
theorem lenF_eq (xs : List PyData) : lenF xs = xs.length := by
  induction xs with
  | nil => rfl
  | cons x xs ih => exact congrArg Nat.succ ih
theorem fitN_le {n : Nat} (h : fitN n = true) : n ≤ 16000000 := Nat.le_of_ble_eq_true h
theorem nbeq (a b : Nat) : Nat.beq a b = decide (a = b) := by rw [Bool.eq_iff_iff, Nat.beq_eq, decide_eq_true_iff]
theorem nble (a b : Nat) : Nat.ble a b = decide (a ≤ b) := by rw [Bool.eq_iff_iff, Nat.ble_eq, decide_eq_true_iff]
theorem nblt (a b : Nat) : Nat.blt a b = decide (a < b) := by rw [Bool.eq_iff_iff, Nat.blt_eq, decide_eq_true_iff]
theorem iEq_eq (i j : Int) : iEq i j = decide (i = j) := by
  cases i <;> cases j <;> simp only [iEq, nbeq] <;> (rw [Bool.eq_iff_iff]; simp) <;> omega
theorem iLe_eq (i j : Int) : iLe i j = decide (i ≤ j) := by
  cases i <;> cases j <;> simp only [iLe, nble] <;> (rw [Bool.eq_iff_iff]; simp) <;> omega
theorem iLt_eq (i j : Int) : iLt i j = decide (i < j) := by
  cases i <;> cases j <;> simp only [iLt, nblt] <;> (rw [Bool.eq_iff_iff]; simp) <;> omega

/-! ### depth, equality -/
theorem shalL_all (f : PyData → Bool) (xs : List PyData) : shalL f xs = true → ∀ x ∈ xs, f x = true := by
  induction xs with
  | nil => intro _ x hx; cases hx
  | cons y ys ih =>
    intro h x hx
    have h' : (match f y with | true => shalL f ys | false => false) = true := h
    cases e : f y with
    | false => rw [e] at h'; cases h'
    | true =>
      rw [e] at h'
      rcases List.mem_cons.mp hx with rfl |
          hx
      · exact e
      · exact ih h' x hx
theorem depthAll_le {n : Nat} : ∀ {xs : List PyData}, (∀ x ∈ xs, x.depth ≤ n) → PyData.depthAll xs ≤ n
  | [], _ => by simp [PyData.depthAll]
  | x :: xs, h => by
    rw [PyData.depthAll]
    have h1 :=
        h x (List.mem_cons_self ..)
    have h2 := depthAll_le fun y hy => h y (List.mem_cons_of_mem _ hy)
    omega
theorem shal_depth : ∀ (n : Nat) (d : PyData), shal n d = true → d.depth ≤ n
  | 0, d, h => by
    cases d <;> first
      | (simp [PyData.depth]; done)
      | exact absurd (show false = true from h) Bool.false_ne_true
  | n + 1, d, h => by
    cases d with
    | list xs =>
      rw [PyData.depth]
      have := depthAll_le fun x hx => shal_depth n x (shalL_all _ xs h x hx)
      omega
    | tuple xs =>
      rw [PyData.depth]
      have := depthAll_le fun x hx => shal_depth n x (shalL_all _ xs h x hx)
      omega
    | dict kvs => exact absurd (show false = true from h) Bool.false_ne_true
    | _ => simp [PyData.depth]
theorem eqL_eq {f : PyData → PyData → Bool} (hf : ∀ a b, f a b = PyData.eqv a b) : ∀ xs ys, eqL f xs ys = PyData.eqvAll xs ys
  | [], [] => by rw [PyData.eqvAll]; rfl
  | [], _ :: _ => by rw [PyData.eqvAll]; rfl
  | _ :: _, [] => by rw [PyData.eqvAll]; rfl
  | x :: xs, y :: ys => by
    rw [PyData.eqvAll, ← hf, ← eqL_eq hf xs ys]
    show (match f x y with | true => eqL f xs ys | false => false) = _
    cases f x y <;> rfl
theorem eqF_eq : ∀ (n : Nat) (a b : PyData), eqF n a b = PyData.eqv a b
  | 0, _, _ => rfl
  | n + 1, a, b => by
    cases a with
    | int i => cases b with
      | int j => show iEq i j = _; rw [iEq_eq, PyData.eqv, Bool.eq_iff_iff]; simp
      | _ => rfl
    | tuple xs => cases b with
      | tuple ys => show eqL (eqF n) xs ys = _; rw [eqL_eq (eqF_eq n), PyData.eqv]
      | _ => rfl
    | list xs => cases b with
      | list ys => show eqL (eqF n) xs ys = _; rw [eqL_eq (eqF_eq n), PyData.eqv]
      | _ => rfl
    | bool x => cases b with
      | bool y => rw [PyData.eqv]; cases x <;> cases y <;> rfl
      | _ => rfl
    | _ => cases b <;> rfl
theorem memF_eq (x : PyData) : ∀ xs, memF x xs = xs.any fun y => PyData.eqv y x
  | [] => rfl
  | y :: ys => by
    rw [List.any_cons, ← memF_eq x ys, ← eqF_eq 60 y x]
    show (match eqF 60 y x with | true => true | false => memF x ys) = _
    cases eqF 60 y x <;> rfl
theorem memN_eq (c : Nat) : ∀ xs : List Nat, memN c xs = decide (c ∈ xs)
  | [] => rfl
  | y :: ys => by
    show (match Nat.beq c y with | true => true | false => memN c ys) = _
    rw [memN_eq c ys, nbeq]
    by_cases h : c = y
    · rw [decide_eq_true h]; simp [h]
    · rw [decide_eq_false h]; simp [h]
theorem intsOf_eq : ∀ (xs : List PyData) (ns : List Int), intsOf xs = some ns → xs = ns.map .int
  | [], ns, h => by cases h; rfl
  | x :: xs, ns, h => by
    cases x with
    | int i =>
      have h' : (match intsOf xs with | some r => some (i :: r) | none => none) = some ns := h
      cases e : intsOf xs with
      | none =>
          rw [e] at h'; cases h'
      | some r =>
        rw [e] at h'
        cases h'
        rw [intsOf_eq xs r e]; rfl
    | _ => cases h
theorem lexI_eq : ∀ (xs ys : List Int), lexI xs ys = HT.lexLt xs ys
  | [], [] => rfl
  | [], _ :: _ => rfl
  | _ :: _, [] => rfl
  | x :: xs, y :: ys => by
    rw [HT.lexLt_cons, ← lexI_eq xs ys]
    show (match iEq x y with | true => lexI xs ys | false => iLt x y) = _
    rw [iEq_eq, iLt_eq]
    by_cases h : x = y
    · rw [if_pos h, decide_eq_true h]
    · rw [if_neg h, decide_eq_false h]

/-! ### two places -/
def opA : Op → Operator
  | .add => .Add | .sub => .Sub | .mul => .Mult | .fdiv => .FloorDiv | .mod => .Mod | .pow => .Pow
def cmA : Cm → CmpOp
  | .eq => .Eq | .ne => .NotEq | .lt => .Lt | .le => .LtE | .gt => .Gt | .ge => .GtE | .is => .Is | .isnt => .IsNot | .isin => .In | .notin => .NotIn
section
variable {X : Cx} {T : List Addr}
theorem cat_lists {pins : List (Addr × Obj)} {s : Shared} {σ : L2.St} {H : Hp} {l b : Addr} {xs zs : List V} {Q : VK} (I : Inv X pins σ H s) (h1 : SqL X.K H l xs) (h2 : SqL X.K H b zs) (hz : xs.length + zs.length ≤ sizeLine)
    (q : ∀ p, H p = none → Q (.ref p) (upd H p (.lst (xs ++ zs)))) : wpAny (model X.prog X.w) X.A (binaryOp .Add (.ref l) (.ref b)) (EP X pins σ Q) X.xe s := by
  obtain ⟨its, r, ⟨⟨c1, d1, dt1, sl1⟩, n, e, hc, hd, hs⟩, z⟩ := I.list h1
  obtain ⟨its2, r2, ⟨⟨c2, d2, dt2, sl2⟩, n2, e2, hc2, hd2, hs2⟩, z2⟩ := I.list h2
  simp only at hc hd hs hc2 hd2 hs2
  subst hc hd hs hc2 hd2 hs2
  have hl := r.length
  have hl2 := r2.length
  have ea : its.toArray ++ its2.toArray = (its ++ its2).toArray :=
      by simp
  refine concat_meets ⟨_, e, rfl⟩ ⟨_, e2, rfl⟩ PySem.noFill_list_add PySem.seq_list_add PySem.F.slot_list_add PySem.F.entry_list_add (PySem.F.args_list_add_2 _ _) (list_addW l b its.toArray its2.toArray n n2 none none sl1 sl2 (by rw [List.size_toArray, List.size_toArray]; omega)) ⟨e, e2, ?_⟩
  rw [ea]
  exact ⟨.ref _, _, I.lnew (t' :=
      s.toks) (r.append r2) (by rw [List.length_append]; omega), rfl, q _ I.fresh⟩
theorem small_iff {i : Int} : small i = true ↔ (-4611686018427387904 < i ∧ i < 4611686018427387904) := by
  unfold small
  rw [nblt, decide_eq_true_iff]
  omega
theorem repF_eq (xs : List PyData) : ∀ n, repF xs n = (List.replicate n xs).flatten
  | 0 => rfl
  | n + 1 => by
    rw [List.replicate_succ, List.flatten_cons, ← repF_eq xs n]; rfl
theorem RpA.rep {K : PySem.W.Frag} {B : Addr → Prop} {H : Hp} {vs : List V} {ds : List PyData} (r : RpA K B H vs ds) : ∀ n, RpA K B H (List.replicate n vs).flatten (List.replicate n ds).flatten
  | 0 => .nil
  | n + 1 => by
    rw [List.replicate_succ, List.flatten_cons, List.replicate_succ, List.flatten_cons]
    exact r.append (r.rep n)
theorem op_bin (o : Op) : OpR X (binaryOp (opA o)) (fun x y H Q => ∃ B dx dy, Pre T B H ∧ Rw X.K B H x dx ∧ Rw X.K B H y dy ∧ Wn X.K T B H (binF o dx dy) Q) := by
  intro pins s σ H x y v u Q I rx ry ⟨B, dx, dy, pr, hx, hy, h⟩
  unfold binF at h
  split at h
  · cases hx.int; cases hy.int
    exact op_add pins s σ H _ _ v u Q I rx ry ⟨_, _, rfl, rfl, wn_int h⟩
  · cases hx.int; cases hy.int
    exact op_sub pins s σ H _ _ v u Q I rx ry ⟨_, _, rfl, rfl, wn_int h⟩
  · rename_i i j
    cases hx.int; cases hy.int
    split at h
    · rename_i hb
      refine op_mul pins s σ H _ _ v u Q I rx ry ⟨i, j, rfl, rfl, ?_, wn_int h⟩
      rw [Bool.or_eq_true, nblt, nblt, decide_eq_true_iff, decide_eq_true_iff] at hb
      unfold CMul
      omega
    · exact h.elim
  · rename_i i j
    cases hx.int; cases hy.int
    split at h
    · rename_i hb
      rw [Bool.and_eq_true, nblt, nblt, decide_eq_true_iff, decide_eq_true_iff] at hb
      exact op_fdivN pins s σ H _ _ v u Q I rx ry ⟨i, j, rfl, rfl, ⟨by omega, hb.2⟩, wn_int h⟩
    · exact h.elim
  · rename_i i j
    cases hx.int; cases hy.int
    split at h
    · rename_i hb
      rw [nblt, decide_eq_true_iff] at hb
      exact op_modN pins s σ H _ _ v u Q I rx ry ⟨i, j, rfl, rfl, by omega, wn_int h⟩
    · exact h.elim
  · rename_i i j
    cases hx.int; cases hy.int
    split at h
    · rename_i hb
      rw [Bool.and_eq_true, Bool.and_eq_true, iLe_eq, iLe_eq, nblt, decide_eq_true_iff, decide_eq_true_iff, decide_eq_true_iff] at hb
      refine op_pow pins s σ H _ _ v u Q I rx ry ⟨i, j, rfl, rfl, ⟨hb.1, by omega, ?_⟩, wn_int h⟩
      have : (2 : Nat) ^ 64 = 18446744073709551616 := by decide
      omega
    · exact h.elim
  · split at h
    · rename_i hb
      have hf := fitN_le hb
      rw [lenF_eq, lenF_eq] at hf
      obtain ⟨a, xs, rfl, ha, qa⟩ := hx.tuple
      obtain ⟨b, ys, rfl, hb', qb⟩ := hy.tuple
      have l1 := qa.length
      have l2 := qb.length
      refine op_catA pins s σ H _ _ v u Q I rx ry ⟨a, b, xs, ys, rfl, rfl, ha, hb', by rw [sizeLine_eq]; omega, fun e => ?_, fun _ e => ?_, fun _ _ p hp => wn_tup pr (qa.append qb) hp h⟩
      · subst e
        cases qa
        exact h _ _ Gr.refl (.tup hb' qb) (.of fun ds e => by cases e)
      · subst e
        cases qb
        rw [List.append_nil] at h
        exact h _ _ Gr.refl (.tup ha qa) (.of fun ds e => by cases e)
    · exact h.elim
  · split at h
    · rename_i hb
      have hf := fitN_le hb
      rw [lenF_eq, lenF_eq] at hf
      obtain ⟨a, xs, rfl, ha, qa⟩ := hx.list
      obtain ⟨b, ys, rfl, hb', qb⟩ := hy.list
      have l1 := qa.length
      have l2 := qb.length
      cases rx
      cases ry
      exact cat_lists I ha hb' (by rw [sizeLine_eq]; omega) fun p hp => wn_lst pr (qa.append qb) hp h
    · exact h.elim
  · split at h
    · rename_i hb
      have hf := fitN_le hb
      cases hx.str; cases hy.str
      exact op_add_str pins s σ H _ _ v u Q I rx ry ⟨_, _, rfl, rfl, by rw [sizeLine_eq]; omega, wn_str h⟩
    · exact h.elim
  · exact h.elim

theorem depth_small {n : Nat} {d : PyData} (h : shal n d = true) (hn : n ≤ 60) (hu : X.A.units + 64 < cLine) (e : PyData) : X.A.units + min d.depth e.depth < cLine := by
  have := shal_depth n d h
  omega
theorem rel_is {x : V} {v : Value} {B : Addr → Prop} {H : Hp} {d : PyData} (r : Rw X.K B H x d) (rx : RelV x v) : (∀ t, v ≠ .builtin t) := by
  intro t e
  subst e
  cases x <;> first
    | (cases rx; done)
    | (obtain ⟨_, q⟩ := rx; cases q; done)
theorem op_cmp (o : Cm) (hu : X.A.units + 64 < cLine) : OpR X (compareOp (cmA o)) (fun x y H Q => ∃ B dx dy, Pre T B H ∧ Rw X.K B H x dx ∧ Rw X.K B H y dy ∧ Wn X.K T B H (cmpF o dx dy) Q) := by
  intro pins s σ H x y v u Q I rx ry ⟨B, dx, dy, pr, hx, hy, h⟩
  obtain ⟨as, ra⟩ := Dp.reads I dx x v hx.dp rx
  obtain ⟨bs, rb'⟩ := Dp.reads I dy y u hy.dp ry
  have isR : ∀ {c : Bool} {b : Bool} {v' u' : Value}, isF dx dy = some c → RelV x v' → RelV y u' → plainIs v' u' = true ∧ (v' == u') = c := by
    intro c b v' u' e r1 r2
    unfold isF at e
    split at e
    · cases hy.non
      cases r2
      split at e
      · cases hx.non; cases r1; cases e; exact ⟨rfl, rfl⟩
      · rename_i hn
        cases e
        cases x with
        | non => 
          rcases hx with hx | ⟨_, _, _, q, _⟩
          · cases hx; exact absurd rfl hn
          · cases q
        | bl _ => cases r1; exact ⟨rfl, rfl⟩
        | int _ => obtain ⟨t, rfl⟩ := r1; exact ⟨rfl, rfl⟩
        | str _ => obtain ⟨t, rfl⟩ := r1; exact ⟨rfl, rfl⟩
        | byt _ => obtain ⟨t, rfl⟩ := r1; exact ⟨rfl, rfl⟩
        | flt _ => obtain ⟨t, rfl⟩ := r1; exact ⟨rfl, rfl⟩
        | ref _ => cases r1; exact ⟨rfl, rfl⟩
        | ty _ => cases r1; exact ⟨rfl, rfl⟩
    · rename_i z
      cases hy.bl
      cases r2
      split at e
      · rename_i w
        cases hx.bl; cases r1; cases e
        exact ⟨rfl, by cases w <;> cases z <;> rfl⟩
      · rename_i hn
        cases e
        cases x with
        | bl b =>
          rcases hx with hx | ⟨_, _, _, q, _⟩
          · cases hx; exact absurd rfl (hn b)
          · cases q
        | non => cases r1; exact ⟨rfl, rfl⟩
        | int _ => obtain ⟨t, rfl⟩ := r1; exact ⟨rfl, rfl⟩
        | str _ => obtain ⟨t, rfl⟩ := r1; exact ⟨rfl, rfl⟩
        | byt _ => obtain ⟨t, rfl⟩ := r1; exact ⟨rfl, rfl⟩
        | flt _ => obtain ⟨t, rfl⟩ := r1; exact ⟨rfl, rfl⟩
        | ref _ => cases r1; exact ⟨rfl, rfl⟩
        | ty _ => cases r1; exact ⟨rfl, rfl⟩
    · cases e
  cases o with
  | eq =>
    have h : Wn X.K T B H (match shal 60 dx with | true => rb (eqF 61 dx dy) | false => .fail) Q := h
    split at h
    · rename_i hs
      rw [eqF_eq] at h
      exact SeqAt.eq_plain ra rb' hx.plain hy.plain (depth_small hs (Nat.le_refl _) hu dy) ⟨.bl _, H, I, rfl, wn_bl h⟩
    · exact h.elim
  | ne =>
    have h : Wn X.K T B H (match shal 60 dx with | true => rb (!eqF 61 dx dy) | false => .fail) Q := h
    split at h
    · rename_i hs
      rw [eqF_eq] at h
      exact SeqAt.ne_plain ra rb' hx.plain hy.plain (depth_small hs (Nat.le_refl _) hu dy) ⟨.bl _, H, I, rfl, wn_bl h⟩
    · exact h.elim
  | lt =>
    unfold cmpF at h
    dsimp only at h
    split at h
    · cases hx.int; cases hy.int
      rw [iLt_eq] at h
      exact op_lt pins s σ H _ _ v u Q I rx ry ⟨_, _, rfl, rfl, wn_bl h⟩
    · split at h
      · rename_i e1 e2
        have q1 := intsOf_eq _ _ e1
        have q2 := intsOf_eq _ _ e2
        subst q1 q2
        obtain ⟨a, xs, rfl, ha, qa⟩ := hx.tuple
        obtain ⟨b, ys, rfl, hb, qb⟩ := hy.tuple
        rw [qa.ints] at ha
        rw [qb.ints] at hb
        rw [lexI_eq] at h
        exact op_ltT (by omega) pins s σ H _ _ v u Q I rx ry ⟨a, b, _, _, rfl, rfl, ha, hb, wn_bl h⟩
      · exact h.elim
    · exact h.elim
  | le =>
    unfold cmpF at h
    dsimp only at h
    split at h
    · cases hx.int; cases hy.int
      rw [iLe_eq] at h
      exact op_le pins s σ H _ _ v u Q I rx ry ⟨_, _, rfl, rfl, wn_bl h⟩
    · exact h.elim
  | gt =>
    unfold cmpF at h
    dsimp only at h
    split at h
    · cases hx.int; cases hy.int
      rw [iLt_eq] at h
      exact op_gt pins s σ H _ _ v u Q I rx ry ⟨_, _, rfl, rfl, wn_bl h⟩
    · exact h.elim
  | ge =>
    unfold cmpF at h
    dsimp only at h
    split at h
    · cases hx.int; cases hy.int
      rw [iLe_eq] at h
      exact op_ge pins s σ H _ _ v u Q I rx ry ⟨_, _, rfl, rfl, wn_bl h⟩
    · exact h.elim
  | is =>
    unfold cmpF at h
    dsimp only at h
    split at h
    · rename_i c e
      obtain ⟨p1, p2⟩ := isR (b := true) e rx ry
      exact wpAny_is_plain p1 ⟨.bl _, H, I, by rw [p2]; rfl, wn_bl h⟩
    · exact h.elim
  | isnt =>
    unfold cmpF at h
    dsimp only at h
    split at h
    · rename_i c e
      obtain ⟨p1, p2⟩ := isR (b := true) e rx ry
      exact wpAny_isNot_plain p1 ⟨.bl _, H, I, by rw [p2]; rfl, wn_bl h⟩
    · exact h.elim
  | isin =>
    unfold cmpF at h
    dsimp only at h
    split at h
    · rename_i xs hs
      rw [memF_eq] at h
      have hp : PyData.plainAll xs = true := by have := hy.plain; rwa [PyData.plain] at this
      have hd := shal_depth _ _ hs
      exact SeqAt.in_list_data rb' ra hp hx.plain (by omega) ⟨.bl _, H, I, rfl, wn_bl h⟩
    · rename_i xs hs
      rw [memF_eq] at h
      have hp : PyData.plainAll xs = true := by have := hy.plain; rwa [PyData.plain] at this
      have hd := shal_depth _ _ hs
      exact SeqAt.in_tuple_data rb' ra hp hx.plain (by omega) ⟨.bl _, H, I, rfl, wn_bl h⟩
    · split at h
      · cases hx.str; cases hy.str
        rw [memN_eq] at h
        exact op_in_sign pins s σ H _ _ v u Q I rx ry ⟨_, _, rfl, rfl, wn_bl h⟩
      · exact h.elim
    · exact h.elim
  | notin =>
    unfold cmpF at h
    dsimp only at h
    split at h
    · rename_i xs hs
      rw [memF_eq] at h
      have hp : PyData.plainAll xs = true := by have := hy.plain; rwa [PyData.plain] at this
      have hd := shal_depth _ _ hs
      exact SeqAt.notIn_list_data rb' ra hp hx.plain (by omega) ⟨.bl _, H, I, rfl, wn_bl h⟩
    · rename_i xs hs
      rw [memF_eq] at h
      have hp : PyData.plainAll xs = true := by have := hy.plain; rwa [PyData.plain] at this
      have hd := shal_depth _ _ hs
      exact SeqAt.notIn_tuple_data rb' ra hp hx.plain (by omega) ⟨.bl _, H, I, rfl, wn_bl h⟩
    · split at h
      · cases hx.str; cases hy.str
        rw [memN_eq] at h
        exact op_notIn_sign pins s σ H _ _ v u Q I rx ry ⟨_, _, rfl, rfl, wn_bl h⟩
      · exact h.elim
    · exact h.elim

/-! ### an item, a slice -/
theorem nthF_ok : ∀ {xs : List PyData} {n : Nat} {P : PyData → Prop}, OkR (nthF xs n) P (fun _ => False) → ∃ d, xs[n]? = some d ∧ P d
  | [], _, _, h => h.elim
  | x :: xs, 0, P, h => ⟨x, rfl, h⟩
  | x :: xs, n + 1, P, h => nthF_ok (xs := xs) (n := n) h
theorem nthS_ok : ∀ {xs : List Nat} {n : Nat} {P : PyData → Prop}, OkR (nthS xs n) P (fun _ => False) → ∃ c, xs[n]? = some c ∧ P (.str ⟨⟨[c]⟩⟩)
  | [], _, _, h => h.elim
  | x :: xs, 0, P, h => ⟨x, rfl, h⟩
  | x :: xs, n + 1, P, h => nthS_ok (xs := xs) (n := n) h
theorem ixI_ok' {α : Type} {xs : List α} {i : Int} {v : α} (h : xs[ixI xs.length i]? = some v) : atI xs i = some v := by
  cases i with
  | ofNat a => exact atI_nat h
  | negSucc a =>
    unfold ixI at h
    dsimp only at h
    rw [nblt] at h
    by_cases q : a < xs.length
    · rw [decide_eq_true q] at h
      dsimp only at h
      unfold atI ixN
      have h1 : ¬ (0 : Int) ≤ Int.negSucc a := by omega
      have h2 : -(xs.length : Int) ≤ Int.negSucc a := by omega
      rw [if_neg h1, if_pos h2]
      show xs[(Int.negSucc a + (xs.length : Int)).toNat]? = some v
      have e : (Int.negSucc a + (xs.length : Int)).toNat = xs.length - (a + 1) := by omega
      rw [e]
      exact h
    · rw [decide_eq_false q] at h
      dsimp only at h
      rw [List.getElem?_eq_none (Nat.le_refl _)] at h
      cases h
theorem ixI_ok {xs : List V} {i : Int} {v : V} (h : xs[ixI xs.length i]? = some v) : atI xs i = some v := by
  cases i with
  | ofNat a => exact atI_nat h
  | negSucc a =>
    unfold ixI at h
    dsimp only at h
    rw [nblt] at h
    by_cases q : a < xs.length
    · rw [decide_eq_true q] at h
      dsimp only at h
      unfold atI ixN
      have h1 : ¬ (0 : Int) ≤ Int.negSucc a := by omega
      have h2 : -(xs.length : Int) ≤ Int.negSucc a := by omega
      rw [if_neg h1, if_pos h2]
      show xs[(Int.negSucc a + (xs.length : Int)).toNat]? = some v
      have e : (Int.negSucc a + (xs.length : Int)).toNat = xs.length - (a + 1) := by omega
      rw [e]
      exact h
    · rw [decide_eq_false q] at h
      dsimp only at h
      rw [List.getElem?_eq_none (Nat.le_refl _)] at h
      cases h
theorem ix_ix : IxR X (fun x y H Q => ∃ B dx dy, Pre T B H ∧ Rw X.K B H x dx ∧ Rw X.K B H y dy ∧ Wo X.K T B H (ixF dx dy) Q) := by
  intro a0 b0 pins s σ H x y v u Q I rx ry ⟨B, dx, dy, pr, hx, hy, h⟩ hs0
  unfold ixF at h
  split at h
  · split at h
    · obtain ⟨a, xs, rfl, ha, qa⟩ := hx.list
      cases hy.int
      obtain ⟨d, hd, q⟩ := nthF_ok h
      rw [lenF_eq, ← qa.length] at hd
      obtain ⟨w, hw, rw'⟩ := qa.get hd
      exact ix_seq a0 b0 pins s σ H _ _ v u Q I rx ry (.inl ⟨a, xs, _, w, rfl, rfl, ha, ixI_ok hw, q _ _ Gr.refl rw'⟩) hs0
    · exact h.elim
  · split at h
    · obtain ⟨a, xs, rfl, ha, qa⟩ := hx.tuple
      cases hy.int
      obtain ⟨d, hd, q⟩ := nthF_ok h
      rw [lenF_eq, ← qa.length] at hd
      obtain ⟨w, hw, rw'⟩ := qa.get hd
      exact ix_seq a0 b0 pins s σ H _ _ v u Q I rx ry (.inr (.inl ⟨a, xs, _, w, rfl, rfl, ha, ixI_ok hw, q _ _ Gr.refl rw'⟩)) hs0
    · exact h.elim
  · split at h
    · rename_i hb
      rw [Bool.and_eq_true] at hb
      have hf := fitN_le hb.2
      cases hx.str
      cases hy.int
      obtain ⟨c, hc, q⟩ := nthS_ok h
      exact ix_str a0 b0 pins s σ H _ _ v u Q I rx ry ⟨_, _, c, rfl, rfl, by rw [sizeLine_eq]; omega, ixI_ok' (by simpa [Str.length] using hc), q _ _ Gr.refl (.str _)⟩ hs0
    · exact h.elim
  · exact h.elim
/-- a slice's bound as data -/
def PartIs (o : Option Int) (d : PyData) : Prop := (o = none ∧ d = .none) ∨ ∃ i, o = some i ∧ d = .int i
theorem bnd_ok {n k j : Nat} {o : Option Int} {d : PyData} (p : PartIs o d) (h : bnd n k d = some j) : HT.sIx n k o = j := by
  rcases p with ⟨rfl, rfl⟩ | ⟨i, rfl, rfl⟩
  · cases h; exact HT.sIx_none n _
  · cases i with
    | ofNat a =>
      unfold bnd at h
      dsimp only at h
      rw [nble] at h
      show HT.sIx n k (some (a : Int)) = j
      rw [HT.sIx_nat]
      by_cases q : a ≤ n
      · rw [decide_eq_true q] at h; cases h; exact Nat.min_eq_left q
      · rw [decide_eq_false q] at h; cases h; exact Nat.min_eq_right (by omega)
    | negSucc a =>
      unfold bnd at h
      dsimp only at h
      rw [nblt] at h
      show (if Int.negSucc a < 0 then (Int.negSucc a + (n : Int)).toNat else min (Int.negSucc a).toNat n) = j
      rw [if_pos (by omega)]
      by_cases q : a < n
      · rw [decide_eq_true q] at h; cases h; show _ = n - (a + 1); omega
      · rw [decide_eq_false q] at h; cases h; show _ = 0; omega
theorem cut_ok {K : PySem.W.Frag} {B : Addr → Prop} {H : Hp} {xs : List V} {ds : List PyData} (r : RpA K B H xs ds) (lo hi : Option Int) {i j : Nat} (h1 : HT.sIx xs.length 0 lo = i) (h2 : HT.sIx xs.length xs.length hi = j) :
    RpA K B H (cutV xs lo hi) (cutF ds i j) := by
  unfold cutV cutF
  rw [h1, h2]
  exact RpA.take _ (RpA.drop _ r)
theorem sl_sl : SlR X (fun x lo hi H Q => ∃ B dx dl dh, Pre T B H ∧ Rw X.K B H x dx ∧ PartIs lo dl ∧ PartIs hi dh ∧ Wn X.K T B H (slF dx dl dh) Q) := by
  intro pins s σ H x v vl vu lo hi sl Q I rx hs pl pu ⟨B, dx, dl, dh, pr, hx, hl, hh, h⟩
  unfold slF at h
  split at h
  · split at h
    · rename_i i j e1 e2
      obtain ⟨a, xs, rfl, ha, qa⟩ := hx.list
      rw [lenF_eq, ← qa.length] at e1 e2
      exact sl_list pins s σ H _ v vl vu lo hi sl Q I rx hs pl pu ⟨a, xs, rfl, ha, fun p hp => wn_lst pr (cut_ok qa lo hi (bnd_ok hl e1) (bnd_ok hh e2)) hp h⟩
    · exact h.elim
  · split at h
    · rename_i i j e1 e2
      obtain ⟨a, xs, rfl, ha, qa⟩ := hx.tuple
      rw [lenF_eq, ← qa.length] at e1 e2
      have c := cut_ok qa lo hi (bnd_ok hl e1) (bnd_ok hh e2)
      refine sl_tupA pins s σ H _ v vl vu lo hi sl Q I rx hs pl pu ⟨a, xs, rfl, ha, fun z => ?_, fun _ p hp => wn_tup pr c hp h⟩
      have e : cutV xs lo hi = xs := by unfold cutV; rw [z.1, z.2, List.drop_zero, Nat.sub_zero, List.take_length]
      rw [e] at c
      exact h _ _ Gr.refl (.tup ha c) (.of fun ds e => by cases e)
    · exact h.elim
  · exact h.elim
end
end ES
end

set_option Elab.async false
set_option linter.all false
set_option autoImplicit false
set_option maxRecDepth 100000
set_option maxHeartbeats 4000007
/-! ES3: sorting and the other built-ins on data. -/
noncomputable section
namespace ES
open PySem PySem.Spec PyProof.Rows L2 EV GxR

/-! ### insertion sort is the stable sort -/
section
variable {α : Type} {le : α → α → Bool}
def ins (lt : α → α → Bool) (x : α) : List α → List α
  | [] => [x]
  | y :: ys => if lt y x = true then y :: ins lt x ys else x :: y :: ys
def srt (lt : α → α → Bool) : List α → List α
  | [] => []
  | x :: xs => ins lt x (srt lt xs)
theorem ins_mem {lt : α → α → Bool} {x z : α} : ∀ {xs : List α}, z ∈ ins lt x xs → z = x ∨ z ∈ xs
  | [], h => by simpa [ins] using h
  | y :: ys, h => by
    unfold ins at h
    by_cases q : lt y x = true
    · rw [if_pos q] at h
      rcases List.mem_cons.mp h with h | h
      · exact .inr (by rw [h]; exact List.mem_cons_self ..)
      · rcases ins_mem h with h | h
        · exact .inl h
        · exact .inr (List.mem_cons_of_mem _ h)
    · rw [if_neg q] at h
      rcases List.mem_cons.mp h with h | h
      · exact .inl h
      · exact .inr h
theorem srt_mem {lt : α → α → Bool} {z : α} : ∀ {xs : List α}, z ∈ srt lt xs → z ∈ xs
  | [], h => h
  | x :: xs, h => by
    rcases ins_mem (show z ∈ ins lt x (srt lt xs) from h) with h | h
    · rw [h]; exact List.mem_cons_self ..
    · exact List.mem_cons_of_mem _ (srt_mem h)
theorem ins_congr {f g : α → α → Bool} {x : α} : ∀ {xs : List α}, (∀ y ∈ xs, f y x = g y x) → ins f x xs = ins g x xs
  | [], _ => rfl
  | y :: ys, h => by
    unfold ins
    rw [h y (List.mem_cons_self ..), ins_congr fun z hz => h z (List.mem_cons_of_mem _ hz)]
theorem srt_congr {f g : α → α → Bool} : ∀ {xs : List α}, (∀ y ∈ xs, ∀ z ∈ xs, f y z = g y z) → srt f xs = srt g xs
  | [], _ => rfl
  | x :: xs, h => by
    unfold srt
    rw [srt_congr fun y hy z hz => h y (List.mem_cons_of_mem _ hy) z (List.mem_cons_of_mem _ hz)]
    exact ins_congr fun y hy => h y (List.mem_cons_of_mem _ (srt_mem hy)) x (List.mem_cons_self ..)
theorem ins_sorted (h : PySem.W.TotalLe le) {x : α} : ∀ {xs : List α}, xs.Pairwise (fun a b => le a b = true) → (ins (fun a b => !le b a) x xs).Pairwise (fun a b => le a b = true)
  | [], _ => by simp [ins]
  | y :: ys, p => by
    obtain ⟨p1, p2⟩ := List.pairwise_cons.mp p
    unfold ins
    by_cases q : (!le x y) = true
    · rw [if_pos q]
      have q' : le x y = false := by simpa using q
      refine List.pairwise_cons.mpr ⟨fun z hz => ?_, ins_sorted h p2⟩
      rcases ins_mem hz with hz | hz
      · rw [hz]
        rcases h.total y x with t | t
        · exact t
        · rw [q'] at t; cases t
      · exact p1 z hz
    · rw [if_neg q]
      have q' : le x y = true := by simpa using q
      refine List.pairwise_cons.mpr ⟨fun z hz => ?_, p⟩
      rcases List.mem_cons.mp hz with hz | hz
      · rw [hz]; exact q'
      · exact h.trans x y z q' (p1 z hz)
theorem srt_sorted (h : PySem.W.TotalLe le) : ∀ xs : List α, (srt (fun a b => !le b a) xs).Pairwise (fun a b => le a b = true)
  | [] => .nil
  | x :: xs => ins_sorted h (srt_sorted h xs)
theorem ins_filter (h : PySem.W.TotalLe le) (c x : α) : ∀ xs : List α, (ins (fun a b => !le b a) x xs).filter (PySem.W.sameRank le c) = (x :: xs).filter (PySem.W.sameRank le c)
  | [] => rfl
  | y :: ys => by
    unfold ins
    by_cases q : (!le x y) = true
    · rw [if_pos q, List.filter_cons, ins_filter h c x ys]
      have q' : le x y = false := by simpa using q
      by_cases cy : PySem.W.sameRank le c y = true
      · have cx : PySem.W.sameRank le c x = false := by
          unfold PySem.W.sameRank at cy ⊢
          rw [Bool.and_eq_true] at cy
          cases e : le x c with
          | false => rw [Bool.and_false]
          | true =>
            have := h.trans x c y e cy.1
            rw [q'] at this; cases this
        rw [if_pos cy, List.filter_cons, List.filter_cons, List.filter_cons, if_pos cy, cx]
        rfl
      · rw [if_neg cy, List.filter_cons, List.filter_cons, List.filter_cons, if_neg cy]
    · rw [if_neg q]
theorem srt_filter (h : PySem.W.TotalLe le) (c : α) : ∀ xs : List α, (srt (fun a b => !le b a) xs).filter (PySem.W.sameRank le c) = xs.filter (PySem.W.sameRank le c)
  | [] => rfl
  | x :: xs => by
    show (ins (fun a b => !le b a) x (srt (fun a b => !le b a) xs)).filter _ = _
    rw [ins_filter h c x, List.filter_cons, srt_filter h c xs, List.filter_cons]
theorem srt_eq (h : PySem.W.TotalLe le) (xs : List α) : srt (fun a b => !le b a) xs = xs.mergeSort le := PySem.W.sort_unique h (srt_sorted h xs) fun c => srt_filter h c xs
end
theorem insF_ins (lt : PyData → PyData → Bool) (x : PyData) : ∀ xs, insF lt x xs = ins lt x xs
  | [] => rfl
  | y :: ys => by
    unfold ins
    rw [← insF_ins lt x ys]
    show (match lt y x with | true => y :: insF lt x ys | false => x :: y :: ys) = _
    cases lt y x <;> rfl
theorem sortF_srt (lt : PyData → PyData → Bool) : ∀ xs, sortF lt xs = srt lt xs
  | [] => rfl
  | x :: xs => by
    show insF lt x (sortF lt xs) = ins lt x (srt lt xs)
    rw [insF_ins, sortF_srt lt xs]

/-! ### alike data -/
theorem alkL_eq {f : PyData → PyData → Bool} (hf : ∀ a b, f a b = true → PySem.W.alike a b = true) : ∀ xs ys, alkL f xs ys = true → PySem.W.alikeAll xs ys = true
  | [], ys, _ => by cases ys <;> simp [PySem.W.alikeAll]
  | x :: xs, [], _ => by simp [PySem.W.alikeAll]
  | x :: xs, y :: ys, h => by
    have h' : (match f x y with | true => alkL f xs ys | false => false) = true := h
    cases e : f x y with
    | false => rw [e] at h'; cases h'
    | true =>
      rw [e] at h'
      rw [PySem.W.alikeAll, hf x y e, alkL_eq hf xs ys h']; rfl
theorem alkF_eq : ∀ (n : Nat) (a b : PyData), alkF n a b = true → PySem.W.alike a b = true
  | 0, _, _, h => absurd (show false = true from h) Bool.false_ne_true
  | n + 1, a, b, h => by
    cases a with
    | int i => cases b with
      | int j => simp [PySem.W.alike]
      | _ => exact absurd (show false = true from h) Bool.false_ne_true
    | tuple xs => cases b with
      | tuple ys => rw [PySem.W.alike]; exact alkL_eq (alkF_eq n) xs ys h
      | _ => exact absurd (show false = true from h) Bool.false_ne_true
    | _ => exact absurd (show false = true from h) Bool.false_ne_true
theorem alkL_refl {f : PyData → PyData → Bool} : ∀ xs : List PyData, alkL f xs xs = true → ∀ x ∈ xs, f x x = true
  | [], _, _, hx => nomatch hx
  | x :: xs, h, y, hy => by
    have h' : (match f x x with | true => alkL f xs xs | false => false) = true := h
    cases e : f x x with
    | false => rw [e] at h'; cases h'
    | true =>
      rw [e] at h'
      rcases List.mem_cons.mp hy with hy | hy
      · rw [hy]; exact e
      · exact alkL_refl xs h' y hy
theorem alkF_depth : ∀ (n : Nat) (a : PyData), alkF n a a = true → a.depth ≤ n
  | 0, _, h => absurd (show false = true from h) Bool.false_ne_true
  | n + 1, a, h => by
    cases a with
    | int i => simp [PyData.depth]
    | tuple xs =>
      rw [PyData.depth]
      have := depthAll_le fun x hx => alkF_depth n x (alkL_refl xs h x hx)
      omega
    | _ => exact absurd (show false = true from h) Bool.false_ne_true
theorem ltL_eq {n : Nat} {f : PyData → PyData → Bool} (hf : ∀ a b, alkF n a b = true → f a b = PySem.W.dataLt a b) :
    ∀ xs ys, alkL (alkF n) xs ys = true → ltL (eqF n) f xs ys = PyProof.Rows.lexLt PyProof.Rows.itemOrd (PySem.W.keyToksAll xs) (PySem.W.keyToksAll ys)
  | [], [], _ => by rw [PySem.W.keyToksAll]; rfl
  | [], y :: ys, _ => by rw [PySem.W.keyToksAll, PySem.W.keyToksAll]; rfl
  | x :: xs, [], _ => by rw [PySem.W.keyToksAll, PySem.W.keyToksAll]; rfl
  | x :: xs, y :: ys, h => by
    have h' : (match alkF n x y with | true => alkL (alkF n) xs ys | false => false) = true := h
    cases e : alkF n x y with
    | false => rw [e] at h'; cases h'
    | true =>
      rw [e] at h'
      rw [PySem.W.dataLt_cons (alkF_eq n x y e), ← ltL_eq hf xs ys h', ← hf x y e, ← eqF_eq n x y]
      show (match eqF n x y with | true => ltL (eqF n) f xs ys | false => f x y) = _
      cases eqF n x y <;> rfl
theorem ltF_eq : ∀ (n : Nat) (a b : PyData), alkF n a b = true → ltF n a b = PySem.W.dataLt a b
  | 0, _, _, h => absurd (show false = true from h) Bool.false_ne_true
  | n + 1, a, b, h => by
    cases a with
    | int i => cases b with
      | int j => show iLt i j = _; rw [iLt_eq, PySem.W.dataLt_int]
      | _ => exact absurd (show false = true from h) Bool.false_ne_true
    | tuple xs => cases b with
      | tuple ys => show ltL (eqF n) (ltF n) xs ys = _; rw [PySem.W.dataLt_tuple]; exact ltL_eq (ltF_eq n) xs ys h
      | _ => exact absurd (show false = true from h) Bool.false_ne_true
    | _ => exact absurd (show false = true from h) Bool.false_ne_true

theorem okH_kind {y : PyData} (q : okH y = true) : (∃ i, y = .int i) ∨ ∃ a b, y = .tuple (a :: b) := by
  unfold okH at q
  split at q
  · exact .inl ⟨_, rfl⟩
  · exact .inr ⟨_, _, rfl⟩
  · cases q
theorem sortable_ok {xs : List PyData} (h : sortable xs = true) : (∀ y ∈ xs, ∀ z ∈ xs, alkF 20 y z = true) ∧ ((∀ y ∈ xs, ∃ x r, y = .tuple (x :: r)) ∨ ∀ y ∈ xs, ∃ i, y = .int i) := by
  unfold sortable at h
  rw [Bool.and_eq_true] at h
  obtain ⟨h1, h3⟩ := h
  have al : ∀ y ∈ xs, ∀ z ∈ xs, alkF 20 y z = true := fun y hy z hz => shalL_all _ _ (shalL_all _ _ h3 y hy) z hz
  have kind := fun y hy => okH_kind (shalL_all _ _ h1 y hy)
  refine ⟨al, ?_⟩
  cases xs with
  | nil => exact .inr fun y hy => by cases hy
  | cons x r =>
    rcases kind x (List.mem_cons_self ..) with ⟨i, e⟩ | ⟨a, b, e⟩
    · right
      intro y hy
      rcases kind y hy with q | ⟨a, b, q⟩
      · exact q
      · have := al x (List.mem_cons_self ..) y hy
        rw [e, q] at this
        exact absurd (show false = true from this) Bool.false_ne_true
    · left
      intro y hy
      rcases kind y hy with ⟨i, q⟩ | ⟨c, d, q⟩
      · have := al x (List.mem_cons_self ..) y hy
        rw [e, q] at this
        exact absurd (show false = true from this) Bool.false_ne_true
      · exact ⟨c, d, q⟩
theorem sort_le {xs : List PyData} (h : sortable xs = true) : sortF (ltB false) xs = xs.mergeSort (PySem.W.dataLe false fun b : PyData => b) := by
  obtain ⟨al, _⟩ := sortable_ok h
  have tl : PySem.W.TotalLe (PySem.W.dataLe false fun b : PyData => b) := PySem.W.sortLe_total _ _ _
  rw [sortF_srt, ← srt_eq tl xs]
  refine srt_congr fun y hy z hz => ?_
  show ltF 20 y z = _
  rw [ltF_eq 20 y z (al y hy z hz), PySem.W.dataLe_eq]
  simp
theorem sort_ge {xs : List PyData} (h : sortable xs = true) : sortF (ltB true) xs = xs.mergeSort (PySem.W.dataLe true fun b : PyData => b) := by
  obtain ⟨al, _⟩ := sortable_ok h
  have tl : PySem.W.TotalLe (PySem.W.dataLe true fun b : PyData => b) := PySem.W.sortLe_total _ _ _
  rw [sortF_srt, ← srt_eq tl xs]
  refine srt_congr fun y hy z hz => ?_
  show ltF 20 z y = _
  rw [ltF_eq 20 z y (al z hz y hy), PySem.W.dataLe_eq]
  simp

/-! ### values that stand for data, one by one -/
def RV (K : PySem.W.Frag) (B : Addr → Prop) (H : Hp) (u : Value) (d : PyData) : Prop := ∃ v, RelV v u ∧ Rp K B H v d
theorem rv_of {K : PySem.W.Frag} {B : Addr → Prop} {H : Hp} : ∀ {vs : List V} {us : List Value} {ds : List PyData}, Vals vs us → RpA K B H vs ds → PySem.W.EachIs (RV K B H) us ds
  | _, _, _, .nil, .nil => .nil
  | _, _, _, .cons r t, .cons q u => .cons ⟨_, r, q⟩ (rv_of t u)
theorem of_rv {K : PySem.W.Frag} {B : Addr → Prop} {H : Hp} : ∀ {us : List Value} {ds : List PyData}, PySem.W.EachIs (RV K B H) us ds → ∃ vs, Vals vs us ∧ RpA K B H vs ds
  | _, _, .nil => ⟨[], .nil, .nil⟩
  | _, _, .cons ⟨v, r, q⟩ t => by
    obtain ⟨vs, h1, h2⟩ := of_rv t
    exact ⟨v :: vs, .cons r h1, .cons q h2⟩
theorem each_imp {R S : Value → PyData → Prop} (h : ∀ u d, R u d → S u d) : ∀ {us : List Value} {ds : List PyData}, PySem.W.EachIs R us ds → PySem.W.EachIs S us ds
  | _, _, .nil => .nil
  | _, _, .cons r t => .cons (h _ _ r) (each_imp h t)
theorem map_id' (ds : List PyData) : ds.map (fun b : PyData => b) = ds := List.map_id' ds

/-! ### what collect makes of a tuple -/
section
variable {prog : Program}
  {w : World} {A : Around} {E : Value → Shared → Prop} {s : Shared}
theorem gather_tuple {l : Addr} {vs : List Value} {o : Obj} {n : Nat} {Q : List Value → Shared → Prop} (ho : s.heap.get? l = some o)
    (hc : o.cls = .type "tuple") (hd : o.data = .seq vs.toArray n) (hz : vs.length ≤ sizeLine)
    (h : Q vs { s with heap := (s.heap.push (seqObj "list" #[] 0)).update s.heap.objs.size (Obj.mapSeq (· ++ vs.toArray)) }) : wpAny (model prog w) A (collect (.ref l)) Q E s := by
  have h1 : (s.heap.push (seqObj "list" #[] 0)).get? l = some o := Heap.get?_push_of_some _ ho
  have h2 : (s.heap.push (seqObj "list" #[] 0)).get? s.heap.objs.size = some (seqObj "list" #[] 0) := Heap.get?_push_size _ rfl
  unfold collect
  refine wpAny_bind (wpAny_runValue (codeAny_builtin entry_proto_collect' (wpAny_bind (wpAny_newList (wpAny_pure ⟨Code.quiet_builtin _ (by decide +kernel), codeAny_builtin entry_list_iadd' ?_⟩)))))
  show wpAny _ _ (Builtin.List.listExtendWith (.ref s.heap.objs.size) (.ref l)
    (.ref s.heap.objs.size)) _ _ { s with heap := s.heap.push (seqObj "list" #[] 0) }
  unfold Builtin.List.listExtendWith; skip
  refine wpAny_bind (wpAny_typeOf (T := "tuple") ⟨o, h1, hc⟩ ?_)
  rw [if_pos (by
    have e : (Value.type "tuple" == Value.type "tuple") = true := rfl
    rw [e, Bool.or_true])]
  refine wpAny_bind (listItems_at h1 hd (wpAny_bind (listItems_at (xs := #[]) (n := 0) h2 rfl ?_)))
  rw [if_neg (by simp)]
  refine wpAny_bind (listUpdate_at (xs := #[]) (n := 0) h2 rfl (wpAny_pure ?_) (Nat.zero_le _) ?_)
  · refine wpAny_bind (wpAny_load (get?_update_seq h2 _) ?_)
    have e : ((#[] : Array Value) ++ vs.toArray).toList = vs := by simp
    refine wpAny_pure ?_
    show Q ((#[] : Array Value) ++ vs.toArray).toList _
    rw [e]
    exact h
  · show (#[] ++ vs.toArray).size ≤ sizeLine + 1
    rw [Array.size_append, List.size_toArray]
    show 0 + vs.length ≤ _
    omega
end
section
variable {X : Cx} {T : List Addr}
theorem tyx_of {B : Addr → Prop} {H : Hp} {v : V} {d : PyData} (r : Rp X.K B H v d) : ∃ n, TyX X.K H v (.type n) ∧ n = (match d with | .none => "NoneType" | .bool _ => "bool" | .int _ => "int" | .str _ => "str" | .list _ => "list" | .tuple _ => "tuple" | .dict _ => "dict") := by
  cases r with
  | non => exact ⟨_, .base .non, rfl⟩
  | bl b => exact ⟨_, .base (.bl b), rfl⟩
  | int i => exact ⟨_, .base (.int i), rfl⟩
  | str x => exact ⟨_, .base (.str x), rfl⟩
  | lst h n r =>
    rcases h with h | ⟨o, h⟩
    · exact ⟨_, .base (.lst h), rfl⟩
    · exact ⟨_, .base (.frz h), rfl⟩
  | lstK h r =>
    obtain ⟨o, its, n, h1, h2, _⟩ := h
    exact ⟨_, .kList h1 h2, rfl⟩
  | tup h r =>
    rcases h with (h | ⟨o, h⟩) | ⟨o, its, n, h1, h2, _⟩
    · exact ⟨_, .base (.tup h), rfl⟩
    · exact ⟨_, .fTuple h, rfl⟩
    · exact ⟨_, .kTuple h1 h2, rfl⟩
/-- isinstance of data, T one of the three types -/
def isD (T : String) (d : PyData) : Bool := match T, d with
  | "int", .int _ => true
  | "int", .bool _ => true
  | "tuple", .tuple _ => true
  | "str", .str _ => true
  | _, _ => false
theorem call_isD (T : String) (hT : T = "int" ∨ T = "tuple" ∨ T = "str") : CallR X (.builtin "isinstance") (fun xs H Q => ∃ B v d, xs = [v, .ty T] ∧ Rp X.K B H v d ∧ Q (.bl (isD T d)) H) := by
  intro pins s σ H xs us Q I r ⟨B, v, d, e, rv, q⟩
  subst e
  obtain ⟨n, ty, en⟩ := tyx_of rv
  refine call_isi pins s σ H _ us Q I r ⟨v, .ty T, .type n, .type T, isD T d, rfl, .ty T, ty, ?_, q⟩
  subst en
  rcases hT with e | e | e <;> subst e <;> cases d <;> first
    | (exact (by kernel_rfl))
    | (cases rv; done)
end
end ES
end

set_option Elab.async false
set_option linter.all false
set_option autoImplicit false
set_option maxRecDepth 100000
set_option maxHeartbeats 4000007
/-! ES4: calls of built-ins on data. -/
noncomputable section
namespace ES
open PySem PySem.Spec PyProof.Rows L2 EV GxR

def KwS (kw : List (Str × Value)) (b : Bool) : Prop := (kw = [] ∧ b = false) ∨ kw = [(Str.ofString "reverse", .bool b)]
section
variable {prog : Program}
  {w : World} {A : Around} {E : Value → Shared → Prop} {s : Shared}
theorem sorted_via {l : Addr} {vs out : List Value} {kw : List (Str × Value)} {b : Bool} {Q : Value → Shared → Prop} (hk : KwS kw b) (hL : vs.length ≤ sizeLine)
    (col : ∀ (A' : Around) (R : List Value → Shared → Prop), R vs { s with heap := (s.heap.push (seqObj "list" #[] 0)).update s.heap.objs.size (Obj.mapSeq (· ++ vs.toArray)) } → wpAny (model prog w) A' (collect (.ref l)) R E s)
    (κ : PyProof.Rows.KeyKind) (S : PySem.W.SortsAt prog w A.in1.in1 { s with heap := PySem.W.sortingHeap (PySem.W.copyHeap s.heap vs) (s.heap.objs.size + 1) vs } κ vs) (ho : PySem.W.sortVals κ b vs vs = out)
    (h : Q (.ref (s.heap.objs.size + 1)) { s with heap := sortedAll s.heap vs out.toArray }) : wpAny (model prog w) A (call (.builtin "sorted") [.ref l] kw) Q E s := by
  have a1 : argsOk "sorted" ⟨[.ref l], kw⟩ := by
    rcases hk with ⟨e, _⟩ | e <;> subst e
    · exact args_sorted1 _
    · exact args_sorted_rev _ _
  have a2 : ∀ x, argsOk "list.sort" ⟨[.ref x], kw⟩ := fun x => by
    rcases hk with ⟨e, _⟩ | e <;> subst e
    · exact args_list_sort _
    · exact args_list_sort_rev _ _
  refine call_function_entry_kw kind_sorted plain_sorted entry_sorted a1 ?_
  unfold Builtin.«sorted»
  refine wpAny_bind (m := checkCount "sorted" 1 1 _) (wpAny_pure (wpAny_bind (col _ _ (wpAny_bind (wpAny_newList ?_ hL)))))
  have hsz : ((s.heap.push (seqObj "list" #[] 0)).update s.heap.objs.size (Obj.mapSeq (· ++ vs.toArray))).objs.size = s.heap.objs.size + 1 := by rw [Heap.size_update, size_push']
  show wpAny _ _ _ _ _
    { s with heap := PySem.W.copyHeap s.heap vs }
  rw [hsz]
  refine wpAny_bind (wpAny_holding (wpAny_call_entry_kw slot_list_sort ⟨_, PySem.W.copyHeap_at s.heap vs, rfl⟩ entry_list_sort ?body (a2 _)))
  case body =>
    have go : wpAny (model prog w) A.in1.in1 (Builtin.«list.sort» ⟨[.ref (s.heap.objs.size + 1)], [(Str.ofString "reverse", .bool b)]⟩)
        (fun f s' => f = .done (.ret .none) ∧ Q (.ref (s.heap.objs.size + 1)) s') E { s with heap := PySem.W.copyHeap s.heap vs } := by
      refine PySem.W.list_sort_rev_vals (s := { s with heap := PySem.W.copyHeap s.heap vs }) (PySem.W.copyHeap_at s.heap vs) S hL ⟨rfl, ?_⟩
      rw [ho]; exact h
    have e : Builtin.«list.sort» ⟨[.ref (s.heap.objs.size + 1)], kw⟩ = Builtin.«list.sort» ⟨[.ref (s.heap.objs.size + 1)], [(Str.ofString "reverse", .bool b)]⟩ := by
      rcases hk with ⟨e, e2⟩ | e
      · subst e e2; exact PySem.W.plain_is_rev _
      · rw [e]
    show wpAny (model prog w) A.in1.in1
      (Builtin.«list.sort» ⟨[.ref (s.heap.objs.size + 1)], kw⟩) _ _ _
    rw [e]
    refine wpAny_mono go (fun f s' hf => ?_) fun _ _ e => e
    obtain ⟨e1, hq⟩ := hf
    subst e1
    exact ⟨_,
        rfl, wpAny_pure ⟨_, rfl, hq⟩⟩
end

section
variable {X : Cx} {T : List Addr}
theorem sorted_D {pins : List (Addr × Obj)} {s : Shared} {σ : L2.St} {H : Hp} {x : V} {u : Value} {Q : VK} {B : Addr → Prop} {d : PyData} {b : Bool} {kw : List (Str × Value)} (hk : KwS kw b) (hu : X.A.units + 64 < cLine) (I : Inv X pins σ H s) (ru : RelV x u)
    (pr : Pre T B H) (hx : Rw X.K B H x d) (h : Wn X.K T B H (sortG (ltB b) d) Q) : wpAny (model X.prog X.w) X.A (call (.builtin "sorted") [u] kw) (EP X pins σ Q) X.xe s := by
  obtain ⟨ds, hd, hs, hn⟩ : ∃ ds, (d = .list ds ∨ d = .tuple ds) ∧ sortable ds = true ∧ Wn X.K T B H (.ok (.list (sortF (ltB b) ds))) Q := by
    cases d with
    | list xs =>
      have h' : Wn X.K T B H (match sortable xs && fitN (lenF xs) with | true => .ok (.list (sortF (ltB b) xs)) | false => .fail) Q := h
      split at h'
      · rename_i q
        exact ⟨_, .inl rfl, (Bool.and_eq_true_iff.mp q).1, h'⟩
      · exact h'.elim
    | tuple xs =>
      have h' : Wn X.K T B H (match sortable xs && fitN (lenF xs) with | true => .ok (.list (sortF (ltB b) xs)) | false => .fail) Q := h
      split at h'
      · rename_i q
        exact ⟨_, .inr rfl, (Bool.and_eq_true_iff.mp q).1, h'⟩
      · exact h'.elim
    | _ => exact False.elim h
  obtain ⟨al, kd⟩ := sortable_ok hs
  obtain ⟨l, xs, its, ex, rv, rp, hz, col⟩ : ∃ l xs its, x = .ref l ∧ Vals xs its ∧ RpA X.K B H xs ds ∧ xs.length ≤ sizeLine ∧
      ∀ (A' : Around) (E : Value → Shared → Prop) (R : List Value → Shared → Prop), R its { s with heap := (s.heap.push (seqObj "list" #[] 0)).update s.heap.objs.size (Obj.mapSeq (· ++ its.toArray)) } → wpAny (model X.prog X.w) A' (collect (.ref l)) R E s := by
    rcases hd with e | e
    · subst e
      obtain ⟨l, xs, e, hl, rp⟩ := hx.list
      obtain ⟨its, rv, pl, hz⟩ :=
          I.list hl
      exact ⟨l, xs, its, e, rv, rp, hz, fun A' E R q => collect_list pl.isList q (by rw [← rv.length]; exact hz)⟩
    · subst e
      obtain ⟨l, xs, e, hl, rp⟩ := hx.tuple
      obtain ⟨its, rv, ⟨o, ho, hc, n, ht⟩, hz⟩ := I.tuple hl
      exact ⟨l, xs, its, e, rv, rp, hz, fun A' E R q => gather_tuple ho hc ht (by rw [← rv.length]; exact hz) q⟩
  subst ex
  cases ru
  have hal : PySem.W.AllAlike ds := fun y hy z hz => alkF_eq 20 y z (al y hy z hz)
  have hk' : PySem.W.Sortable ds := kd.imp id fun q y hy => by
    obtain ⟨i, e⟩ := q y hy
    subst e
    exact ⟨(fun z => by cases z), (fun xs z => by cases z)⟩
  have e0 : PySem.W.EachIs (RV X.K B H) its ds := rv_of rv rp
  have rd : ∀ (u : Value) (d : PyData), RV X.K B H u d → ∃ as, Reads s.heap u d as := fun u d ⟨v, h1, h2⟩ => Dp.reads I d v u h2.dp h1
  have er : PySem.W.EachIs (fun v d => ∃ as, Reads s.heap v d as) its ds := each_imp rd e0
  have er' : PySem.W.EachIs (fun v d => ∃ as, Reads (PySem.W.sortingHeap (PySem.W.copyHeap s.heap its) (s.heap.objs.size + 1) its) v d as) its ds :=
    each_imp (fun v d ⟨as, r⟩ => ⟨as, PyProof.Rows.Reads.keeps (fun _ _ => PySem.W.sorting_copy_old) r⟩) er
  have hdp : ∀ d, d ∈ ds → X.A.in1.in1.units + d.depth < cLine := fun d hd => by
    have h1 := alkF_depth 20 d (al d hd d hd)
    have h2 : X.A.in1.in1.units = X.A.units + 2 := rfl
    omega
  have S := PySem.W.SortsAt.data (prog := X.prog) (w := X.w) (A := X.A.in1.in1) (s := { s with heap := PySem.W.sortingHeap (PySem.W.copyHeap s.heap its) (s.heap.objs.size + 1) its }) er' hal hk' hdp
  have sv := PySem.W.sortVals_data (enc := fun b : PyData => b) (R := RV X.K B H) b e0 er' (by rw [map_id']; exact hal)
  rw [map_id'] at sv
  obtain ⟨ys, rvo, rpo⟩ := of_rv sv
  refine sorted_via hk (by rw [← rv.length]; exact hz) (fun A' R q => col A' _ R q) _ S rfl ?_
  obtain ⟨ep, he⟩ := sortedAll_at s.heap its (PySem.W.sortVals (PySem.W.dataKind (PySem.W.sortingHeap (PySem.W.copyHeap s.heap its) (s.heap.objs.size + 1) its) ds) b its its).toArray
  have hlen : ys.length ≤ sizeLine := by
    rw [rpo.length, List.length_mergeSort, ← rp.length]
    exact hz
  have so : sortF (ltB b) ds = ds.mergeSort (PySem.W.dataLe b fun b : PyData => b) := by
    cases b with
    | true => exact sort_ge hs
    | false => exact sort_le hs
  rw [so] at hn
  have hp := I.hok.fresh (Nat.le_succ s.heap.objs.size)
  exact ⟨.ref _, upd H (s.heap.objs.size + 1) (.lst ys), I.laid (t' := s.toks) (fun _ _ => sortedAll_old) (Nat.le_succ _) ⟨hlen, _, ep, rvo, he⟩, rfl, wn_lst pr rpo hp hn⟩

/-- rows of values, each perhaps an owned list -/
inductive RwA (K : PySem.W.Frag) (B : Addr → Prop) (H : Hp) : List V → List PyData → Prop
  | nil : RwA K B H [] []
  | cons {v : V} {vs : List V} {d : PyData} {ds : List PyData} : Rw K B H v d → RwA K B H vs ds → RwA K B H (v :: vs) (d :: ds)
theorem RpA.rwA {K : PySem.W.Frag} {B : Addr → Prop} {H : Hp} : ∀ {vs : List V} {ds : List PyData}, RpA K B H vs ds → RwA K B H vs ds
  | _, _, .nil => .nil
  | _, _, .cons r t => .cons (.inl r) (RpA.rwA t)
theorem RwA.grow {K : PySem.W.Frag} {B : Addr → Prop} {H H' : Hp} (g : Gr T H H') (t : Tabs T H) : ∀ {vs : List V} {ds : List PyData}, RwA K B H vs ds → RwA K B H' vs ds
  | _, _, .nil => .nil
  | _, _, .cons r q => .cons (r.grow g t) (RwA.grow g t q)
theorem RwA.one {K : PySem.W.Frag} {B : Addr → Prop} {H : Hp} {vs : List V} {d : PyData} (r : RwA K B H vs [d]) : ∃ v, vs = [v] ∧ Rw K B H v d := by
  cases r with
  | cons r t => cases t; exact ⟨_, rfl, r⟩
theorem RwA.two {K : PySem.W.Frag} {B : Addr → Prop} {H : Hp} {vs : List V} {d e : PyData} (r : RwA K B H vs [d, e]) : ∃ v w, vs = [v, w] ∧ Rw K B H v d ∧ Rw K B H w e := by
  cases r with
  | cons r t =>
    obtain ⟨w, rfl, q⟩ := t.one
    exact ⟨_, _, rfl, r, q⟩
/-- what a built-in gives -/
def rBlt (K : PySem.W.Frag) (T : List Addr) (f : Bf) : List V → Hp → VK → Prop := fun vs H Q => ∃ B ds, Pre T B H ∧ RwA K B H vs ds ∧ Wn K T B H (bltF f ds) Q
theorem sumF_ok {K : PySem.W.Frag} {B : Addr → Prop} {H : Hp} {P : PyData → Prop} : ∀ {xs : List PyData} {a : Int}, OkR (sumF xs a) P (fun _ => False) → ∃ ns : List Int, xs = ns.map .int ∧ P (.int (a + ns.sum))
  | [], a, h => ⟨[], rfl, by rw [List.sum_nil, Int.add_zero]; exact h⟩
  | x :: xs, a, h => by
    cases x with
    | int i =>
      obtain ⟨ns, e, q⟩ := sumF_ok (K := K) (B := B) (H := H) (xs := xs) (a := Int.add a i) h
      refine ⟨i :: ns, by rw [e]; rfl, ?_⟩
      rw [List.sum_cons, ← Int.add_assoc]
      exact q
    | _ => exact False.elim h
theorem extI_lt {P : PyData → Prop} : ∀ {xs : List PyData} {m : Int}, OkR (extI iLt xs m) P (fun _ => False) → ∃ ns : List Int, xs = ns.map .int ∧ ∃ k, k ∈ m :: ns ∧ (∀ y ∈ m :: ns, k ≤ y) ∧ P (.int k)
  | [], m, h => ⟨[], rfl, m, by simp, by simp, h⟩
  | x :: xs, m, h => by
    cases x with
    | int i =>
      have h' : OkR (match iLt i m with | true => extI iLt xs i | false => extI iLt xs m) P (fun _ => False) := h
      rw [iLt_eq] at h'
      by_cases q : i < m
      · rw [decide_eq_true q] at h'
        obtain ⟨ns, e, k, hk, hl, p⟩ := extI_lt h'
        refine ⟨i :: ns, by rw [e]; rfl, k, List.mem_cons_of_mem _ hk, fun y hy => ?_, p⟩
        rcases List.mem_cons.mp hy with hy | hy
        · have := hl i (List.mem_cons_self ..); omega
        · exact hl y hy
      · rw [decide_eq_false q] at h'
        obtain ⟨ns, e, k, hk, hl, p⟩ := extI_lt h'
        refine ⟨i :: ns, by rw [e]; rfl, k, ?_, fun y hy => ?_, p⟩
        · rcases List.mem_cons.mp hk with hk | hk
          · rw [hk]; exact List.mem_cons_self ..
          · exact List.mem_cons_of_mem _ (List.mem_cons_of_mem _ hk)
        · rcases List.mem_cons.mp hy with hy | hy
          · rw [hy]; exact hl m (List.mem_cons_self ..)
          · rcases List.mem_cons.mp hy with hy | hy
            · have := hl m (List.mem_cons_self ..); omega
            · exact hl y (List.mem_cons_of_mem _ hy)
    | _ => exact False.elim h
theorem extI_gt {P : PyData → Prop} : ∀ {xs : List PyData} {m : Int}, OkR (extI (fun i j => iLt j i) xs m) P (fun _ => False) → ∃ ns : List Int, xs = ns.map .int ∧ ∃ k, k ∈ m :: ns ∧ (∀ y ∈ m :: ns, y ≤ k) ∧ P (.int k)
  | [], m, h => ⟨[], rfl, m, by simp, by simp, h⟩
  | x :: xs, m, h => by
    cases x with
    | int i =>
      have h' : OkR (match iLt m i with | true => extI (fun i j => iLt j i) xs i | false => extI (fun i j => iLt j i) xs m) P (fun _ => False) := h
      rw [iLt_eq] at h'
      by_cases q : m < i
      · rw [decide_eq_true q] at h'
        obtain ⟨ns, e, k, hk, hl, p⟩ := extI_gt h'
        refine ⟨i :: ns, by rw [e]; rfl, k, List.mem_cons_of_mem _ hk, fun y hy => ?_, p⟩
        rcases List.mem_cons.mp hy with hy | hy
        · have := hl i (List.mem_cons_self ..); omega
        · exact hl y hy
      · rw [decide_eq_false q] at h'
        obtain ⟨ns, e, k, hk, hl, p⟩ := extI_gt h'
        refine ⟨i :: ns, by rw [e]; rfl, k, ?_, fun y hy => ?_, p⟩
        · rcases List.mem_cons.mp hk with hk | hk
          · rw [hk]; exact List.mem_cons_self ..
          · exact List.mem_cons_of_mem _ (List.mem_cons_of_mem _ hk)
        · rcases List.mem_cons.mp hy with hy | hy
          · rw [hy]; exact hl m (List.mem_cons_self ..)
          · rcases List.mem_cons.mp hy with hy | hy
            · have := hl m (List.mem_cons_self ..); omega
            · exact hl y (List.mem_cons_of_mem _ hy)
    | _ => exact False.elim h
theorem blt_len : CallR X (.builtin "len") (rBlt X.K T .len) := by
  intro pins s σ H vs us Q I r ⟨B, ds, pr, ra, h⟩
  unfold bltF at h
  split at h <;> first | exact h.elim | skip
  all_goals (rename_i e; try (cases e; done))
  · rename_i xs _ _
    obtain ⟨v, e, rv⟩ := ra.one
    subst e
    obtain ⟨a, ys, rfl, ha, q⟩ := rv.list
    rw [lenF_eq, ← q.length] at h
    exact call_len_seq pins s σ H _ us Q I r ⟨a, ys, rfl, .inl ha, wn_int h⟩
  · rename_i xs _ _
    obtain ⟨v, e, rv⟩ := ra.one
    subst e
    obtain ⟨a, ys, rfl, ha, q⟩ := rv.tuple
    rw [lenF_eq, ← q.length] at h
    exact call_len_seq pins s σ H _ us Q I r ⟨a, ys, rfl, .inr ha, wn_int h⟩
  · obtain ⟨v, e, rv⟩ := ra.one
    subst e
    cases rv.str
    split at h
    · rename_i hf
      have hf := fitN_le hf
      exact call_len_str pins s σ H _ us Q I r ⟨_, rfl, by rw [sizeLine_eq]; omega, wn_int h⟩
    · exact h.elim
theorem log2_small {n : Nat} (h : n < 4611686018427387904) : n.log2 < 1920 := by
  by_cases z : n = 0
  · rw [z]; decide
  · have : n.log2 < 62 := (Nat.log2_lt z).mpr (by omega)
    omega
theorem blt_str : CallR X (.type "str") (rBlt X.K T .str) := by
  intro pins s σ H vs us Q I r ⟨B, ds, pr, ra, h⟩
  unfold bltF at h
  split at h <;> first | exact h.elim | skip
  all_goals (rename_i e; try (cases e; done))
  · obtain ⟨v, e, rv⟩ := ra.one
    subst e
    cases rv.int
    split at h
    · rename_i hb
      rw [nblt, decide_eq_true_iff] at hb
      exact call_str_int pins s σ H _ us Q I r ⟨_, rfl, log2_small hb, wn_str h⟩
    · exact h.elim
theorem blt_tuple : CallR X (.type "tuple") (rBlt X.K T .tuple) := by
  intro pins s σ H vs us Q I r ⟨B, ds, pr, ra, h⟩
  unfold bltF at h
  split at h <;> first | exact h.elim | skip
  all_goals (rename_i e; try (cases e; done))
  · obtain ⟨v, e, rv⟩ := ra.one
    subst e
    obtain ⟨a, ys, rfl, ha, q⟩ := rv.list
    exact call_tuple_of pins s σ H _ us Q I r ⟨a, ys, rfl, .inl ⟨ha, fun l hl => wn_tup pr q hl h⟩⟩
  · obtain ⟨v, e, rv⟩ := ra.one
    subst e
    obtain ⟨a, ys, rfl, ha, q⟩ := rv.tuple
    exact call_tuple_of pins s σ H _ us Q I r ⟨a, ys, rfl, .inr ⟨ha, h _ _ Gr.refl (.tup ha q) (.of fun ds e => by cases e)⟩⟩
theorem blt_list : CallR X (.type "list") (rBlt X.K T .list) := by
  intro pins s σ H vs us Q I r ⟨B, ds, pr, ra, h⟩
  unfold bltF at h
  split at h <;> first | exact h.elim | skip
  all_goals (rename_i e; try (cases e; done))
  · obtain ⟨v, e, rv⟩ := ra.one
    subst e
    obtain ⟨a, ys, rfl, ha, q⟩ := rv.list
    exact call_list_of pins s σ H _ us Q I r ⟨a, ys, rfl, .inl ha, fun l hl => wn_lst pr q hl h⟩
  · obtain ⟨v, e, rv⟩ := ra.one
    subst e
    obtain ⟨a, ys, rfl, ha, q⟩ := rv.tuple
    exact call_list_of pins s σ H _ us Q I r ⟨a, ys, rfl, .inr ha, fun l hl => wn_lst pr q hl h⟩
section
variable {prog : Program}
  {w : World} {A : Around} {E : Value → Shared → Prop} {s : Shared} {l : Addr} {its : List Value} {ns : List Int} {Q : Value → Shared → Prop}
/-- a tuple of ints, about to be walked -/
theorem walkT {Q : Value → Shared → Prop} {xs : Array (Int × Tok)} (ht : s.heap.IsTuple l (intItems xs))
    (k : ∀ s1 : Shared, s1 = { s with heap := s.heap.push { cls := .type "tuple_iterator", data := .fields #[.ref l, .int 0 0] } } → (s1.heap.IsTupleIter s.heap.objs.size l 0 ∧ s1.heap.IsTuple l (intItems xs)) → (∀ b ∈ [s.heap.objs.size, l], b < s1.heap.objs.size) → l ≠ s.heap.objs.size → Q (.ref s.heap.objs.size) s1) :
    wpAny (model prog w) A (pyIter (.ref l)) Q E s :=
        by
  have lt : l < s.heap.objs.size := by
    obtain ⟨o, e, _⟩ := ht
    exact Heap.lt_size e
  have kp : (s.heap.push { cls := .type "tuple_iterator", data := .fields #[.ref l, .int 0 0] }).IsTuple l (intItems xs) := by
    obtain ⟨o, e, rest⟩ := ht
    exact ⟨o, Heap.get?_push_of_some _ e, rest⟩
  refine wpAny_pyIter_tuple ht (k _ rfl ⟨⟨_, Heap.get?_push_size _ rfl, rfl, rfl⟩, kp⟩ (fun b hb => ?_) (Nat.ne_of_lt lt))
  show b < (s.heap.push
      _).objs.size
  rw [Heap.size_push]
  have hb : b = s.heap.objs.size ∨ b = l := by simpa using hb
  rcases hb with e | e
  · rw [e]; exact Nat.lt_succ_self
        _
  · rw [e]; exact Nat.lt_succ_of_lt lt
theorem keptT {h' : Heap} (hk : ∀ b o, b ∉ [s.heap.objs.size] → (s.heap.push { cls := .type "tuple_iterator", data := .fields #[.ref l, .int 0 0] }).get? b = some o → h'.get? b = some o) : ∀ b o, s.heap.get? b = some o → h'.get? b = some o := fun b o e =>
  hk b o (fun hm => absurd (Heap.lt_size e) (by have : b = s.heap.objs.size := by simpa using hm
                                                rw [this]; exact Nat.lt_irrefl _)) (Heap.get?_push_of_some _ e)
theorem sumT (hh : A.handled = none) (ht : s.heap.IsTuple l its.toArray) (hi : IntsAre its ns)
    (k : ∀ h' tk t', (∀ b o, s.heap.get? b = some o → h'.get? b = some o) → Q (.int ns.sum t') { s with heap := h', toks := tk }) : wpAny (model prog w) A (call (.builtin "sum") [.ref l]) Q E s := by
  obtain ⟨xs, e⟩ :=
      hi.allInts.items
  have hn : numsOf (intItems xs).toList = ns :=
      by rw [← e]; exact hi.numsOf
  rw [nums_intItems] at hn
  rw [e] at ht
  refine call_sum_walkG (walkT ht fun s1 e1 st bd ne => ?_)
  subst e1
  refine ⟨_, _, _, _, _, _, numAt xs, rfl, Walks.tuple (A := A.in1) hh _ l ne (intItems xs), st, bd, (fun _ _ => intItems_at), fun h' tk t' hk => ?_⟩
  have := k h' tk t' (keptT hk)
  rw [← hn] at this
  have e2 : preSum (numAt xs) (intItems xs).size = (xs.toList.map (·.1)).sum := by
    have e3 : (intItems xs).size = xs.size := by simp [intItems]
    rw [e3, preSum_eq, List.take_of_length_le (by simp)]
  rw [e2]
  exact this
theorem maxT (hh : A.handled = none) (ht : s.heap.IsTuple l its.toArray) (hi : IntsAre its ns) (hne : 0 < ns.length)
    (k : ∀ h' tk M t', (∀ b o, s.heap.get? b = some o → h'.get? b = some o) → M ∈ ns → (∀ a, a ∈ ns → a ≤ M) → Q (.int M t') { s with heap := h', toks := tk }) : wpAny (model prog w) A (call (.builtin "max") [.ref l]) Q E s := by
  obtain ⟨xs, e⟩ :=
      hi.allInts.items
  have hn : numsOf (intItems xs).toList = ns :=
      by rw [← e]; exact hi.numsOf
  rw [nums_intItems] at hn
  subst hn
  rw [e] at ht
  have hsz : 0 < xs.size :=
      by simpa using hne
  refine call_max_walk (walkT ht fun s1 e1 st bd ne => ?_)
  subst e1
  refine ⟨_, _, _, _, _, _, _, rfl, Walks.tuple (A := A.in1) hh _ l ne (intItems xs), st, bd, by simpa [intItems] using hsz, CmpOf.ints_gt (numAt xs) (fun _ _ => intItems_at), fun v h' tk hP hk => ?_⟩
  obtain ⟨t, rfl⟩ := intItems_at hP
  have e3 : (intItems xs).size = xs.size := by simp [intItems]
  obtain ⟨h1, h2⟩ :=
      argBest_gt (numAt xs) (xs.size - 1)
  rw [e3]
  refine k h' tk _ t (keptT hk) ?_ fun a ha => ?_
  · rw [numAt_eq]
    refine PySem.getD_mem ?_
    rw [List.length_map]
    rw [Array.length_toList]
    omega
  · obtain ⟨j, hj, rfl⟩ :=
        mem_getD ha
    rw [List.length_map,
        Array.length_toList] at hj
    rw [← numAt_eq]; exact h2 j
        (by omega)
theorem minT (hh : A.handled = none) (ht : s.heap.IsTuple l its.toArray) (hi : IntsAre its ns) (hne : 0 < ns.length)
    (k : ∀ h' tk M t', (∀ b o, s.heap.get? b = some o → h'.get? b = some o) → M ∈ ns → (∀ a, a ∈ ns → M ≤ a) → Q (.int M t') { s with heap := h', toks := tk }) : wpAny (model prog w) A (call (.builtin "min") [.ref l]) Q E s := by
  obtain ⟨xs, e⟩ :=
      hi.allInts.items
  have hn : numsOf (intItems xs).toList = ns :=
      by rw [← e]; exact hi.numsOf
  rw [nums_intItems] at hn
  subst hn
  rw [e] at ht
  have hsz : 0 < xs.size :=
      by simpa using hne
  refine call_min_walk (walkT ht fun s1 e1 st bd ne => ?_)
  subst e1
  refine ⟨_, _, _, _, _, _, _, rfl, Walks.tuple (A := A.in1) hh _ l ne (intItems xs), st, bd, by simpa [intItems] using hsz, CmpOf.ints_lt (numAt xs) (fun _ _ => intItems_at), fun v h' tk hP hk => ?_⟩
  obtain ⟨t, rfl⟩ := intItems_at hP
  have e3 : (intItems xs).size = xs.size := by simp [intItems]
  obtain ⟨h1, h2⟩ :=
      argBest_lt (numAt xs) (xs.size - 1)
  rw [e3]
  refine k h' tk _ t (keptT hk) ?_ fun a ha => ?_
  · rw [numAt_eq]
    refine PySem.getD_mem ?_
    rw [List.length_map]
    rw [Array.length_toList]
    omega
  · obtain ⟨j, hj, rfl⟩ :=
        mem_getD ha
    rw [List.length_map,
        Array.length_toList] at hj
    rw [← numAt_eq]; exact h2 j
        (by omega)
end
theorem blt_sum (hc : X.calm = true) : CallR X (.builtin "sum") (rBlt X.K T .sum) := by
  intro pins s σ H vs us Q I r ⟨B, ds, pr, ra, h⟩
  unfold bltF at h
  split at h <;> first | exact h.elim | skip
  all_goals (rename_i e; try (cases e; done))
  · obtain ⟨v, e, rv⟩ := ra.one
    subst e
    obtain ⟨a, ys, rfl, ha, q⟩ := rv.list
    obtain ⟨ns, e, p⟩ := sumF_ok (K := X.K) (B := B) (H := H) h
    subst e
    rw [q.ints] at ha
    rw [Int.zero_add] at p
    exact cr_sum hc pins s σ H _ us Q I r ⟨a, ns, rfl, ha, wn_int (T := T) (B := B) (K := X.K) p⟩
  · obtain ⟨v, e, rv⟩ := ra.one
    subst e
    obtain ⟨a, ys, rfl, ha, q⟩ := rv.tuple
    obtain ⟨ns, e, p⟩ := sumF_ok (K := X.K) (B := B) (H := H) h
    subst e
    rw [q.ints] at ha
    rw [Int.zero_add] at p
    obtain ⟨its, rv2, hl, _⟩ := I.tuple ha
    rw [Vals.ref1 r]
    exact sumT (I.ok.hd hc) hl rv2.ints fun h' tk t' hk => ⟨.int _, H, I.kept hk, ⟨_, rfl⟩, wn_int (T := T) (B := B) (K := X.K) p⟩
theorem blt_int : CallR X (.type "int") (rBlt X.K T .int) := by
  intro pins s σ H vs us Q I r ⟨B, ds, pr, ra, h⟩
  unfold bltF at h
  split at h <;> first | exact h.elim | skip
  all_goals (rename_i e; try (cases e; done))
  · obtain ⟨v, e, rv⟩ := ra.one
    subst e
    cases rv.str
    split at h
    · rename_i h1 h2
      rw [nble, decide_eq_true_iff] at h2
      exact call_int_str pins s σ H _ us Q I r ⟨_, _, rfl, h1, h2, wn_int h⟩
    · exact h.elim
  · obtain ⟨v, e, rv⟩ := ra.one
    subst e
    cases rv.int
    exact call_int1 pins s σ H _ us Q I r (.inl ⟨_, rfl, wn_int h⟩)
  · obtain ⟨v, e, rv⟩ := ra.one
    subst e
    cases rv.bl
    exact call_int1 pins s σ H _ us Q I r (.inr ⟨_, rfl, wn_int h⟩)
  · obtain ⟨v, e, rv⟩ := ra.one
    subst e
    cases rv.bl
    exact call_int1 pins s σ H _ us Q I r (.inr ⟨_, rfl, wn_int h⟩)
theorem blt_abs : CallR X (.builtin "abs") (rBlt X.K T .abs) := by
  intro pins s σ H vs us Q I r ⟨B, ds, pr, ra, h⟩
  unfold bltF at h
  split at h <;> first | exact h.elim | skip
  all_goals (rename_i e; try (cases e; done))
  · obtain ⟨v, e, rv⟩ := ra.one
    subst e
    cases rv.int
    have key : ∀ i : Int, (if i < 0 then -i else i) = Int.ofNat i.natAbs := fun i => by
      show _ = (i.natAbs : Int)
      split <;> omega
    refine call_abs pins s σ H _ us Q I r ⟨_, rfl, ?_⟩
    rw [key]
    exact wn_int h
theorem blt_min (hc : X.calm = true) : CallR X (.builtin "min") (rBlt X.K T .min) := by
  intro pins s σ H vs us Q I r ⟨B, ds, pr, ra, h⟩
  have h : Wn X.K T B H (ext2 iLt ds) Q := h
  unfold ext2 at h
  split at h
  · obtain ⟨v, e, rv⟩ := ra.one
    subst e
    obtain ⟨a, ys, rfl, ha, q⟩ := rv.list
    obtain ⟨ns, e, k, hk, hl, p⟩ := extI_lt h
    subst e
    rename_i x _
    have q' : RpA X.K B H ys ((x :: ns).map .int) := q
    rw [q'.ints] at ha
    exact cr_min hc pins s σ H _ us Q I r ⟨a, x :: ns, rfl, ha, Nat.succ_pos _, fun m hm hl' => by
      have e : m = k := by have h1 := hl m hm; have h2 := hl' k hk; omega
      rw [e]
      exact wn_int (T := T) (B := B) (K := X.K) p⟩
  · obtain ⟨v, e, rv⟩ := ra.one
    subst e
    obtain ⟨a, ys, rfl, ha, q⟩ := rv.tuple
    obtain ⟨ns, e, k, hk, hl, p⟩ := extI_lt h
    subst e
    rename_i x _
    have q' : RpA X.K B H ys ((x :: ns).map .int) := q
    rw [q'.ints] at ha
    obtain ⟨its, rv2, ht, _⟩ := I.tuple ha
    rw [Vals.ref1 r]
    exact minT (I.ok.hd hc) ht rv2.ints (Nat.succ_pos _) fun h' tk m t' kp hm hl' => by
      have e : m = k := by have h1 := hl m hm; have h2 := hl' k hk; omega
      rw [e]
      exact ⟨.int _, H, I.kept kp, ⟨_, rfl⟩, wn_int (T := T) (B := B) (K := X.K) p⟩
  · rename_i x y h0
    obtain ⟨v, w, e, rv, rw'⟩ := ra.two
    subst e
    cases rv.int; cases rw'.int
    refine call_min2 hc pins s σ H _ us Q I r ⟨x, y, rfl, ?_⟩
    rw [iLt_eq] at h
    by_cases z : y < x
    · rw [if_pos z]; rw [decide_eq_true z] at h; exact wn_int h
    · rw [if_neg z]; rw [decide_eq_false z] at h; exact wn_int h
  · exact h.elim
theorem blt_max (hc : X.calm = true) : CallR X (.builtin "max") (rBlt X.K T .max) := by
  intro pins s σ H vs us Q I r ⟨B, ds, pr, ra, h⟩
  have h : Wn X.K T B H (ext2 (fun i j => iLt j i) ds) Q := h
  unfold ext2 at h
  split at h
  · obtain ⟨v, e, rv⟩ := ra.one
    subst e
    obtain ⟨a, ys, rfl, ha, q⟩ := rv.list
    obtain ⟨ns, e, k, hk, hl, p⟩ := extI_gt h
    subst e
    rename_i x _
    have q' : RpA X.K B H ys ((x :: ns).map .int) := q
    rw [q'.ints] at ha
    exact cr_max hc pins s σ H _ us Q I r ⟨a, x :: ns, rfl, ha, Nat.succ_pos _, fun m hm hl' => by
      have e : m = k := by have h1 := hl m hm; have h2 := hl' k hk; omega
      rw [e]
      exact wn_int (T := T) (B := B) (K := X.K) p⟩
  · obtain ⟨v, e, rv⟩ := ra.one
    subst e
    obtain ⟨a, ys, rfl, ha, q⟩ := rv.tuple
    obtain ⟨ns, e, k, hk, hl, p⟩ := extI_gt h
    subst e
    rename_i x _
    have q' : RpA X.K B H ys ((x :: ns).map .int) := q
    rw [q'.ints] at ha
    obtain ⟨its, rv2, ht, _⟩ := I.tuple ha
    rw [Vals.ref1 r]
    exact maxT (I.ok.hd hc) ht rv2.ints (Nat.succ_pos _) fun h' tk m t' kp hm hl' => by
      have e : m = k := by have h1 := hl m hm; have h2 := hl' k hk; omega
      rw [e]
      exact ⟨.int _, H, I.kept kp, ⟨_, rfl⟩, wn_int (T := T) (B := B) (K := X.K) p⟩
  · rename_i x y h0
    obtain ⟨v, w, e, rv, rw'⟩ := ra.two
    subst e
    cases rv.int; cases rw'.int
    refine call_max2 hc pins s σ H _ us Q I r ⟨x, y, rfl, ?_⟩
    have h : Wn X.K T B H (match iLt x y with | true => .ok (.int y) | false => .ok (.int x)) Q := h
    rw [iLt_eq] at h
    by_cases z : x < y
    · rw [if_pos z]; rw [decide_eq_true z] at h; exact wn_int h
    · rw [if_neg z]; rw [decide_eq_false z] at h; exact wn_int h
  · exact h.elim
theorem blt_sorted (hu : X.A.units + 64 < cLine) : CallR X (.builtin "sorted") (rBlt X.K T .sorted) := by
  intro pins s σ H vs us Q I r ⟨B, ds, pr, ra, h⟩
  unfold bltF at h
  split at h <;> first | exact h.elim | skip
  all_goals (rename_i e; try (cases e; done))
  · obtain ⟨v, e, rv⟩ := ra.one
    subst e
    obtain ⟨u, rfl, ru⟩ :=
        vals1 r
    exact sorted_D (.inl ⟨rfl, rfl⟩) hu I ru pr rv h
theorem blt_sortedRev (hu : X.A.units + 64 < cLine) : CallRK X (.builtin "sorted") [Str.ofString "reverse"] (fun vs zs H Q => zs = [.bl true] ∧ rBlt X.K T .sortedRev vs H Q) := by
  intro pins s σ H vs zs us ws Q I r rz ⟨ez, B, ds, pr, ra, h⟩
  subst ez
  obtain ⟨w1, rfl, e1⟩ :=
      vals1 rz
  obtain rfl : w1 = Value.bool true :=
      e1
  unfold bltF at h
  split at h <;> first | exact h.elim | skip
  all_goals (rename_i e; try (cases e; done))
  · obtain ⟨v, e, rv⟩ := ra.one
    subst e
    obtain ⟨u, rfl, ru⟩ :=
        vals1 r
    exact sorted_D (b := true) (.inr rfl) hu I ru pr rv h
end
end ES
end

set_option Elab.async false
set_option linter.all false
set_option autoImplicit false
set_option maxRecDepth 100000
set_option maxHeartbeats 4000007
/-! ES5: what it is that an expression of the program stands for one of EV's. -/
noncomputable section
namespace ES
open PySem PySem.Spec PyProof.Rows L2 EV GxR

/-! ### nothing of these raises -/
def NoX (r : R) : Prop := ∀ c, r ≠ .exc c
theorem nox_ok (d : PyData) : NoX (.ok d) := fun c e => nomatch e
theorem nox_fail : NoX .fail := fun c e => nomatch e
theorem nox_rb (b : Bool) : NoX (rb b) := fun c e => nomatch e
theorem nox_m {b : Bool} {r s : R} (h : NoX r) (k : NoX s) : NoX (match b with | true => r | false => s) := by cases b <;> assumption
theorem OkR.nox {r : R} {P : PyData → Prop} {Z Z' : Nat → Prop} (n : NoX r) (h : OkR r P Z) : OkR r P Z' := by
  cases r with
  | ok d => exact h
  | exc c => exact absurd rfl (n c)
  | fail => exact h
theorem nox_bin (o : Op) (a b : PyData) : NoX (binF o a b) := by
  unfold binF
  split <;> first | exact nox_ok _ | exact nox_fail | (split <;> first | exact nox_ok _ | exact nox_fail)
theorem nox_cmp (o : Cm) (a b : PyData) : NoX (cmpF o a b) := by
  unfold cmpF
  split <;> (try split) <;> first | exact nox_rb _ | exact nox_fail | (split <;> first | exact nox_rb _ | exact nox_fail)
theorem nox_nth : ∀ (xs : List PyData) (n : Nat), NoX (nthF xs n)
  | [], _ => nox_fail
  | x :: xs, 0 => nox_ok _
  | x :: xs, n + 1 => nox_nth xs n
theorem nox_nthS : ∀ (xs : List Nat) (n : Nat), NoX (nthS xs n)
  | [], _ => nox_fail
  | x :: xs, 0 => nox_ok _
  | x :: xs, n + 1 => nox_nthS xs n
theorem nox_ix (a b : PyData) : NoX (ixF a b) := by
  unfold ixF
  split <;> first | exact nox_fail | (split <;> first | exact nox_fail | exact nox_nth _ _ | exact nox_nthS _ _)
theorem nox_sl (a b c : PyData) : NoX (slF a b c) := by
  unfold slF
  split <;> first | exact nox_fail | (split <;> first | exact nox_ok _ | exact nox_fail)
theorem nox_sum : ∀ (xs : List PyData) (a : Int), NoX (sumF xs a)
  | [], _ => nox_ok _
  | x :: xs, a => by
    cases x with
    | int i => exact nox_sum xs (Int.add a i)
    | _ => exact nox_fail
theorem nox_ext (f : Int → Int → Bool) : ∀ (xs : List PyData) (a : Int), NoX (extI f xs a)
  | [], _ => nox_ok _
  | x :: xs, a => by
    cases x with
    | int i =>
      show NoX (match f i a with | true => extI f xs i | false => extI f xs a)
      exact nox_m (nox_ext f xs i) (nox_ext f xs a)
    | _ => exact nox_fail
theorem nox_ext2 (f : Int → Int → Bool) (as : List PyData) : NoX (ext2 f as) := by
  unfold ext2
  split <;> first | exact nox_ext _ _ _ | exact nox_fail | (split <;> exact nox_ok _)
theorem nox_sort (lt : PyData → PyData → Bool) (a : PyData) : NoX (sortG lt a) := by
  unfold sortG
  split <;> first | exact nox_fail | (split <;> first | exact nox_ok _ | exact nox_fail)
theorem nox_blt (f : Bf) (as : List PyData) : NoX (bltF f as) := by
  unfold bltF
  split <;> first | exact nox_ok _ | exact nox_fail | exact nox_rb _ | exact nox_sum _ _ | exact nox_ext2 _ _ | exact nox_sort _ _ | exact nox_m (nox_ok _) nox_fail | (split <;> first | exact nox_ok _ | exact nox_fail)

theorem nox_kin (n : Bool) (kvs : List (Str × Int)) (a : PyData) : NoX (kinF n kvs a) := by
  unfold kinF
  split <;> first | exact nox_fail | (split <;> first | exact nox_rb _ | exact nox_fail)
theorem nox_kget (kvs : List (Str × Int)) (a : PyData) : NoX (kgetF kvs a) := by
  unfold kgetF
  split <;> first | exact nox_fail | (split <;> first | exact nox_ok _ | exact nox_fail)
theorem nox_lixL (x : PyData) : ∀ (xs : List PyData) (n : Nat), NoX (lixL x xs n)
  | [], _ => nox_fail
  | y :: ys, n => nox_m (nox_ok _) (nox_lixL x ys _)
theorem nox_lix (a : List PyData) (b : PyData) : NoX (lixF a b) := by
  unfold lixF
  split <;> first | exact nox_fail | exact nox_lixL _ _ _
theorem nox_spl (a : Str) (b : PyData) : NoX (splF a b) := by
  unfold splF
  split <;> first | exact nox_fail | (split <;> first | exact nox_ok _ | exact nox_fail)
theorem nox_rep (a b : PyData) : NoX (repR a b) := by
  unfold repR
  split <;> first | exact nox_fail | (split <;> first | exact nox_ok _ | exact nox_fail)
/-! ### the judgements -/
def str : X → Bool
  | .pk _ => false
  | .ite _ a b => str a && str b
  | _ => true
def strA : X → Bool
  | .cons a b => str a && strA b
  | _ => true
def frs : X → Bool
  | .lst _ => true | .bin _ _ _ => true | .sl _ _ _ => true | .blt _ _ => true | .comp _ _ _ _ _ => true | .spl _ _ => true | .rep _ _ => true | .comp2 _ _ _ _ _ _ _ => true
  | _ => false
def Rs (b : Bool) (K : PySem.W.Frag) (B : Addr → Prop) (H : Hp) (v : V) (d : PyData) : Prop := match b with | true => Rp K B H v d | false => Rw K B H v d
structure Post (K : PySem.W.Frag) (T : List Addr) (B : Addr → Prop) (x : X) (H H' : Hp) (v : V) (d : PyData) : Prop where
  gr : Gr T H H'
  rs : Rs (str x) K B H' v d
  fr : frs x = true → Fresh K B H H' v d
/-- the evaluator's world: calls, tables, exceptions' classes -/
structure Wd where
  T : List Addr
  C : Nat → List PyData → R
  xv : Nat → Value
  wf : Nat
section
variable {Z : Wd} {X : Cx} {K : PySem.W.Frag} {B : Addr → Prop} {H H1 H2 H' : Hp} {v : V} {d : PyData} {Q : VK}
theorem Rs.rw {b : Bool} (r : Rs b K B H v d) : Rw K B H v d := by
  cases b with
  | true => exact .inl r
  | false => exact r
theorem Fresh.back {T : List Addr} (g : Gr T H H1) (t : Tabs T H) (f : Fresh K B H1 H' v d) : Fresh K B H H' v d := fun ds e => by
  obtain ⟨p, xs, h1, h2, h3, h4⟩ := f ds e
  refine ⟨p, xs, h1, ?_, h3, h4⟩
  cases q : H p with
  | none => rfl
  | some o =>
    by_cases hT : p ∈ T
    · obtain ⟨ps, e', _⟩ := g.2 p hT (t p hT)
      rw [h2] at e'; cases e'
    · rw [g.1 p o q hT] at h2; cases h2
def tE (Z : Wd) (K : PySem.W.Frag) (x : EV.X) (W : WX) : TE := fun σ H Q => ∃ B H0 A env, Rl K Z.T B H0 A env σ H ∧
  OkR (ev Z.C x env) (fun d => ∀ v H', Post K Z.T (Bt B A env) x H H' v d → Q v H') fun c => ∀ dd H', Gr Z.T H H' → W (Z.xv c) dd σ H'
def tT (Z : Wd) (K : PySem.W.Frag) (x : EV.X) (W : WX) : TT := fun σ H Q => ∃ B H0 A env, Rl K Z.T B H0 A env σ H ∧
  OkR (ev Z.C x env) (fun d => ∃ b, d = .bool b ∧ ∀ H', Gr Z.T H H' → Q b H') fun c => ∀ dd H', Gr Z.T H H' → W (Z.xv c) dd σ H'
def tA (Z : Wd) (K : PySem.W.Frag) (es : List Expr) (x : EV.X) (W : WX) : TA := fun σ H Q => ∃ B H0 A env, Rl K Z.T B H0 A env σ H ∧
  OkR (ev Z.C x env) (fun d => ∃ ds, d = .tuple ds ∧ ∀ vs H', Gr Z.T H H' → RwA K (Bt B A env) H' vs ds → (strA x = true → RpA K (Bt B A env) H' vs ds) → vs.length = es.length → Q vs H') fun c => ∀ dd H', Gr Z.T H H' → W (Z.xv c) dd σ H'
def SE (Z : Wd) (X : Cx) (e : Expr) (x : EV.X) : Prop := ∀ W, Takes X W → PE X e (tE Z X.K x W)
def STt (Z : Wd) (X : Cx) (e : Expr) (x : EV.X) : Prop := ∀ W, Takes X W → PT X e (tT Z X.K x W)
def SA (Z : Wd) (X : Cx) (es : List Expr) (x : EV.X) : Prop := ∀ W, Takes X W → PA X es (tA Z X.K es x W)
theorem PE.of {e : Expr} {t t' : TE} (h : PE X e t) (i : ∀ σ H Q, t' σ H Q → t σ H Q) : PE X e t' := ⟨fun pins s σ H Q I w => h.run pins s σ H Q I (i σ H Q w)⟩
theorem PT.of {e : Expr} {t t' : TT} (h : PT X e t) (i : ∀ σ H Q, t' σ H Q → t σ H Q) : PT X e t' := ⟨fun pins s σ H Q I w => h.run pins s σ H Q I (i σ H Q w)⟩
theorem PA.of {es : List Expr} {t t' : TA} (h : PA X es t) (i : ∀ σ H Q, t' σ H Q → t σ H Q) : PA X es t' := ⟨fun pos pins s σ H Q I w => h.run pos pins s σ H Q I (i σ H Q w)⟩
theorem Rl.pre {T : List Addr} {H0 : Hp} {A : Nat → List Addr} {env : List SV} {σ : L2.St} (r : Rl K T B H0 A env σ H) : Pre T (Bt B A env) H := by
  refine ⟨r.tabs, fun a h e => ?_⟩
  rcases h with h | ⟨i, ds, h, q⟩
  · exact r.dom a h e
  · obtain ⟨_, h2, _⟩ := r.own i ds h
    obtain ⟨u, e2, _⟩ := h2.dom a q
    rw [e] at e2; cases e2
/-- the last operation's answer, from what the rule gives -/
theorem post_of {x : EV.X} {T : List Addr} (g : Gr T H H1) (t : Tabs T H) {r : R} (hs : str x = true) (h : OkR r (fun d => ∀ v H', Post K T B x H H' v d → Q v H') fun _ => True) (n : NoX r) : Wn K T B H1 r Q :=
  OkR.nox n (OkR.imp h (fun d q v H' g' rp fr => q v H' ⟨g.trans g', by rw [hs]; exact rp, fun _ => fr.back g t⟩) fun _ z => z)
theorem post_old {x : EV.X} {T : List Addr} (g : Gr T H H1) (hs : str x = true) (hf : frs x = false) {r : R} (h : OkR r (fun d => ∀ v H', Post K T B x H H' v d → Q v H') fun _ => True) (n : NoX r) : Wo K T B H1 r Q :=
  OkR.nox n (OkR.imp h (fun d q v H' g' rp => q v H' ⟨g.trans g', by rw [hs]; exact rp, fun z => by rw [hf] at z; cases z⟩) fun _ z => z)
/-- two operands one after the other -/
theorem two_E {x y : EV.X} {W : WX} {σ : L2.St} {B : Addr → Prop} {H0 : Hp} {A : Nat → List Addr} {env : List SV} {f : PyData → PyData → R} {P : PyData → Prop} {Q : V → V → Hp → Prop} (rl : Rl K Z.T B H0 A env σ H)
    (h : OkR ((ev Z.C x env).bind fun a => (ev Z.C y env).bind fun b => f a b) P fun c => ∀ dd H', Gr Z.T H H' → W (Z.xv c) dd σ H')
    (k : ∀ a b v u H2, Gr Z.T H H2 → Rw K (Bt B A env) H2 v a → Rw K (Bt B A env) H2 u b → OkR (f a b) P (fun c => ∀ dd H', Gr Z.T H H' → W (Z.xv c) dd σ H') → Q v u H2) :
    tE Z K x W σ H fun v H1 => tE Z K y W σ H1 fun u H2 => Q v u H2 := by
  refine ⟨B, H0, A, env, rl, OkR.imp (OkR.bind h) (fun a h2 v H1 p1 => ⟨B, H0, A, env, rl.grow p1.gr, OkR.imp (OkR.bind h2) (fun b h3 u H2 p2 => ?_) fun c z dd H' g => z dd H' (p1.gr.trans g)⟩) fun c z => z⟩
  exact k a b v u H2 (p1.gr.trans p2.gr) (p1.rs.rw.grow p2.gr (rl.tabs.gr p1.gr)) p2.rs.rw h3
theorem one_E {x : EV.X} {W : WX} {σ : L2.St} {B : Addr → Prop} {H0 : Hp} {A : Nat → List Addr} {env : List SV} {f : PyData → R} {P : PyData → Prop} {Q : V → Hp → Prop} (rl : Rl K Z.T B H0 A env σ H)
    (h : OkR ((ev Z.C x env).bind f) P fun c => ∀ dd H', Gr Z.T H H' → W (Z.xv c) dd σ H')
    (k : ∀ a v H1, Post K Z.T (Bt B A env) x H H1 v a → OkR (f a) P (fun c => ∀ dd H', Gr Z.T H H' → W (Z.xv c) dd σ H') → Q v H1) : tE Z K x W σ H Q :=
  ⟨B, H0, A, env, rl, OkR.imp (OkR.bind h) (fun a h2 v H1 p1 => k a v H1 p1 h2) fun c z => z⟩

variable {e a b c : Expr} {x y z : EV.X} {pos : Pos}
theorem se_bin (o : Op) (ha : SE Z X a x) (hb : SE Z X b y) : SE Z X (.BinOp a (opA o) b pos) (.bin o x y) := fun W tk => by
  refine PE.of (pe_op (op_bin (T := Z.T) o) (ha W tk) (hb W tk)) fun σ H Q ⟨B, H0, A, env, rl, h⟩ => ?_
  refine two_E rl h fun p q v u H2 g r1 r2 h3 => ⟨Bt B A env, p, q, (rl.grow g).pre, r1, r2, post_of g rl.tabs rfl (OkR.imp h3 (fun _ z => z) fun _ _ => True.intro) (nox_bin o p q)⟩
theorem se_cmp (o : Cm) (hu : X.A.units + 64 < cLine) (ha : SE Z X a x) (hb : SE Z X b y) (hm : behindInMarks (cmA o) b = false) : SE Z X (.Compare a [cmA o] [b] pos) (.cmp o x y) := fun W tk => by
  refine PE.of (pe_cmpR (op_cmp (T := Z.T) o hu) (ha W tk) (hb W tk) hm) fun σ H Q ⟨B, H0, A, env, rl, h⟩ => ?_
  refine two_E rl h fun p q v u H2 g r1 r2 h3 => ⟨Bt B A env, p, q, (rl.grow g).pre, r1, r2, post_of g rl.tabs rfl (OkR.imp h3 (fun _ z => z) fun _ _ => True.intro) (nox_cmp o p q)⟩
theorem cmp_bool {o : Cm} {p q d : PyData} (h : cmpF o p q = .ok d) : ∃ b, d = .bool b := by
  unfold cmpF at h
  split at h <;> (try split at h) <;> first
    | (cases h; exact ⟨_, rfl⟩)
    | (cases h; done)
    | (split at h <;> first | (cases h; exact ⟨_, rfl⟩) | (cases h; done))
theorem st_cmp (o : Cm) (hu : X.A.units + 64 < cLine) (ha : SE Z X a x) (hb : SE Z X b y) (hm : behindInMarks (cmA o) b = false) : STt Z X (.Compare a [cmA o] [b] pos) (.cmp o x y) := fun W tk => by
  refine PT.of (pt_cmpR (op_cmp (T := Z.T) o hu) (ha W tk) (hb W tk) hm) fun σ H Q ⟨B, H0, A, env, rl, h⟩ => ?_
  refine two_E rl h fun p q v u H2 g r1 r2 h3 => ⟨Bt B A env, p, q, (rl.grow g).pre, r1, r2, ?_⟩
  refine OkR.nox (nox_cmp o p q) (OkR.imp h3 (fun d hd v' H' g' rp _ => ?_) fun _ _ => True.intro)
  obtain ⟨bb, e, q'⟩ := hd
  subst e
  exact ⟨bb, rp.bl_inv, q' H' (g.trans g')⟩
theorem se_ix (ha : SE Z X a x) (hb : SE Z X b y) (hs : PlainIx b) : SE Z X (.Subscript a b pos) (.ix x y) := fun W tk => by
  refine PE.of (pe_ix (ix_ix (T := Z.T)) (ha W tk) (hb W tk) hs) fun σ H Q ⟨B, H0, A, env, rl, h⟩ => ?_
  refine two_E rl h fun p q v u H2 g r1 r2 h3 => ⟨Bt B A env, p, q, (rl.grow g).pre, r1, r2, post_old g rfl rfl (OkR.imp h3 (fun _ z => z) fun _ _ => True.intro) (nox_ix p q)⟩
end
end ES
end

set_option Elab.async false
set_option linter.all false
set_option autoImplicit false
set_option maxRecDepth 100000
set_option maxHeartbeats 4000007
/-! ES6: the judgements' rules, form by form. -/
noncomputable section
namespace ES
open PySem PySem.Spec PyProof.Rows L2 EV GxR

section
variable {P : PyData → Prop} {Y : Nat → Prop}
theorem ok_b {x : PyData} {f g : R} (h : OkR (match x with | .bool true => f | .bool false => g | _ => .fail) P Y) : ∃ b, x = .bool b ∧ (if b = true then OkR f P Y else OkR g P Y) := by
  cases x with
  | bool b =>
    cases b
    · exact ⟨false, rfl, h⟩
    · exact ⟨true, rfl, h⟩
  | _ => exact h.elim
end
section
variable {Z : Wd} {X : Cx} {a b c e : Expr} {x y z : EV.X} {pos : Pos} {rest : List Expr} {B : Addr → Prop} {H H' : Hp} {v : V} {d : PyData}
theorem Post.refl_ {T : List Addr} {K : PySem.W.Frag} (hs : str x = true) (hf : frs x = false) (r : Rp K B H v d) : Post K T B x H H v d := ⟨Gr.refl, by rw [hs]; exact r, fun z => by rw [hf] at z; cases z⟩
theorem Post.gr_ {T : List Addr} {K : PySem.W.Frag} (g : Gr T H H') (hs : str x = true) (hf : frs x = false) (r : Rp K B H' v d) : Post K T B x H H' v d := ⟨g, by rw [hs]; exact r, fun z => by rw [hf] at z; cases z⟩
theorem se_v {i : Nat} {n : Str} (hN : X.N[i]? = some n) (hv : Vis X.env.scope n) (hd : (n == ("__debug__" : Str)) = false) (hc : (n == ("__classdict__" : Str)) = false) : SE Z X (.Name n pos) (.v i) := fun W tk => by
  refine PE.of (pe_var hN hv hd hc) fun σ H Q ⟨B, H0, A, env, rl, h⟩ => ?_
  have h : OkR (match getS env i with | .val d => .ok d | _ => .fail) _ _ := h
  cases q : getS env i with
  | val d =>
    rw [q] at h
    obtain ⟨v, h1, h2⟩ := rl.val i d q
    exact ⟨v, h1, h v H (.refl_ rfl rfl h2)⟩
  | non => rw [q] at h; exact h.elim
  | own ds => rw [q] at h; exact h.elim
theorem se_pk {i : Nat} {n : Str} (hN : X.N[i]? = some n) (hv : Vis X.env.scope n) (hd : (n == ("__debug__" : Str)) = false) (hc : (n == ("__classdict__" : Str)) = false) : SE Z X (.Name n pos) (.pk i) := fun W tk => by
  refine PE.of (pe_var hN hv hd hc) fun σ H Q ⟨B, H0, A, env, rl, h⟩ => ?_
  have h : OkR (match getS env i with | .val d => .ok d | .own (.lst ds) => .ok (.list ds) | _ => .fail) _ _ := h
  cases q : getS env i with
  | val d =>
    rw [q] at h
    obtain ⟨v, h1, h2⟩ := rl.val i d q
    exact ⟨v, h1, h v H ⟨Gr.refl, .inl h2, fun z => by cases z⟩⟩
  | non => rw [q] at h; exact h.elim
  | own o =>
    rw [q] at h
    cases o with
    | lst ds =>
      obtain ⟨xs, h1, h2, h3, _⟩ := rl.ownL i ds q
      exact ⟨_, h1, h _ H ⟨Gr.refl, .inr ⟨_, xs, ds, rfl, rfl, h2, h3⟩, fun z => by cases z⟩⟩
    | ll dss => exact h.elim
theorem se_tc {d : PyData} {v : V} (h : PE X e (tC v)) (r : ∀ B H, Rp X.K B H v d) : SE Z X e (.c d) := fun W tk =>
  PE.of h fun σ H Q ⟨B, H0, A, env, rl, h⟩ => h v H (.refl_ rfl rfl (r _ _))
theorem se_neg (ha : SE Z X a x) : SE Z X (.UnaryOp .USub a pos) (.neg x) := fun W tk => by
  refine PE.of (pe_un un_neg (ha W tk)) fun σ H Q ⟨B, H0, A, env, rl, h⟩ => ?_
  refine one_E rl h fun p v H1 p1 h3 => ?_
  cases p with
  | int i => exact ⟨i, p1.rs.rw.int, h3 _ _ (.gr_ p1.gr rfl rfl (.int _))⟩
  | _ => exact h3.elim
theorem se_no (ha : SE Z X a x) : SE Z X (.UnaryOp .Not a pos) (.no x) := fun W tk => by
  refine PE.of (pe_not (ha W tk)) fun σ H Q ⟨B, H0, A, env, rl, h⟩ => ?_
  refine one_E rl h fun p v H1 p1 h3 => ?_
  cases p with
  | bool b => exact ⟨b, p1.rs.rw.bl, h3 _ _ (.gr_ p1.gr rfl rfl (.bl _))⟩
  | _ => exact h3.elim
theorem se_one {op : BoolOp} (ha : SE Z X a x) : SE Z X (.BoolOp op [a] pos) x := fun W tk => pe_one (ha W tk)
theorem rest_E {W : WX} {σ : L2.St} {H0 H1 : Hp} {A : Nat → List Addr} {env : List SV} {Q : VK} {w : EV.X} {T : List Addr} {K : PySem.W.Frag} {C : Nat → List PyData → R} {xv : Nat → Value} {wf : Nat} (g : Gr T H H1) (rl : Rl K T B H0 A env σ H) (hs : str w = true) (hf : frs w = false) (ht : str y = true)
    (h : OkR (ev C y env) (fun d => ∀ v H', Post K T (Bt B A env) w H H' v d → Q v H') fun c => ∀ dd H', Gr T H H' → W (xv c) dd σ H') : tE ⟨T, C, xv, wf⟩ K y W σ H1 Q :=
  ⟨B, H0, A, env, rl.grow g, OkR.imp h (fun d q v H' p => q v H' (.gr_ (g.trans p.gr) hs hf (by have := p.rs; rw [ht] at this; exact this))) fun c z dd H' g' => z dd H' (g.trans g')⟩
theorem se_and (ha : SE Z X a x) (hb : SE Z X (.BoolOp .And (b :: rest) pos) y) (hy : str y = true) : SE Z X (.BoolOp .And (a :: b :: rest) pos) (.and x y) := fun W tk => by
  refine PE.of (pe_and (ha W tk) (hb W tk)) fun σ H Q ⟨B, H0, A, env, rl, h⟩ => ?_
  refine one_E rl h fun p v H1 p1 h3 => ?_
  obtain ⟨k, e, h4⟩ := ok_b h3
  subst e
  refine ⟨k, p1.rs.rw.bl, ?_⟩
  cases k with
  | true => exact rest_E (w := .and x y) p1.gr rl rfl rfl hy h4
  | false => exact h4 _ _ (.gr_ p1.gr rfl rfl (.bl _))
theorem se_or (ha : SE Z X a x) (hb : SE Z X (.BoolOp .Or (b :: rest) pos) y) (hy : str y = true) : SE Z X (.BoolOp .Or (a :: b :: rest) pos) (.or x y) := fun W tk => by
  refine PE.of (pe_or (ha W tk) (hb W tk)) fun σ H Q ⟨B, H0, A, env, rl, h⟩ => ?_
  refine one_E rl h fun p v H1 p1 h3 => ?_
  cases p with
  | bool k =>
    refine ⟨k, p1.rs.rw.bl, ?_⟩
    cases k with
    | false => exact rest_E (w := .or x y) p1.gr rl rfl rfl hy h3
    | true => exact h3 _ _ (.gr_ p1.gr rfl rfl (.bl _))
  | _ => exact h3.elim
/-! ### tests -/
theorem one_T {W : WX} {σ : L2.St} {H0 : Hp} {A : Nat → List Addr} {env : List SV} {f : PyData → R} {P : PyData → Prop} {Q : Bool → Hp → Prop} (rl : Rl X.K Z.T B H0 A env σ H)
    (h : OkR ((ev Z.C x env).bind f) P fun c => ∀ dd H', Gr Z.T H H' → W (Z.xv c) dd σ H')
    (k : ∀ b H1, Gr Z.T H H1 → OkR (f (.bool b)) P (fun c => ∀ dd H', Gr Z.T H H' → W (Z.xv c) dd σ H') → Q b H1) (hb : ∀ d, OkR (f d) P (fun c => ∀ dd H', Gr Z.T H H' → W (Z.xv c) dd σ H') → ∃ b, d = .bool b) : tT Z X.K x W σ H Q :=
  ⟨B, H0, A, env, rl, OkR.imp (OkR.bind h) (fun a h2 => by
    obtain ⟨b, e⟩ := hb a h2
    subst e
    exact ⟨b, rfl, fun H1 g => k b H1 g h2⟩) fun c z => z⟩
theorem rest_T {W : WX} {σ : L2.St} {H0 H1 : Hp} {A : Nat → List Addr} {env : List SV} {Q : Bool → Hp → Prop} (g : Gr Z.T H H1) (rl : Rl X.K Z.T B H0 A env σ H)
    (h : OkR (ev Z.C y env) (fun d => ∃ b, d = .bool b ∧ ∀ H', Gr Z.T H H' → Q b H') fun c => ∀ dd H', Gr Z.T H H' → W (Z.xv c) dd σ H') : tT Z X.K y W σ H1 Q :=
  ⟨B, H0, A, env, rl.grow g, OkR.imp h (fun d ⟨b, e, q⟩ => ⟨b, e, fun H' g' => q H' (g.trans g')⟩) fun c z dd H' g' => z dd H' (g.trans g')⟩
theorem st_val (ha : SE Z X e x) (he : ∀ whole, isTrue e X.env whole = (do let v ← whole; standAt e.pos; holding [v] (truthy v))) : STt Z X e x := fun W tk => by
  refine PT.of (pt_val (ha W tk) he) fun σ H Q ⟨B, H0, A, env, rl, h⟩ => ?_
  refine ⟨B, H0, A, env, rl, OkR.imp h (fun d ⟨b, e, q⟩ v H' p => ?_) fun c z => z⟩
  subst e
  exact ⟨b, p.rs.rw.bl, q H' p.gr⟩
theorem st_no (ha : STt Z X a x) : STt Z X (.UnaryOp .Not a pos) (.no x) := fun W tk => by
  refine PT.of (pt_not (ha W tk)) fun σ H Q ⟨B, H0, A, env, rl, h⟩ => ?_
  refine one_T rl h (fun b H1 g h3 => ?_) fun d h3 => ?_
  · obtain ⟨b', e, q⟩ := h3
    cases e
    exact q H1 g
  · cases d with
    | bool b => exact ⟨b, rfl⟩
    | _ => exact h3.elim
/-- what a row of tests is -/
def SW (Z : Wd) (X : Cx) (e : Expr) (x : EV.X) : Prop := ∀ W, Takes X W → PW X e (tT Z X.K x W)
theorem PW.of {t t' : TT} (h : PW X e t) (i : ∀ σ H Q, t' σ H Q → t σ H Q) : PW X e t' := ⟨fun whole pins s σ H Q I w => h.run whole pins s σ H Q I (i σ H Q w)⟩
theorem sw_st (h : SW Z X e x) : STt Z X e x := fun W tk => (h W tk).pt
theorem sw_and1 (ha : STt Z X a x) : SW Z X (.BoolOp .And [a] pos) x := fun W tk => pw_and1 (ha W tk)
theorem sw_or1 (ha : STt Z X a x) : SW Z X (.BoolOp .Or [a] pos) x := fun W tk => pw_or1 (ha W tk)
theorem sw_and (ha : STt Z X a x) (hb : SW Z X (.BoolOp .And (b :: rest) pos) y) : SW Z X (.BoolOp .And (a :: b :: rest) pos) (.and x y) := fun W tk => by
  refine PW.of (pw_and (ha W tk) (hb W tk)) fun σ H Q ⟨B, H0, A, env, rl, h⟩ => ?_
  refine one_T rl h (fun k H1 g h3 => ?_) fun d h3 => ?_
  · cases k with
    | true => exact rest_T g rl h3
    | false =>
      obtain ⟨b', e, q⟩ := h3
      cases e
      exact q H1 g
  · cases d with
    | bool b => exact ⟨b, rfl⟩
    | _ => exact h3.elim
theorem sw_or (ha : STt Z X a x) (hb : SW Z X (.BoolOp .Or (b :: rest) pos) y) : SW Z X (.BoolOp .Or (a :: b :: rest) pos) (.or x y) := fun W tk => by
  refine PW.of (pw_or (ha W tk) (hb W tk)) fun σ H Q ⟨B, H0, A, env, rl, h⟩ => ?_
  refine one_T rl h (fun k H1 g h3 => ?_) fun d h3 => ?_
  · cases k with
    | false => exact rest_T g rl h3
    | true =>
      obtain ⟨b', e, q⟩ := h3
      cases e
      exact q H1 g
  · cases d with
    | bool b => exact ⟨b, rfl⟩
    | _ => exact h3.elim
/-! ### a if c else b -/
theorem se_ite (hc : STt Z X c z) (ha : SE Z X a x) (hb : SE Z X b y) : SE Z X (.IfExp c a b pos) (.ite z x y) := fun W tk => by
  refine PE.of (pe_ifExp (hc W tk) (ha W tk) (hb W tk)) fun σ H Q ⟨B, H0, A, env, rl, h⟩ => ?_
  have h : OkR ((ev Z.C z env).bind fun r => match r with | .bool true => ev Z.C x env | .bool false => ev Z.C y env | _ => .fail) _ _ := h
  refine one_T rl h (fun k H1 g h3 => ?_) fun d h3 => ?_
  · cases k with
    | true =>
      have h4 : OkR (ev Z.C x env) _ _ := h3
      refine ⟨B, H0, A, env, rl.grow g, OkR.imp h4 (fun d q v H' p => q v H' ⟨g.trans p.gr, ?_, fun z => by cases z⟩) fun c z dd H' g' => z dd H' (g.trans g')⟩
      show Rs (str x && str y) _ _ _ _ _
      have r := p.rs
      cases hx : str x with
      | false => exact r.rw
      | true =>
        rw [hx] at r
        cases str y with
        | false => exact Rs.rw r
        | true => exact r
    | false =>
      have h4 : OkR (ev Z.C y env) _ _ := h3
      refine ⟨B, H0, A, env, rl.grow g, OkR.imp h4 (fun d q v H' p => q v H' ⟨g.trans p.gr, ?_, fun z => by cases z⟩) fun c z dd H' g' => z dd H' (g.trans g')⟩
      show Rs (str x && str y) _ _ _ _ _
      have r := p.rs
      cases hy : str y with
      | false => rw [Bool.and_false]; exact r.rw
      | true =>
        rw [hy] at r
        cases str x with
        | false => exact Rs.rw r
        | true => exact r
  · cases d with
    | bool b => exact ⟨b, rfl⟩
    | _ => exact h3.elim
/-! ### a < b < c -/
theorem nox_exc {P : PyData → Prop} {Y Y' : Nat → Prop} {r : R} {f : PyData → R} (n : NoX r) (h : OkR (r.bind f) P Y) : OkR r (fun d => OkR (f d) P Y) Y' := by
  cases r with
  | ok d => exact h
  | exc c => exact absurd rfl (n c)
  | fail => exact h
theorem se_chn (o p : Cm) (hu : X.A.units + 64 < cLine) (ha : SE Z X a x) (hb : SE Z X b y) (hc : SE Z X c z) (hm : lastMarks [cmA o, cmA p] [b, c] = false) : SE Z X (.Compare a [cmA o, cmA p] [b, c] pos) (.chn o p x y z) := fun W tk => by
  refine PE.of (pe_chain (op_cmp (T := Z.T) o hu) (op_cmp (T := Z.T) p hu) (ha W tk) (hb W tk) (hc W tk) hm) fun σ H Q ⟨B, H0, A, env, rl, h⟩ => ?_
  refine two_E rl h fun i j v u H2 g r1 r2 h3 => ⟨Bt B A env, i, j, (rl.grow g).pre, r1, r2, ?_⟩
  refine nox_exc (nox_cmp o i j) (OkR.imp h3 (fun d q => q) fun _ z => z) |>.imp (fun d hd v' H' g' rp _ => ?_) fun _ z => z
  have gg := g.trans g'
  obtain ⟨k, e, h4⟩ := ok_b hd
  subst e
  refine ⟨k, rp.bl_inv, ?_⟩
  cases k with
  | false => exact h4 _ _ (.gr_ gg rfl rfl (.bl _))
  | true =>
    have h4 : OkR ((ev Z.C z env).bind fun z => cmpF p j z) _ _ := h4
    refine ⟨B, H0, A, env, rl.grow gg, OkR.imp (OkR.bind h4) (fun q h5 t H4 p4 => ?_) fun c z dd H' g'' => z dd H' (gg.trans g'')⟩
    have g4 := gg.trans p4.gr
    refine ⟨Bt B A env, j, q, (rl.grow g4).pre, r2.grow (g'.trans p4.gr) (rl.tabs.gr g), p4.rs.rw, ?_⟩
    refine OkR.nox (nox_cmp p j q) (OkR.imp h5 (fun d hd v' H' g' rp fr => hd v' H' (.gr_ (g4.trans g') rfl rfl rp)) fun _ z => z)
theorem st_chn (o p : Cm) (hu : X.A.units + 64 < cLine) (ha : SE Z X a x) (hb : SE Z X b y) (hc : SE Z X c z) (hm : lastMarks [cmA o, cmA p] [b, c] = false) : STt Z X (.Compare a [cmA o, cmA p] [b, c] pos) (.chn o p x y z) := fun W tk => by
  refine PT.of (pt_chain (op_cmp (T := Z.T) o hu) (op_cmp (T := Z.T) p hu) (ha W tk) (hb W tk) (hc W tk) hm) fun σ H Q ⟨B, H0, A, env, rl, h⟩ => ?_
  refine two_E rl h fun i j v u H2 g r1 r2 h3 => ⟨Bt B A env, i, j, (rl.grow g).pre, r1, r2, ?_⟩
  refine nox_exc (nox_cmp o i j) (OkR.imp h3 (fun d q => q) fun _ z => z) |>.imp (fun d hd v' H' g' rp _ => ?_) fun _ z => z
  have gg := g.trans g'
  obtain ⟨k, e, h4⟩ := ok_b hd
  subst e
  refine ⟨k, rp.bl_inv, ?_⟩
  cases k with
  | false =>
    obtain ⟨b', e, q⟩ := h4
    cases e
    exact ⟨_, rfl, q H' gg⟩
  | true =>
    have h4 : OkR ((ev Z.C z env).bind fun z => cmpF p j z) _ _ := h4
    refine ⟨B, H0, A, env, rl.grow gg, OkR.imp (OkR.bind h4) (fun q h5 t H4 p4 => ?_) fun c z dd H' g'' => z dd H' (gg.trans g'')⟩
    have g4 := gg.trans p4.gr
    refine ⟨Bt B A env, j, q, (rl.grow g4).pre, r2.grow (g'.trans p4.gr) (rl.tabs.gr g), p4.rs.rw, ?_⟩
    refine OkR.nox (nox_cmp p j q) (OkR.imp h5 (fun d hd v' H' g' rp fr => ?_) fun _ z => z)
    obtain ⟨b', e, q⟩ := hd
    subst e
    exact ⟨_, rp.bl_inv, q H' (g4.trans g')⟩
/-! ### slices -/
/-- a part of a slice -/
def SO (Z : Wd) (X : Cx) (e : Option Expr) (x : EV.X) : Prop := match e with
  | none => x = .c .none
  | some e => ∃ y, x = .bin .add y (.c (.int 0)) ∧ SE Z X e y
theorem so_po {e : Option Expr} (h : SO Z X e x) {W : WX} (tk : Takes X W) : ∃ t : TO, PO X e t ∧ ∀ {σ : L2.St} {B : Addr → Prop} {H0 : Hp} {A : Nat → List Addr} {env : List SV} {H : Hp} {f : PyData → R} {P : PyData → Prop} {Q : Option Int → Hp → Prop}, Rl X.K Z.T B H0 A env σ H →
    OkR ((ev Z.C x env).bind f) P (fun c => ∀ dd H', Gr Z.T H H' → W (Z.xv c) dd σ H') →
    (∀ d o H1, Gr Z.T H H1 → PartIs o d → OkR (f d) P (fun c => ∀ dd H', Gr Z.T H H' → W (Z.xv c) dd σ H') → Q o H1) → t σ H Q := by
  cases e with
  | none =>
    have h : x = .c .none := h
    subst h
    exact ⟨_, po_none, fun rl h k => k .none none _ Gr.refl (.inl ⟨rfl, rfl⟩) h⟩
  | some e =>
    obtain ⟨y, ex, hy⟩ := h
    subst ex
    refine ⟨_, po_some (hy W tk), fun {σ B H0 A env H f P Q} rl h k => ?_⟩
    have h : OkR (((ev Z.C y env).bind fun d => binF .add d (.int 0)).bind f) P _ := h
    refine ⟨B, H0, A, env, rl, OkR.imp (OkR.bind (OkR.bind h)) (fun d h2 v H1 p1 => ?_) fun c z => z⟩
    cases d with
    | int i =>
      refine ⟨i, p1.rs.rw.int, k (.int i) (some i) H1 p1.gr (.inr ⟨i, rfl, rfl⟩) ?_⟩
      have h2 : OkR (f (.int (Int.add i 0))) _ _ := h2
      have e0 : Int.add i 0 = i := Int.add_zero i
      rw [e0] at h2
      exact h2
    | _ => exact h2.elim
theorem se_sl {lo hi : Option Expr} {p2 : Pos} (ha : SE Z X a x) (hl : SO Z X lo y) (hh : SO Z X hi z) : SE Z X (.Subscript a (.Slice lo hi none p2) pos) (.sl x y z) := fun W tk => by
  obtain ⟨tl, pl, hl⟩ := so_po hl tk
  obtain ⟨th, ph, hh⟩ := so_po hh tk
  refine PE.of (pe_slice (sl_sl (T := Z.T)) (ha W tk) pl ph) fun σ H Q ⟨B, H0, A, env, rl, h⟩ => ?_
  refine one_E rl h fun p v H1 p1 h3 => ?_
  refine hl (rl.grow p1.gr) (h3.imp (fun _ z => z) fun c z dd H' g => z dd H' (p1.gr.trans g)) fun dl ol H2 g2 pl2 h4 => ?_
  have g12 := p1.gr.trans g2
  refine hh (rl.grow g12) (h4.imp (fun _ z => z) fun c z dd H' g => z dd H' (g2.trans g)) fun dh oh H3 g3 ph3 h5 => ?_
  have g := g12.trans g3
  exact ⟨Bt B A env, p, dl, dh, (rl.grow g).pre, p1.rs.rw.grow (g2.trans g3) (rl.tabs.gr p1.gr), pl2, ph3, post_of g rl.tabs rfl (OkR.imp h5 (fun _ z => z) fun _ _ => True.intro) (nox_sl p dl dh)⟩
/-! ### rows of operands -/
def nst (e : Expr) : Bool := match e with | .Starred .. => false | _ => true
theorem star_of {e : Expr} {es : List Expr} (h : nst e = true) (env : Env) : starEach (e :: es) env = (false, eval e env) :: starEach es env := by
  cases e <;> first | rfl | (cases h)
def nstL : List Expr → Bool
  | [] => true
  | e :: es => nst e && nstL es
theorem stars_of {pos : Pos} : ∀ {es : List Expr} (h : nstL es = true) (env : Env), (backTo pos (starEach es env)).any (·.1) = false
  | [], _, _ => rfl
  | e :: es, h, env => by
    rw [nstL, Bool.and_eq_true] at h
    rw [star_of h.1]
    exact stars_of h.2 env
theorem sa_nil : SA Z X [] .nil := fun W tk => PA.of pa_nil fun σ H Q ⟨B, H0, A, env, rl, h⟩ => by
  obtain ⟨ds, e, q⟩ := h
  cases e
  exact q [] H Gr.refl .nil (fun _ => .nil) rfl
theorem sa_cons {es : List Expr} (ha : SE Z X e x) (hb : SA Z X es y) (hn : nst e = true) : SA Z X (e :: es) (.cons x y) := fun W tk => by
  refine PA.of (pa_cons (ha W tk) (hb W tk) (star_of hn _)) fun σ H Q ⟨B, H0, A, env, rl, h⟩ => ?_
  refine one_E rl h fun p v H1 p1 h3 => ?_
  refine ⟨B, H0, A, env, rl.grow p1.gr, OkR.imp (OkR.bind h3) (fun d h4 => ?_) fun c z dd H' g => z dd H' (p1.gr.trans g)⟩
  cases d with
  | tuple ds =>
    obtain ⟨ds', e, q⟩ := h4
    cases e
    have t1 := rl.tabs.gr p1.gr
    refine ⟨ds, rfl, fun vs H2 g r rs hl => q (v :: vs) H2 (p1.gr.trans g) (.cons (p1.rs.rw.grow g t1) r) (fun hs => ?_) (congrArg Nat.succ hl)⟩
    have hs : (str x && strA y) = true := hs
    rw [Bool.and_eq_true] at hs
    have r1 := p1.rs
    rw [hs.1] at r1
    exact .cons (Rp.grow g t1 r1) (rs hs.2)
  | _ => exact h4.elim
def len1 (es : List Expr) : Bool := Nat.ble es.length 16000000
theorem len1_le {es : List Expr} {vs : List V} (h : len1 es = true) (hl : vs.length = es.length) : vs.length ≤ sizeLine := by
  have h2 : es.length ≤ 16000000 := Nat.le_of_ble_eq_true h
  have : sizeLine = 16777216 := rfl
  omega
def isTup (x : EV.X) : Bool := match x with | .nil => true | .cons _ _ => true | _ => false
theorem ev_tup {C : Nat → List PyData → R} {env : List SV} (h : isTup x = true) {P : PyData → Prop} {Y : Nat → Prop} (k : OkR (ev C x env) P Y) : OkR (ev C x env) (fun d => P d ∧ ∃ ds, d = .tuple ds) Y := by
  cases x with
  | nil => exact ⟨k, [], rfl⟩
  | cons a b =>
    have k : OkR ((ev C a env).bind fun x => (ev C b env).bind fun y => match y with | .tuple ys => .ok (.tuple (x :: ys)) | _ => .fail) P Y := k
    show OkR ((ev C a env).bind fun x => (ev C b env).bind fun y => match y with | .tuple ys => .ok (.tuple (x :: ys)) | _ => .fail) _ Y
    cases ea : ev C a env with
    | ok u =>
      rw [ea] at k
      cases eb : ev C b env with
      | ok w =>
        rw [eb] at k
        cases w with
        | tuple ys => exact ⟨k, _, rfl⟩
        | _ => exact k.elim
      | exc c => rw [eb] at k; exact k
      | fail => rw [eb] at k; exact k
    | exc c => rw [ea] at k; exact k
    | fail => rw [ea] at k; exact k
  | _ => cases h
theorem tup_str (h : isTup x = true) : str x = true ∧ frs x = false := by
  cases x <;> first | exact ⟨rfl, rfl⟩ | cases h
/-- a tuple's display; strict places -/
theorem se_tup {es : List Expr} {k : Nat} (ha : SA Z X es x) (hs : strA x = true) (hl : len1 es = true) (ht : isTup x = true) : SE Z X (.Tuple es k pos) x := fun W tk => by
  refine PE.of (pe_tup (ha W tk)) fun σ H Q ⟨B, H0, A, env, rl, h⟩ => ?_
  refine ⟨B, H0, A, env, rl, OkR.imp (ev_tup ht h) (fun d q => ?_) fun c z => z⟩
  obtain ⟨q, ds, e⟩ := q
  subst e
  refine ⟨ds, rfl, fun vs H1 g r rs hlen => ⟨len1_le hl hlen, fun p hp => ?_⟩⟩
  exact wn_tup (rl.grow g).pre (rs hs) hp (T := Z.T) (post_of (x := x) g rl.tabs (tup_str ht).1 (r := .ok (.tuple ds)) q (nox_ok _))
theorem se_lst {es : List Expr} (ha : SA Z X es x) (hs : strA x = true) (hl : len1 es = true) : SE Z X (.List es pos) (.lst x) := fun W tk => by
  refine PE.of (pe_lst (ha W tk)) fun σ H Q ⟨B, H0, A, env, rl, h⟩ => ?_
  refine ⟨B, H0, A, env, rl, OkR.imp (OkR.bind h) (fun d q => ?_) fun c z => z⟩
  cases d with
  | tuple ds =>
    refine ⟨ds, rfl, fun vs H1 g r rs hlen => ⟨len1_le hl hlen, fun p hp => ?_⟩⟩
    exact wn_lst (rl.grow g).pre (rs hs) hp (T := Z.T) (post_of (x := .lst x) g rl.tabs rfl (r := .ok (.list ds)) q (nox_ok _))
  | _ => exact q.elim
/-! ### built-in functions -/
theorem se_blt {f : Bf} {es : List Expr} {n : Str} {id : String} {p : Pos} (hc : CallR X (.builtin id) (rBlt X.K Z.T f)) (hg : Gl X n) (hm : X.mg n = none) (hv : bootBuiltins n = some (.builtin id)) (ha : SA Z X (e :: es) x) (hn : n ≠ "__name__") (hdb : (n == ("__debug__" : Str)) = false) (hs : nstL (e :: es) = true) :
    SE Z X (.Call (.Name n p) (e :: es) [] pos) (.blt f x) := fun W tk => by
  have hs' := hs
  rw [nstL, Bool.and_eq_true] at hs'
  refine PE.of (pe_callB hc hg hm hv (ha W tk) hn hdb (star_of hs'.1 _) (stars_of hs'.2 _)) fun σ H Q ⟨B, H0, A, env, rl, h⟩ => ?_
  refine ⟨B, H0, A, env, rl, OkR.imp (OkR.bind h) (fun d q => ?_) fun c z => z⟩
  cases d with
  | tuple ds => exact ⟨ds, rfl, fun vs H1 g r rs hl => ⟨Bt B A env, ds, (rl.grow g).pre, r, post_of (x := .blt f x) g rl.tabs rfl (OkR.imp q (fun _ z => z) fun _ _ => True.intro) (nox_blt f ds)⟩⟩
  | _ => exact q.elim
theorem se_bltT {f : Bf} {es : List Expr} {n : Str} {id : String} {p : Pos} (hc : CallR X (.type id) (rBlt X.K Z.T f)) (hg : Gl X n) (hm : X.mg n = none) (hv : bootBuiltins n = some (.type id)) (ha : SA Z X (e :: es) x) (hn : n ≠ "__name__") (hdb : (n == ("__debug__" : Str)) = false) (hs : nstL (e :: es) = true) :
    SE Z X (.Call (.Name n p) (e :: es) [] pos) (.blt f x) := fun W tk => by
  have hs' := hs
  rw [nstL, Bool.and_eq_true] at hs'
  refine PE.of (pe_callTy hc hg hm hv (ha W tk) hn hdb (star_of hs'.1 _) (stars_of hs'.2 _)) fun σ H Q ⟨B, H0, A, env, rl, h⟩ => ?_
  refine ⟨B, H0, A, env, rl, OkR.imp (OkR.bind h) (fun d q => ?_) fun c z => z⟩
  cases d with
  | tuple ds => exact ⟨ds, rfl, fun vs H1 g r rs hl => ⟨Bt B A env, ds, (rl.grow g).pre, r, post_of (x := .blt f x) g rl.tabs rfl (OkR.imp q (fun _ z => z) fun _ _ => True.intro) (nox_blt f ds)⟩⟩
  | _ => exact q.elim
end

/-! ### a written table -/
/-- the table at a name of the module: texts, an int each -/
def KTab (mg : Str → Option Value) (K : PySem.W.Frag) (w : World) (g : Str) (kvs : List (Str × Int)) : Prop :=
  ∃ (d : Addr) (es : Array DictEntry) (n : Nat), mg g = some (.ref d) ∧ KDict K w d es n ∧ ∀ q ∈ kvs, ∃ t, PySem.W.nsIn K d q.1 = some (some (.int q.2 t))
theorem kvF_mem {x : Str} {i : Int} : ∀ {kvs : List (Str × Int)}, kvF x kvs = some i → (x, i) ∈ kvs
  | [], h => by cases h
  | p :: r, h => by
    have h : (match decide (p.1 = x) with | true => some p.2 | false => kvF x r) = some i := h
    by_cases q : p.1 = x
    · rw [decide_eq_true q] at h
      cases h
      rw [← q]
      exact List.mem_cons_self ..
    · rw [decide_eq_false q] at h
      exact List.mem_cons_of_mem _ (kvF_mem h)
theorem kin_ok {n : Bool} {kvs : List (Str × Int)} {d : PyData} {P : PyData → Prop} {Y : Nat → Prop} (h : OkR (kinF n kvs d) P Y) : ∃ x i, d = .str x ∧ (x, i) ∈ kvs ∧ P (.bool (!n)) := by
  unfold kinF at h
  split at h
  · split at h
    · rename_i e
      exact ⟨_, _, rfl, kvF_mem e, h⟩
    · exact h.elim
  · exact h.elim
theorem kget_ok {kvs : List (Str × Int)} {d : PyData} {P : PyData → Prop} {Y : Nat → Prop} (h : OkR (kgetF kvs d) P Y) : ∃ x i, d = .str x ∧ (x, i) ∈ kvs ∧ P (.int i) := by
  unfold kgetF at h
  split at h
  · split at h
    · rename_i e
      exact ⟨_, _, rfl, kvF_mem e, h⟩
    · exact h.elim
  · exact h.elim
section
variable {Z : Wd} {X : Cx} {a b : Expr} {x y : EV.X} {pos p : Pos} {g : Str} {kvs : List (Str × Int)}
theorem se_kget (kt : KTab X.mg X.K X.w g kvs) (hg : Gl X g) (hdb : (g == ("__debug__" : Str)) = false) (ha : SE Z X a x) (hs : PlainIx a) : SE Z X (.Subscript (.Name g p) a pos) (.kget kvs x) := fun W tk => by
  obtain ⟨d, es, n, hm, D, hv⟩ := kt
  refine PE.of (pe_ix ix_kdict (pe_glob (v := .ref d) hg hm rfl hdb) (ha W tk) hs) fun σ H Q ⟨B, H0, A, env, rl, h⟩ => ?_
  refine one_E rl h fun p v H1 p1 h3 => ?_
  obtain ⟨z, i, e, hmem, q⟩ := kget_ok h3
  subst e
  obtain ⟨t, ht⟩ := hv _ hmem
  exact ⟨d, z, .int i, rfl, p1.rs.rw.str, ⟨es, n, _, D.at_, D.lit, ht, ⟨t, rfl⟩⟩, q _ _ (.gr_ p1.gr rfl rfl (.int _))⟩
theorem se_kin (neg : Bool) (kt : KTab X.mg X.K X.w g kvs) (hg : Gl X g) (hdb : (g == ("__debug__" : Str)) = false) (ha : SE Z X a x) (hm : behindInMarks (if neg = true then .NotIn else .In) (.Name g p) = false) : SE Z X (.Compare a [if neg = true then .NotIn else .In] [.Name g p] pos) (.kin neg kvs x) := fun W tk => by
  obtain ⟨d, es, n, hm', D, hv⟩ := kt
  cases neg with
  | true =>
    refine PE.of (pe_cmpR (op_notIn_kd D) (ha W tk) (pe_glob (v := .ref d) hg hm' rfl hdb) hm) fun σ H Q ⟨B, H0, A, env, rl, h⟩ => ?_
    refine one_E rl h fun p v H1 p1 h3 => ?_
    obtain ⟨z, i, e, hmem, q⟩ := kin_ok h3
    subst e
    obtain ⟨t, ht⟩ := hv _ hmem
    exact ⟨z, _, p1.rs.rw.str, rfl, ht, q _ _ (.gr_ p1.gr rfl rfl (.bl _))⟩
  | false =>
    refine PE.of (pe_cmpR (op_in_kd D) (ha W tk) (pe_glob (v := .ref d) hg hm' rfl hdb) hm) fun σ H Q ⟨B, H0, A, env, rl, h⟩ => ?_
    refine one_E rl h fun p v H1 p1 h3 => ?_
    obtain ⟨z, i, e, hmem, q⟩ := kin_ok h3
    subst e
    obtain ⟨t, ht⟩ := hv _ hmem
    exact ⟨z, _, p1.rs.rw.str, rfl, ht, q _ _ (.gr_ p1.gr rfl rfl (.bl _))⟩
theorem st_kin (neg : Bool) (kt : KTab X.mg X.K X.w g kvs) (hg : Gl X g) (hdb : (g == ("__debug__" : Str)) = false) (ha : SE Z X a x) (hm : behindInMarks (if neg = true then .NotIn else .In) (.Name g p) = false) : STt Z X (.Compare a [if neg = true then .NotIn else .In] [.Name g p] pos) (.kin neg kvs x) := fun W tk => by
  obtain ⟨d, es, n, hm', D, hv⟩ := kt
  cases neg with
  | true =>
    refine PT.of (pt_cmpR (op_notIn_kd D) (ha W tk) (pe_glob (v := .ref d) hg hm' rfl hdb) hm) fun σ H Q ⟨B, H0, A, env, rl, h⟩ => ?_
    refine one_E rl h fun p v H1 p1 h3 => ?_
    obtain ⟨z, i, e, hmem, b, e2, q⟩ := kin_ok h3
    subst e
    obtain ⟨t, ht⟩ := hv _ hmem
    cases e2
    exact ⟨z, _, p1.rs.rw.str, rfl, ht, _, rfl, q _ p1.gr⟩
  | false =>
    refine PT.of (pt_cmpR (op_in_kd D) (ha W tk) (pe_glob (v := .ref d) hg hm' rfl hdb) hm) fun σ H Q ⟨B, H0, A, env, rl, h⟩ => ?_
    refine one_E rl h fun p v H1 p1 h3 => ?_
    obtain ⟨z, i, e, hmem, b, e2, q⟩ := kin_ok h3
    subst e
    obtain ⟨t, ht⟩ := hv _ hmem
    cases e2
    exact ⟨z, _, p1.rs.rw.str, rfl, ht, _, rfl, q _ p1.gr⟩
/-! ### split, index, a list so often -/
theorem RpA.of_strs {K : PySem.W.Frag} {B : Addr → Prop} {H : Hp} : ∀ (ns : List Str), RpA K B H (ns.map V.str) (ns.map .str)
  | [] => .nil
  | n :: ns => .cons (.str n) (RpA.of_strs ns)
theorem se_spl {m : Str} {ap : Pos} (hm : m = "split") (ha : SE Z X a x) (hb : SE Z X b y) (hn : nst b = true) (hbase : attributeBase a m X.env (eval a X.env) = eval a X.env) (hl : (ap.endLine == pos.line) = true) :
    SE Z X (.Call (.Attribute a m ap) [b] [] pos) (.spl x y) := fun W tk => by
  subst hm
  refine PE.of (pe_split (ha W tk) (hb W tk) (by rw [star_of hn]; rfl) hbase hl) fun σ H Q ⟨B, H0, A, env, rl, h⟩ => ?_
  have h : OkR ((ev Z.C x env).bind fun u => match u with | .str z => (ev Z.C y env).bind fun w => splF z w | _ => .fail) _ _ := h
  refine one_E rl h fun p v H1 p1 h3 => ?_
  cases p with
  | str z =>
    refine ⟨⟨z, p1.rs.rw.str⟩, ?_⟩
    have h3 : OkR ((ev Z.C y env).bind fun w => splF z w) _ _ := h3
    refine one_E (rl.grow p1.gr) (h3.imp (fun _ z => z) fun c k dd H' g => k dd H' (p1.gr.trans g)) fun q u H2 p2 h4 => ?_
    have g2 := p1.gr.trans p2.gr
    unfold splF at h4
    split at h4
    · rename_i w
      split at h4
      · rename_i e1 e2
        have hf := fitN_le e2
        rw [nbeq, decide_eq_false_iff_not] at e1
        refine ⟨z, w, p1.rs.rw.str, by rw [p2.rs.rw.str], by simpa using e1, by rw [sizeLine_eq]; omega, fun q hq => ?_⟩
        exact wn_lst (T := Z.T) (rl.grow g2).pre (RpA.of_strs _) hq (post_of (x := .spl x y) g2 rl.tabs rfl (r := .ok (.list ((Txt.split z w).map .str))) h4 (nox_ok _))
      · exact h4.elim
    · exact h4.elim
  | _ => exact h3.elim
theorem shn_all {xs : List PyData} {n : Nat} (h : shalL (shn n) xs = true) : ∀ x ∈ xs, shn n x = true := shalL_all _ xs h
theorem lay_all : ∀ {xs : List PyData}, (∀ x ∈ xs, x.canLay0 = true) → PyData.canLayAll0 xs = true
  | [], _ => by simp [PyData.canLayAll0]
  | x :: xs, hx => by simp only [PyData.canLayAll0, hx x (List.mem_cons_self ..), lay_all fun y hy => hx y (List.mem_cons_of_mem _ hy), Bool.and_self]
theorem shn_lay : ∀ (n : Nat) (d : PyData), shn n d = true → d.canLay0 = true ∧ d.depth ≤ n
  | 0, d, h => by
    cases d <;> first
      | (simp [PyData.canLay0, PyData.depth]; done)
      | exact absurd (show false = true from h) Bool.false_ne_true
  | n + 1, d, h => by
    cases d with
    | list xs =>
      have q := fun x hx => shn_lay n x (shn_all (show shalL (shn n) xs = true from h) x hx)
      rw [PyData.depth]
      have := depthAll_le fun x hx => (q x hx).2
      exact ⟨by simp only [PyData.canLay0]; exact lay_all fun x hx => (q x hx).1, by omega⟩
    | tuple xs =>
      have q := fun x hx => shn_lay n x (shn_all (show shalL (shn n) xs = true from h) x hx)
      rw [PyData.depth]
      have := depthAll_le fun x hx => (q x hx).2
      exact ⟨by simp only [PyData.canLay0]; exact lay_all fun x hx => (q x hx).1, by omega⟩
    | dict kvs => exact absurd (show false = true from h) Bool.false_ne_true
    | str z => exact absurd (show false = true from h) Bool.false_ne_true
    | _ => simp [PyData.canLay0, PyData.depth]
theorem shn_shaped {n : Nat} {d : PyData} (h : shn n d = true) (hn : n ≤ 64) : SeqAt.shaped d = true := by
  unfold SeqAt.shaped
  rw [Bool.and_eq_true, decide_eq_true_iff]
  obtain ⟨h1, h2⟩ := shn_lay n d h
  exact ⟨h1, Nat.le_trans h2 hn⟩
theorem lixL_ok {x : PyData} {P : PyData → Prop} : ∀ {xs : List PyData} {n : Nat}, OkR (lixL x xs n) P (fun _ => False) → ∃ j z, xs[j]? = some z ∧ PyData.eqv z x = true ∧ (∀ (m : Nat) (z' : PyData), m < j → xs[m]? = some z' → PyData.eqv z' x = false) ∧ P (.int ((n + j : Nat) : Int))
  | [], _, h => h.elim
  | y :: ys, n, h => by
    have h : OkR (match eqF 60 y x with | true => .ok (.int (Int.ofNat n)) | false => lixL x ys (Nat.succ n)) P (fun _ => False) := h
    rw [eqF_eq] at h
    cases e : PyData.eqv y x with
    | true =>
      rw [e] at h
      exact ⟨0, y, rfl, e, fun m _ hm => absurd hm (Nat.not_lt_zero _), h⟩
    | false =>
      rw [e] at h
      obtain ⟨j, z, h1, h2, h3, h4⟩ := lixL_ok h
      refine ⟨j + 1, z, h1, h2, fun m z' hm hz => ?_, ?_⟩
      · cases m with
        | zero => cases hz; exact e
        | succ m => exact h3 m z' (Nat.lt_of_succ_lt_succ hm) hz
      · have e2 : n + (j + 1) = Nat.succ n + j := by omega
        rw [e2]; exact h4
theorem PE.or {e : Expr} {t1 t2 : TE} (h1 : PE X e t1) (h2 : PE X e t2) : PE X e fun σ H Q => t1 σ H Q ∨ t2 σ H Q := ⟨fun pins s σ H Q I h => h.elim (h1.run pins s σ H Q I) (h2.run pins s σ H Q I)⟩
theorem lixF_ok {xs : List PyData} {d : PyData} {P : PyData → Prop} {Y : Nat → Prop} (h : OkR (lixF xs d) P Y) : shn 59 d = true ∧ shalL (shn 59) xs = true ∧ ∃ j z, xs[j]? = some z ∧ PyData.eqv z d = true ∧ (∀ (m : Nat) (z' : PyData), m < j → xs[m]? = some z' → PyData.eqv z' d = false) ∧ P (.int (j : Int)) := by
  have n := nox_lix xs d
  unfold lixF at h n
  split at h
  · rename_i e1 e2
    rw [e1, e2] at n
    obtain ⟨j, z, h1, h2, h3, h4⟩ := lixL_ok (OkR.nox n h)
    rw [Nat.zero_add] at h4
    exact ⟨e1, e2, j, z, h1, h2, h3, h4⟩
  · exact h.elim
theorem se_lix {m : Str} {ap : Pos} (hm : m = "index") (hu : X.A.units + 65 < cLine) (ha : SE Z X a x) (hb : SE Z X b y) (hn : nst b = true) (hbase : attributeBase a m X.env (eval a X.env) = eval a X.env) (hl : (ap.endLine == pos.line) = true) :
    SE Z X (.Call (.Attribute a m ap) [b] [] pos) (.lix x y) := fun W tk => by
  subst hm
  have pa : PA X [b] _ := pa_cons (hb W tk) pa_nil (star_of hn _)
  refine PE.of (pe_bm PySem.F.plainAttrs_list PySem.F.slot_list_index PySem.F.type_list_index (mt_indexD hu) (ha W tk) pa hbase (by rw [star_of hn]; rfl) hl (star_of hn _) rfl) fun σ H Q ⟨B, H0, A, env, rl, h⟩ => ?_
  have h : OkR ((ev Z.C x env).bind fun u => match u with | .list xs => (ev Z.C y env).bind fun w => lixF xs w | _ => .fail) _ _ := h
  refine one_E rl h fun p v H1 p1 h3 => ?_
  cases p with
  | list xs =>
    have h3 : OkR ((ev Z.C y env).bind fun w => lixF xs w) _ _ := h3
    obtain ⟨l, ys, rfl, hq, ra⟩ := p1.rs.rw.list
    refine ⟨.inl ⟨rfl, _, hq⟩, ?_⟩
    refine one_E (rl.grow p1.gr) (h3.imp (fun _ z => z) fun c k dd H' g => k dd H' (p1.gr.trans g)) fun d u H2 p2 h4 => ?_
    obtain ⟨s1, s2, j, z, j1, j2, j3, j4⟩ := lixF_ok h4
    have g2 := p1.gr.trans p2.gr
    have rw2 := p1.rs.rw.grow p2.gr (rl.tabs.gr p1.gr)
    exact ⟨l, u, d, xs, j, z, rfl, rfl, rw2.dp, p2.rs.rw.dp, shn_shaped (n := 60) s2 (by decide), shn_shaped s1 (by decide), j1, j2, j3, j4 _ _ (.gr_ g2 rfl rfl (.int _))⟩
  | _ => exact h3.elim
theorem se_rep (ha : SE Z X a x) (hb : SE Z X b y) (hf : frs x = true) : SE Z X (.BinOp a .Mult b pos) (.rep x y) := fun W tk => by
  refine PE.of (pe_op op_rep (ha W tk) (hb W tk)) fun σ H Q ⟨B, H0, A, env, rl, h⟩ => ?_
  have h : OkR ((ev Z.C x env).bind fun u => (ev Z.C y env).bind fun w => repR u w) _ _ := h
  refine one_E rl h fun p v H1 p1 h3 => ?_
  refine one_E (rl.grow p1.gr) (h3.imp (fun _ z => z) fun c k dd H' g => k dd H' (p1.gr.trans g)) fun q u H2 p2 h4 => ?_
  have g2 := p1.gr.trans p2.gr
  unfold repR at h4
  split at h4
  · rename_i xs i
    split at h4
    · rename_i hb
      rw [Bool.and_eq_true, small_iff] at hb
      have hfit := fitN_le hb.2
      rw [lenF_eq] at hfit
      obtain ⟨l, ys, e, _, hl, ra⟩ := p1.fr hf xs rfl
      have hl2 := p2.gr.at (rl.tabs.gr p1.gr) hl fun ps e => by cases e
      have r0 := p1.rs.rw.list
      obtain ⟨l', ys', e', hq, ra'⟩ := r0
      rw [e] at e'
      cases e'
      have ra2 : RpA X.K (Bt B A env) H2 ys xs := (ra.less fun a h => .inl h).grow p2.gr (rl.tabs.gr p1.gr)
      have hlen := ra2.length
      refine ⟨l, i, ys, e, p2.rs.rw.int, hl2, by omega, by omega, by rw [hlen, sizeLine_eq]; omega, fun q hq => ?_⟩
      rw [repF_eq] at h4
      exact wn_lst (T := Z.T) (rl.grow g2).pre (ra2.rep _) hq (post_of (x := .rep x y) g2 rl.tabs rfl (r := .ok (.list (List.replicate i.toNat xs).flatten)) h4 (nox_ok _))
    · exact h4.elim
  · exact h4.elim
end
end ES
end

set_option Elab.async false
set_option linter.all false
set_option autoImplicit false
set_option maxRecDepth 100000
set_option maxHeartbeats 4000007
/-! ES7: targets, iterators, list comprehensions. -/
noncomputable section
namespace ES
open PySem PySem.Spec PyProof.Rows L2 EV GxR

/-! ### what is walked -/
inductive SrcJ (K : PySem.W.Frag) (R : V → PyData → Prop) : It → List PyData → Prop
  | lst {a : Addr} {ds : List PyData} : R (.ref a) (.list ds) → SrcJ K R (Itl K a) ds
  | tup {a : Addr} {ds : List PyData} : R (.ref a) (.tuple ds) → SrcJ K R (Itt K a) ds
  | rng (lo : Int) (n : Nat) : SrcJ K R (Itr lo n) (rngF n lo)
  | revL {a : Addr} {es : List PyData} : R (.ref a) (.list es) → SrcJ K R (Itv K a es.length) es.reverse
  | revT {a : Addr} {es : List PyData} : R (.ref a) (.tuple es) → SrcJ K R (RT.ItvT K a es.length) es.reverse
section
variable {K : PySem.W.Frag} {R R' : V → PyData → Prop} {J : It} {ds es : List PyData} {B : Addr → Prop} {H : Hp} {a : Addr} {i : Nat} {d : PyData}
theorem SrcJ.imp (h : ∀ v d, R v d → R' v d) (s : SrcJ K R J ds) : SrcJ K R' J ds := by
  cases s with
  | lst r => exact .lst (h _ _ r)
  | tup r => exact .tup (h _ _ r)
  | rng lo n => exact .rng lo n
  | revL r => exact .revL (h _ _ r)
  | revT r => exact .revT (h _ _ r)
theorem SqL.inj {H : Hp} {a : Addr} {xs ys : List V} (h : SqL K H a xs) (k : SqL K H a ys) (f : ∀ zs, SqL K H a zs → zs = xs) : ys = xs := f ys k
theorem rngF_get : ∀ (n : Nat) (lo : Int) (i : Nat), i < n → (rngF n lo)[i]? = some (.int (lo + i))
  | 0, _, _, h =>
      absurd h (Nat.not_lt_zero _)
  | n + 1, lo, 0, _ => by show some (PyData.int lo) = _; simp
  | n + 1, lo, i + 1, h => by
    show (rngF n (Int.add lo 1))[i]? = _
    rw [rngF_get n _ i (Nat.lt_of_succ_lt_succ h)]
    have : Int.add lo 1 + (i : Int) = lo + ((i + 1 : Nat) : Int) := by show lo + 1 + (i : Int) = _; omega
    rw [this]
theorem rngF_len : ∀ (n : Nat) (lo : Int), (rngF n lo).length = n
  | 0, _ => rfl
  | n + 1, lo => congrArg Nat.succ (rngF_len n _)
/-- an element comes, where one is left -/
theorem SrcJ.item (s : SrcJ K (Rw K B H) J ds) (e : ds[i]? = some d) : J.go i H ∧ ∀ x H', J.yld i H x H' → H' = H ∧ Rp K B H x d := by
  cases s with
  | lst r =>
    obtain ⟨a', xs, ea, hq, q⟩ := r.list
    cases ea
    obtain ⟨v, hv, rv⟩ := q.get e
    refine ⟨⟨xs, v, hq, hv⟩, fun x H' y => ⟨y.1, ?_⟩⟩
    have := y.2 xs hq
    rw [hv] at this; cases this
    exact rv
  | tup r =>
    obtain ⟨a', xs, ea, hq, q⟩ := r.tuple
    cases ea
    obtain ⟨v, hv, rv⟩ := q.get e
    refine ⟨⟨xs, v, hq, hv⟩, fun x H' y => ⟨y.1, ?_⟩⟩
    have := y.2 xs hq
    rw [hv] at this; cases this
    exact rv
  | rng lo n =>
    have hl : i < n := by
      have := (List.getElem?_eq_some_iff.mp e).1
      rwa [rngF_len] at this
    rw [rngF_get n lo i hl] at e
    cases e
    refine ⟨hl, fun x H' y => ⟨y.1, ?_⟩⟩
    rw [y.2]; exact .int _
  | revL r =>
    rename_i a es
    obtain ⟨a', xs, ea, hq, q⟩ := r.list
    cases ea
    have hl : i < es.length := by have := (List.getElem?_eq_some_iff.mp e).1; rwa [List.length_reverse] at this
    rw [List.getElem?_reverse hl] at e
    obtain ⟨v, hv, rv⟩ := q.get e
    refine ⟨⟨hl, xs, v, hq, hv⟩, fun x H' y => ⟨y.1, ?_⟩⟩
    have := y.2 xs hq
    rw [hv] at this; cases this
    exact rv
  | revT r =>
    rename_i a es
    obtain ⟨a', xs, ea, hq, q⟩ := r.tuple
    cases ea
    have hl : i < es.length := by have := (List.getElem?_eq_some_iff.mp e).1; rwa [List.length_reverse] at this
    rw [List.getElem?_reverse hl] at e
    obtain ⟨v, hv, rv⟩ := q.get e
    refine ⟨⟨hl, xs, v, hq, hv⟩, fun x H' y => ⟨y.1, ?_⟩⟩
    have := y.2 xs hq
    rw [hv] at this; cases this
    exact rv
theorem SrcJ.done (s : SrcJ K (Rw K B H) J ds) (h : ds.length ≤ i) : J.stop i H := by
  cases s with
  | lst r =>
    obtain ⟨a', xs, ea, hq, q⟩ := r.list
    cases ea
    exact ⟨xs, hq, by rw [q.length]; exact h⟩
  | tup r =>
    obtain ⟨a', xs, ea, hq, q⟩ := r.tuple
    cases ea
    exact ⟨xs, hq, by rw [q.length]; exact h⟩
  | rng lo n => rw [rngF_len] at h; exact h
  | revL r => rw [List.length_reverse] at h; exact h
  | revT r => rw [List.length_reverse] at h; exact h
theorem revL_eq : ∀ (xs a : List PyData), revL xs a = xs.reverse ++ a
  | [], a => rfl
  | x :: xs, a => by
    show revL xs (x :: a) = _
    rw [revL_eq xs (x :: a), List.reverse_cons, List.append_assoc]; rfl
end
/-- what is walked, as strict as its source -/
def strI : EV.X → Bool
  | .rev a => str a
  | x => str x
section
variable {Z : Wd} {X : Cx} {a b c e tg it : Expr} {x y z : EV.X} {pos : Pos} {H : Hp}
def tI (Z : Wd) (K : PySem.W.Frag) (x : EV.X) (W : WX) : TI := fun σ H R => ∃ B H0 A env, Rl K Z.T B H0 A env σ H ∧
  OkR (ev Z.C x env) (fun d => ∃ ds, itemsF d = some ds ∧ ∀ J H1, Gr Z.T H H1 → SrcJ K (Rs (strI x) K (Bt B A env) H1) J ds → R J H1) (fun c => ∀ dd H', Gr Z.T H H' → W (Z.xv c) dd σ H')
def SI (Z : Wd) (X : Cx) (tg it : Expr) (x : EV.X) : Prop := ∀ W, Takes X W → PI X tg it (tI Z X.K x W)
theorem PI.of {w w' : TI} (h : PI X tg it w) (i : ∀ σ H R, w' σ H R → w σ H R) : PI X tg it w' := ⟨fun pins s σ H R I k => h.run pins s σ H R I (i σ H R k)⟩
theorem PI.or {w1 w2 : TI} (h1 : PI X tg it w1) (h2 : PI X tg it w2) : PI X tg it fun σ H R => w1 σ H R ∨ w2 σ H R := ⟨fun pins s σ H R I h => h.elim (h1.run pins s σ H R I) (h2.run pins s σ H R I)⟩
theorem rs_list {b : Bool} {K : PySem.W.Frag} {B : Addr → Prop} {v : V} {ds : List PyData} (r : Rs b K B H v (.list ds)) : ∃ a xs, v = .ref a ∧ SqL K H a xs ∧ RpA K B H xs ds := r.rw.list
theorem rs_tup {b : Bool} {K : PySem.W.Frag} {B : Addr → Prop} {v : V} {ds : List PyData} (r : Rs b K B H v (.tuple ds)) : ∃ a xs, v = .ref a ∧ SqT K H a xs ∧ RpA K B H xs ds := r.rw.tuple
/-- a list or a tuple -/
theorem si_seq (h : SE Z X it x) (hs : strI x = str x) : SI Z X tg it x := fun W tk => by
  refine PI.of (PI.or (pi_list (h W tk)) (pi_tup (h W tk))) fun σ H R ⟨B, H0, A, env, rl, q⟩ => ?_
  cases e : ev Z.C x env with
  | fail => rw [e] at q; exact q.elim
  | exc c => rw [e] at q; exact .inl ⟨B, H0, A, env, rl, by rw [e]; exact q⟩
  | ok d =>
    rw [e] at q
    obtain ⟨ds, ed, q⟩ := q
    cases d with
    | list xs =>
      cases ed
      refine .inl ⟨B, H0, A, env, rl, ?_⟩
      rw [e]
      intro v H' p
      obtain ⟨a, ys, ea, hq, r⟩ := rs_list p.rs
      subst ea
      exact ⟨a, rfl, ⟨ys, hq⟩, q _ H' p.gr (.lst (by rw [hs]; exact p.rs))⟩
    | tuple xs =>
      cases ed
      refine .inr ⟨B, H0, A, env, rl, ?_⟩
      rw [e]
      intro v H' p
      obtain ⟨a, ys, ea, hq, r⟩ := rs_tup p.rs
      subst ea
      exact ⟨a, rfl, ⟨ys, hq⟩, q _ H' p.gr (.tup (by rw [hs]; exact p.rs))⟩
    | _ => cases ed
theorem small_le {i : Int} (h : small i = true) : -(2 ^ 62) ≤ i ∧ i < 2 ^ 62 := by
  unfold small at h
  rw [nblt, decide_eq_true_iff] at h
  omega
theorem rngR_ok {p q : PyData} {P : PyData → Prop} {Y : Nat → Prop} (h : OkR (rngR p q) P Y) : ∃ i j, p = .int i ∧ q = .int j ∧ small i = true ∧ small j = true ∧ P (.list (rngF (Int.sub j i).toNat i)) := by
  unfold rngR at h
  split at h
  · rename_i i j
    split at h
    · rename_i e
      rw [Bool.and_eq_true] at e
      exact ⟨i, j, rfl, rfl, e.1, e.2, h⟩
    · exact h.elim
  · exact h.elim
theorem si_rng1 {p : Pos} (hg : Gl X "range") (hm : X.mg "range" = none) (ha : SE Z X a x) (hn : nst a = true) : SI Z X tg (.Call (.Name "range" p) [a] [] pos) (.rng (.c (.int 0)) x) := fun W tk => by
  refine PI.of (pi_range1 hg hm (pa_cons (ha W tk) pa_nil (star_of hn _)) (star_of hn _)) fun σ H R ⟨B, H0, A, env, rl, q⟩ => ?_
  have q : OkR ((ev Z.C x env).bind fun y => rngR (.int 0) y) _ _ := q
  refine one_E rl q fun p v H1 p1 h3 => ?_
  obtain ⟨i, j, e1, e2, s1, s2, ds, ed, k⟩ := rngR_ok h3
  cases e1
  subst e2
  cases ed
  refine ⟨j, by rw [p1.rs.rw.int], (small_le s2).1, (small_le s2).2, ?_⟩
  have e0 : Int.sub j 0 = j := Int.sub_zero j
  rw [e0] at k
  exact k _ H1 p1.gr (.rng 0 j.toNat)
theorem si_rng2 {p : Pos} (hg : Gl X "range") (hm : X.mg "range" = none) (ha : SE Z X a x) (hb : SE Z X b y) (hn : nst a = true) (hn2 : nst b = true) : SI Z X tg (.Call (.Name "range" p) [a, b] [] pos) (.rng x y) := fun W tk => by
  refine PI.of (pi_range2 hg hm (pa_cons (ha W tk) (pa_cons (hb W tk) pa_nil (star_of hn2 _)) (star_of hn _)) (by rw [star_of hn, star_of hn2]; rfl) (star_of hn2 _)) fun σ H R ⟨B, H0, A, env, rl, q⟩ => ?_
  refine two_E rl q fun p q v u H2 g r1 r2 h3 => ?_
  obtain ⟨i, j, e1, e2, s1, s2, ds, ed, k⟩ := rngR_ok h3
  subst e1 e2
  cases ed
  refine ⟨i, j, by rw [r1.int, r2.int], ⟨(small_le s1).1, (small_le s1).2, (small_le s2).1, (small_le s2).2⟩, ?_⟩
  exact k _ H2 g (.rng i (j - i).toNat)
theorem si_rev {p : Pos} (hg : Gl X "reversed") (hm : X.mg "reversed" = none) (ha : SE Z X a x) (hn : nst a = true) : SI Z X tg (.Call (.Name "reversed" p) [a] [] pos) (.rev x) := fun W tk => by
  refine PI.of (RT.pi_revA hg hm (ha W tk) (star_of hn _)) fun σ H R ⟨B, H0, A, env, rl, q⟩ => ?_
  refine one_E rl q fun p v H1 p1 h3 => ?_
  cases p with
  | list es =>
    obtain ⟨ds, ed, k⟩ := h3
    cases ed
    obtain ⟨a', ys, ea, hq, r⟩ := rs_list p1.rs
    subst ea
    refine ⟨a', ys, rfl, .inl ⟨hq, ?_⟩⟩
    rw [revL_eq, List.append_nil] at k
    rw [r.length]
    exact k _ H1 p1.gr (.revL p1.rs)
  | tuple es =>
    obtain ⟨ds, ed, k⟩ := h3
    cases ed
    obtain ⟨a', ys, ea, hq, r⟩ := rs_tup p1.rs
    subst ea
    refine ⟨a', ys, rfl, .inr ⟨hq, ?_⟩⟩
    rw [revL_eq, List.append_nil] at k
    rw [r.length]
    exact k _ H1 p1.gr (.revT p1.rs)
  | _ => exact h3.elim
end
/-! ### targets -/
def inP : Pt → List Nat → Bool
  | .nm i, vs => decide (i ∈ vs)
  | .nil, _ => true
  | .cons a b, vs => inP a vs && inP b vs
/-- what a target is to do -/
def GPost (K : PySem.W.Frag) (T : List Addr) (B : Addr → Prop) (H0 : Hp) (A : Nat → List Addr) (env env' : List SV) (H : Hp) (p : Pt) (σ : L2.St) (σ' : L2.St) : Prop :=
  Rl K T B H0 A env' σ' H ∧ (∀ a, Bt B A env' a → Bt B A env a) ∧ ∀ vs, inP p vs = true → L2.wipe σ' vs = L2.wipe σ vs
def tG (Z : Wd) (K : PySem.W.Frag) (p : Pt) : TG := fun v σ H Q => ∃ d B H0 A env env', Rl K Z.T B H0 A env σ H ∧ Rp K (Bt B A env) H v d ∧ bindP p d env = some env' ∧ ∀ σ', GPost K Z.T B H0 A env env' H p σ σ' → Q σ' H
def tGs (Z : Wd) (K : PySem.W.Frag) (p : Pt) : TGs := fun vs σ H Q => ∃ ds B H0 A env env', Rl K Z.T B H0 A env σ H ∧ RpA K (Bt B A env) H vs ds ∧ bindP p (.tuple ds) env = some env' ∧ ∀ σ', GPost K Z.T B H0 A env env' H p σ σ' → Q σ' H
def SG (Z : Wd) (X : Cx) (e : Expr) (p : Pt) : Prop := PG X e (tG Z X.K p)
structure SGs (Z : Wd) (X : Cx) (es : List Expr) (p : Pt) : Prop where
  run : PGs X es (tGs Z X.K p)
  len : ∀ ds env env', bindP p (.tuple ds) env = some env' → ds.length = es.length
  tup : ∀ d env env', bindP p d env = some env' → ∃ ds, d = .tuple ds
theorem PG.of {X : Cx} {e : Expr} {t t' : TG} (h : PG X e t) (i : ∀ v σ H Q, t' v σ H Q → t v σ H Q) : PG X e t' := ⟨fun pins s σ H v u Q I r k => h.run pins s σ H v u Q I r (i v σ H Q k)⟩
theorem PGs.of {X : Cx} {e : List Expr} {t t' : TGs} (h : PGs X e t) (i : ∀ v σ H Q, t' v σ H Q → t v σ H Q) : PGs X e t' := ⟨fun pins s σ H v u Q I r k => h.run pins s σ H v u Q I r (i v σ H Q k)⟩
theorem wipe_cons (σ : L2.St) (i : Nat) (vs : List Nat) : L2.wipe σ (i :: vs) = (L2.wipe σ vs).set i none := rfl
theorem wipe_set {σ : L2.St} {i : Nat} {o : Option V} : ∀ {vs : List Nat}, i ∈ vs → L2.wipe (σ.set i o) vs = L2.wipe σ vs
  | [], h => by cases h
  | j :: vs, h => by
    rw [wipe_cons, wipe_cons]
    by_cases k : i ∈ vs
    · rw [wipe_set k]
    · have e : j = i := by
        rcases List.mem_cons.mp h with z |
            z
        · exact z.symm
        · exact absurd z k
      subst e
      apply List.ext_getElem?
      intro m
      by_cases hm : j = m
      · subst hm
        rw [List.getElem?_set, List.getElem?_set, if_pos rfl, if_pos rfl, wipe_length, wipe_length, List.length_set]
      · rw [List.getElem?_set_ne hm, List.getElem?_set_ne hm]
        by_cases hmv : m ∈ vs
        · have hh : ∀ τ : L2.St, τ.length = σ.length → (L2.wipe τ vs)[m]? = if m < σ.length then some none else none := fun τ hτ => by
            by_cases hl : m < σ.length
            · rw [if_pos hl]
              cases q : (L2.wipe τ vs)[m]? with
              | none => rw [List.getElem?_eq_none_iff, wipe_length, hτ] at q; omega
              | some o' =>
                cases o' with
                | none => rfl
                | some u => exact absurd hmv (wipe_some q).2
            · rw [if_neg hl, List.getElem?_eq_none_iff, wipe_length, hτ]; omega
          rw [hh _ (by rw [List.length_set]), hh _ rfl]
        · rw [wipe_out hmv, wipe_out hmv, List.getElem?_set_ne hm]
theorem wipe_wipe {σ : L2.St} : ∀ {vs us : List Nat}, (∀ i ∈ vs, i ∈ us) → L2.wipe (L2.wipe σ vs) us = L2.wipe σ us
  | [], _, _ => rfl
  | i :: vs, us, h => by
    rw [wipe_cons, wipe_set (h i (List.mem_cons_self ..))]
    exact wipe_wipe fun j hj => h j (List.mem_cons_of_mem _ hj)
section
variable {Z : Wd} {X : Cx} {a b c e : Expr} {es : List Expr} {p q : Pt} {pos : Pos}
theorem sg_nm {i : Nat} {n : Str} (hN : X.N.Nodup) (hi : X.N[i]? = some n) (hx : Loc X.env.scope n) (hf : X.fn n = true ∨ X.env.scope.names.lookup n = some .local) : SG Z X (.Name n pos) (.nm i) :=
  PG.of (pg_name hN hi hx hf) fun v σ H Q ⟨d, B, H0, A, env, env', rl, r, e, k⟩ => by
    have e : some (setS env i (.val d)) = some env' := e
    cases e
    exact k _ ⟨rl.set r, Bt.set (fun ds z => by cases z), fun vs h => wipe_set (by simpa [inP] using h)⟩
theorem asg_of {e : Expr} {es : List Expr} (h : nst e = true) (env : Env) : assignEach (e :: es) env = (false, assign e env) :: assignEach es env := by
  cases e <;> first | rfl | (cases h)
theorem asg_len {env : Env} : ∀ {es : List Expr}, nstL es = true → (assignEach es env).length = es.length ∧ (assignEach es env).findIdx? (·.1) = none
  | [], _ => ⟨rfl, rfl⟩
  | e :: es, h => by
    rw [nstL, Bool.and_eq_true] at h
    obtain ⟨h1, h2⟩ := asg_len (env := env) h.2
    rw [asg_of h.1]
    exact ⟨congrArg Nat.succ h1, by rw [List.findIdx?_cons, h2]; rfl⟩
theorem sgs_nil : SGs Z X [] .nil := by
  refine ⟨PGs.of pgs_nil fun vs σ H Q ⟨ds, B, H0, A, env, env', rl, r, e, k⟩ => ?_, fun ds env env' e => ?_, fun d env env' e => ?_⟩
  · cases ds with
    | cons x xs => cases e
    | nil =>
      cases e
      cases r
      exact ⟨rfl, k σ ⟨rl, fun _ h => h, fun _ _ => rfl⟩⟩
  · cases ds with
    | nil => rfl
    | cons x xs => cases e
  · cases d with
    | tuple ds => exact ⟨ds, rfl⟩
    | _ => cases e
theorem sgs_cons (h1 : SG Z X e p) (h2 : SGs Z X es q) (hn : nst e = true) : SGs Z X (e :: es) (.cons p q) := by
  refine ⟨PGs.of (pgs_cons h1 h2.run (by rw [asg_of hn]; rfl)) fun vs σ H Q ⟨ds, B, H0, A, env, env', rl, r, e, k⟩ => ?_, fun ds env env' e => ?_, fun d env env' e => ?_⟩
  · cases ds with
    | nil => cases e
    | cons x xs =>
      have e : (match bindP p x env with | some env1 => bindP q (.tuple xs) env1 | none => none) = some env' := e
      cases e1 : bindP p x env with
      | none => rw [e1] at e; cases e
      | some env1 =>
        rw [e1] at e
        cases r with
        | cons rv rs =>
          refine ⟨_, _, rfl, x, B, H0, A, env, env1, rl, rv, e1, fun σ1 ⟨rl1, b1, w1⟩ => ?_⟩
          refine ⟨xs, B, H0, A, env1, env', rl1, rs.less b1, e, fun σ2 ⟨rl2, b2, w2⟩ => k σ2 ⟨rl2, fun a h => b1 a (b2 a h), fun vs h => ?_⟩⟩
          have h : (inP p vs && inP q vs) = true := h
          rw [Bool.and_eq_true] at h
          rw [w2 vs h.2, w1 vs h.1]
  · cases ds with
    | nil => cases e
    | cons x xs =>
      have e : (match bindP p x env with | some env1 => bindP q (.tuple xs) env1 | none => none) = some env' := e
      cases e1 : bindP p x env with
      | none => rw [e1] at e; cases e
      | some env1 => rw [e1] at e; exact congrArg Nat.succ (h2.len xs env1 env' e)
  · cases d with
    | tuple ds => exact ⟨ds, rfl⟩
    | _ => cases e
theorem sg_tup {k : Nat} (hc : X.calm = true) (h : SGs Z X es p) (hn : nstL es = true) : SG Z X (.Tuple es k pos) p := by
  refine PG.of (pg_tup hc h.run (asg_len hn).1 (asg_len hn).2) fun v σ H Q ⟨d, B, H0, A, env, env', rl, r, e, kk⟩ => ?_
  obtain ⟨ds, ed⟩ := h.tup d env env' e
  subst ed
  obtain ⟨a, xs, ev, hq, ra⟩ := r.tuple_inv
  exact ⟨a, xs, ev, hq, by rw [ra.length]; exact h.len ds env env' e, ds, B, H0, A, env, env', rl, ra, e, kk⟩
end
end ES
end

set_option Elab.async false
set_option linter.all false
set_option autoImplicit false
set_option maxRecDepth 100000
set_option maxHeartbeats 4000007
/-! ES8: list comprehensions. -/
noncomputable section
namespace ES
open PySem PySem.Spec PyProof.Rows L2 EV GxR

/-! ### slots under a target -/
theorem bind_out : ∀ {p : Pt} {d : PyData} {env env' : List SV} {vs : List Nat} {j : Nat}, bindP p d env = some env' → inP p vs = true → j ∉ vs → getS env' j = getS env j
  | .nm i, d, env, env', vs, j, e, h, n => by
    have e : some (setS env i (.val d)) = some env' := e
    cases e
    exact getS_set_ne fun z => n (by subst z; simpa [inP] using h)
  | .nil, d, env, env', vs, j, e, h, n => by
    cases d with
    | tuple ds =>
      cases ds with
      | nil => cases e; rfl
      | cons x xs => cases e
    | _ => cases e
  | .cons p q, d, env, env', vs, j, e, h, n => by
    have h : (inP p vs && inP q vs) = true := h
    rw [Bool.and_eq_true] at h
    cases d with
    | tuple ds =>
      cases ds with
      | nil => cases e
      | cons x xs =>
        have e : (match bindP p x env with | some env1 => bindP q (.tuple xs) env1 | none => none) = some env' := e
        cases e1 : bindP p x env with
        | none => rw [e1] at e; cases e
        | some env1 =>
          rw [e1] at e
          rw [bind_out e h.2 n, bind_out e1 h.1 n]
    | _ => cases e
theorem wipe_outS {env : List SV} {j : Nat} : ∀ {vs : List Nat}, j ∉ vs → getS (wipeS env vs) j = getS env j
  | [], _ => rfl
  | i :: vs, h => by
    rw [wipeS_cons, getS_set_ne fun z => h (by rw [z]; exact List.mem_cons_self ..)]
    exact wipe_outS fun z => h (List.mem_cons_of_mem _ z)
theorem noOwn_not {env : List SV} : ∀ {vs : List Nat}, noOwn env vs = true → ∀ {j : Nat} {ds : OV}, getS env j = .own ds → j ∉ vs
  | [], _, _, _, _ => by simp
  | i :: vs, h, j, ds, e => by
    have h : (match getS env i with | .own _ => false | _ => noOwn env vs) = true := h
    intro hm
    rcases List.mem_cons.mp hm with z | z
    · subst z; rw [e] at h; cases h
    · refine noOwn_not (vs := vs) ?_ e z
      split at h
      · cases h
      · exact h
theorem bt_turn {B : Addr → Prop} {A : Nat → List Addr} {env env' : List SV} {p : Pt} {d : PyData} {vs : List Nat} (hn : noOwn env vs = true) (e : bindP p d (wipeS env vs) = some env') (hi : inP p vs = true) (a : Addr) (h : Bt B A env a) : Bt B A env' a := by
  rcases h with h | ⟨j, ds, h, ea⟩
  · exact .inl h
  · have nj := noOwn_not hn h
    exact .inr ⟨j, ds, by rw [bind_out e hi nj, wipe_outS nj]; exact h, ea⟩

/-! ### a walked thing while a new list fills -/
def RwD (K : PySem.W.Frag) (B : Addr → Prop) (D : Addr) (H : Hp) (v : V) (d : PyData) : Prop :=
  Rp K B H v d ∨ ∃ a xs ds, v = .ref a ∧ d = .list ds ∧ a ≠ D ∧ H a = some (.lst xs) ∧ RpA K B H xs ds
section
variable {K : PySem.W.Frag} {T : List Addr} {B : Addr → Prop} {H H1 H' : Hp} {v : V} {d : PyData} {D : Addr} {xs ys : List V}
theorem RwD.rw (r : RwD K B D H v d) : Rw K B H v d := by
  rcases r with r | ⟨a, xs, ds, e1, e2, _, h, r⟩
  · exact .inl r
  · exact .inr ⟨a, xs, ds, e1, e2, h, r⟩
theorem RwD.grow (g : Gr T H H') (t : Tabs T H) (r : RwD K B D H v d) : RwD K B D H' v d := by
  rcases r with r | ⟨a, xs, ds, e1, e2, n, h, r⟩
  · exact .inl (r.grow g t)
  · exact .inr ⟨a, xs, ds, e1, e2, n, g.at t h (fun ps e => by cases e), r.grow g t⟩
theorem RwD.write (hp : H D = some (.lst xs)) (hB : B D) {o : HO} (r : RwD K B D H v d) : RwD K B D (upd H D o) v d := by
  rcases r with r | ⟨a, xs, ds, e1, e2, n, h, r⟩
  · exact .inl (r.write hp hB)
  · exact .inr ⟨a, xs, ds, e1, e2, n, by rw [upd_ne n]; exact h, r.write hp hB⟩
theorem Rw.toD (hD : H D = none) (t : Tabs T H) {o : HO} (hb : ∀ a, B a → H a ≠ none) (r : Rw K B H v d) : RwD K (fun a => B a ∨ a = D) D (upd H D o) v d := by
  have g : Gr T H (upd H D o) := Gr.new t hD
  rcases r with r | ⟨a, xs, ds, e1, e2, h, r⟩
  · exact .inl ((r.more hD).grow g t)
  · have n : a ≠ D := fun z => by rw [z, hD] at h; cases h
    exact .inr ⟨a, xs, ds, e1, e2, n, by rw [upd_ne n]; exact h, (r.more hD).grow g t⟩
theorem Gr.writeNew (g : Gr T H1 H) (hD : H1 D = none) (nT : D ∉ T) {o : HO} : Gr T H1 (upd H D o) := ⟨fun a u e n => by rw [upd_ne (ne_of_none e hD)]; exact g.1 a u e n, fun P hP q => by
  obtain ⟨ps, e, k⟩ := g.2 P hP q
  exact ⟨ps, by rw [upd_ne fun z => nT (by rw [← z]; exact hP)]; exact e, k⟩⟩
theorem Bt.move {A : Nat → List Addr} {env : List SV} {B : Addr → Prop} (a : Addr) (h : Bt (fun a => B a ∨ a = D) A env a) : Bt B A env a ∨ a = D := by
  rcases h with (h | h) | h
  · exact .inl (.inl h)
  · exact .inr h
  · exact .inl (.inr h)
theorem Bt.back {A : Nat → List Addr} {env : List SV} {B : Addr → Prop} (a : Addr) (h : Bt B A env a ∨ a = D) : Bt (fun a => B a ∨ a = D) A env a := by
  rcases h with (h | h) | h
  · exact .inl (.inl h)
  · exact .inr h
  · exact .inl (.inr h)
theorem Gr.none_back (g : Gr T H H1) (t : Tabs T H) (h : H1 D = none) : H D = none := by
  cases q : H D with
  | none => rfl
  | some o =>
    by_cases hT : D ∈ T
    · obtain ⟨ps, e', _⟩ := g.2 D hT (t D hT)
      rw [h] at e'; cases e'
    · rw [g.1 D o q hT] at h; cases h
end
theorem Gr.none0 {T : List Addr} {H0 H : Hp} {D : Addr} (g : Gr T H0 H) (nT : D ∉ T) (h : H D = none) : H0 D = none := by
  cases q : H0 D with
  | none => rfl
  | some o => rw [g.1 D o q nT] at h; cases h
theorem compL_cons {bnd : PyData → Option (List SV)} {cond elt : List SV → R} {x : PyData} {xs : List PyData} {ys : List PyData} (h : compL bnd cond elt (x :: xs) = some ys) : ∃ env, bnd x = some env ∧
    ((cond env = .ok (.bool true) ∧ ∃ y r, elt env = .ok y ∧ compL bnd cond elt xs = some r ∧ ys = y :: r) ∨ (cond env = .ok (.bool false) ∧ compL bnd cond elt xs = some ys)) := by
  have h : (match bnd x with
    | none => none
    | some env => match cond env with
      | .ok (.bool true) => (match elt env with | .ok y => (match compL bnd cond elt xs with | some r => some (y :: r) | none => none) | _ => none)
      | .ok (.bool false) => compL bnd cond elt xs
      | _ => none) = some ys := h
  cases e : bnd x with
  | none =>
      rw [e] at h; cases h
  | some env =>
    rw [e] at h
    refine ⟨env, rfl, ?_⟩
    simp only at h
    split at h
    · rename_i e1
      split at h
      · rename_i y e2
        split at h
        · rename_i r e3
          cases h
          exact .inl ⟨e1, y, r, e2, e3, rfl⟩
        · cases h
      · cases h
    · rename_i e1
      exact .inr ⟨e1, h⟩
    · cases h

/-- the tests of a clause -/
def SC (Z : Wd) (X : Cx) (ifs : List Expr) (c : EV.X) : Prop := PTs X ifs (tT Z X.K c fun _ _ _ _ => False)
theorem PTs.of {X : Cx} {ifs : List Expr} {t t' : TT} (h : PTs X ifs t) (i : ∀ σ H Q, t' σ H Q → t σ H Q) : PTs X ifs t' := ⟨fun pins s σ H Q I k => h.run pins s σ H Q I (i σ H Q k)⟩
theorem sc_nil {Z : Wd} {X : Cx} : SC Z X [] (.c (.bool true)) := PTs.of pts_nil fun σ H Q ⟨B, H0, A, env, rl, h⟩ => by
  obtain ⟨b, e, q⟩ := h
  cases e
  exact q H Gr.refl
theorem sc_one {Z : Wd} {X : Cx} {e : Expr} {c : EV.X} (h : STt Z X e c) : SC Z X [e] c := pts_one (h _ takes0)

section
variable {Z : Wd} {X : Cx} {tg iter elt : Expr} {ifs : List Expr} {p : Pt} {x c y : EV.X} {pos : Pos} {own : List (Str × Nat)} {scope : Scope}
theorem lc_imp {own : List Nat} (hi : inP p own = true) (hy : str y = true) {W : WX} {σ : L2.St} {H : Hp} {Q : VK} (h : tE Z X.K (.comp p x c y own) W σ H Q) :
    tLc (tI Z X.K x W) (tG Z X.K p) (tT Z X.K c fun _ _ _ _ => False) (tE Z X.K y fun _ _ _ _ => False) own σ H Q := by
  obtain ⟨B, H0, A, env, rl, h⟩ := h
  refine ⟨B, H0, A, env, rl, OkR.imp (OkR.bind h) (fun d h2 => ?_) fun c z => z⟩
  have h2 : OkR (match itemsF d with | some xs => (match fitN (lenF xs) && noOwn env own with | true => lstR (compL (fun d => bindP p d (wipeS env own)) (ev Z.C c) (ev Z.C y) xs) | false => .fail) | none => .fail) _ _ := h2
  cases ei : itemsF d with
  | none => rw [ei] at h2; exact h2.elim
  | some ds =>
    rw [ei] at h2
    cases ef : fitN (lenF ds) && noOwn env own with
    | false => simp only [ef] at h2; exact h2.elim
    | true =>
      simp only [ef] at h2
      rw [Bool.and_eq_true] at ef
      have hfit := fitN_le ef.1
      rw [lenF_eq] at hfit
      have hno := ef.2
      cases ec : compL (fun d => bindP p d (wipeS env own)) (ev Z.C c) (ev Z.C y) ds with
      | none => rw [ec] at h2; exact h2.elim
      | some total =>
        rw [ec] at h2
        have h2 : ∀ v H', Post X.K Z.T (Bt B A env) (.comp p x c y own) H H' v (.list total) → Q v H' := h2
        refine ⟨ds, rfl, fun J H1 g sj D hD => ?_⟩
        have t1 := rl.tabs.gr g
        have nT : D ∉ Z.T := t1.notNone hD
        have rl1 := rl.grow g
        have hH0 : H0 D = none := rl1.gr.none0 nT hD
        have hdom := rl1.pre.dom
        have nBD : ¬ Bt B A env D := fun z => hdom D z hD
        let B1 : Addr → Prop := fun a => B a ∨ a = D
        have rlD : Rl X.K Z.T B1 H0 A env σ (upd H1 D (.lst [])) := rl1.addB hD
        refine ⟨fun i m H' => m = ds.length - i ∧ i ≤ ds.length ∧ Rl X.K Z.T B1 H0 A env σ H' ∧ Gr Z.T H1 H' ∧ SrcJ X.K (RwD X.K (Bt B1 A env) D H') J ds ∧
          ∃ acc accd r, H' D = some (.lst acc) ∧ RpA X.K (Bt B1 A env) H' acc accd ∧ acc.length ≤ i ∧ compL (fun d => bindP p d (wipeS env own)) (ev Z.C c) (ev Z.C y) (ds.drop i) = some r ∧ accd ++ r = total, ⟨_, rfl, Nat.zero_le _, rlD, Gr.new t1 hD, sj.imp fun v d r => ?_, [], [], total, upd_same, .nil, Nat.le_refl _, ec, rfl⟩, ?_⟩
        · have r := (r.rw.toD (o := .lst []) hD t1 hdom)
          rcases r with r | ⟨a, xs, es, e1, e2, n, h, r⟩
          · exact .inl (r.less Bt.move)
          · exact .inr ⟨a, xs, es, e1, e2, n, h, r.less Bt.move⟩
        · rintro i m H' ⟨em, hi', rl', g', src, acc, accd, r, hD', ra, hl, ecr, etot⟩
          have src' : SrcJ X.K (Rw X.K (Bt B1 A env) H') J ds := src.imp fun v d r => r.rw
          by_cases hd : i < ds.length
          · have eg : ds[i]? = some ds[i] := List.getElem?_eq_getElem hd
            obtain ⟨go, item⟩ := src'.item eg
            have edr : ds.drop i = ds[i] :: ds.drop (i + 1) := List.drop_eq_getElem_cons hd
            rw [edr] at ecr
            obtain ⟨env1, eb, turn⟩ := compL_cons ecr
            have bt := bt_turn (B := B1) (A := A) hno eb hi
            have t' := rl'.tabs
            refine .inr ⟨go, fun H5 => ∃ m', m' < m ∧ m' = ds.length - (i + 1) ∧ i + 1 ≤ ds.length ∧ Rl X.K Z.T B1 H0 A env σ H5 ∧ Gr Z.T H1 H5 ∧ SrcJ X.K (RwD X.K (Bt B1 A env) D H5) J ds ∧
              ∃ acc accd r, H5 D = some (.lst acc) ∧ RpA X.K (Bt B1 A env) H5 acc accd ∧ acc.length ≤ i + 1 ∧ compL (fun d => bindP p d (wipeS env own)) (ev Z.C c) (ev Z.C y) (ds.drop (i + 1)) = some r ∧ accd ++ r = total, fun H5 ⟨m', hm, w⟩ => ⟨m', hm, w⟩, fun v H'' yv => ?_⟩
            obtain ⟨e1, rv⟩ := item v H'' yv
            subst e1
            refine ⟨ds[i], B1, H0, A, _, env1, rl'.wipe own, rv.less (Bt.wipe own), eb, fun σ' ⟨rl2, b2, w2⟩ => ⟨?_, ?_⟩⟩
            · rw [w2 own hi, wipe_wipe fun _ z => z]
            · rcases turn with ⟨c1, yd, r', ey, ecr', er⟩ | ⟨c0, ecr'⟩
              · refine ⟨B1, H0, A, env1, rl2, ?_⟩
                rw [c1]
                refine ⟨true, rfl, fun H3 g3 => ?_⟩
                dsimp only
                rw [if_pos rfl]
                refine ⟨B1, H0, A, env1, rl2.grow g3, ?_⟩
                rw [ey]
                intro u H4 p4
                have g4 := g3.trans p4.gr
                have hD4 : H4 D = some (.lst acc) := g4.at t' hD' fun ps e => by cases e
                have hB1D : Bt B1 A env D := .inl (.inr rfl)
                have ru : Rp X.K (Bt B1 A env) H4 u yd := by
                  have := p4.rs
                  rw [hy] at this
                  exact Rp.less bt this
                have hlen : acc.length < sizeLine := by
                  have : sizeLine = 16777216 := rfl
                  omega
                have rl4 : Rl X.K Z.T B1 H0 A env σ H4 := rl'.grow g4
                refine ⟨acc, hD4, hlen, ds.length - (i + 1), by omega, rfl, by omega, rl4.writeB hD4 (.inr rfl) hH0, (g'.trans g4).writeNew hD nT, src.imp fun v d r => (r.grow g4 t').write hD4 hB1D, acc ++ [u], accd ++ [yd], r', upd_same, ?_, ?_, ecr', ?_⟩
                · exact ((ra.grow g4 t').snoc ru).write hD4 hB1D
                · rw [List.length_append]; show acc.length + 1 ≤ i + 1; omega
                · rw [List.append_assoc, List.singleton_append, ← er]; exact etot
              · refine ⟨B1, H0, A, env1, rl2, ?_⟩
                rw [c0]
                refine ⟨false, rfl, fun H3 g3 => ?_⟩
                dsimp only
                rw [if_neg (by decide)]
                exact ⟨ds.length - (i + 1), by omega, rfl, by omega, rl'.grow g3, g'.trans g3, src.imp fun v d r => r.grow g3 t', acc, accd, r, g3.at t' hD' (fun ps e => by cases e), ra.grow g3 t', by omega, ecr', etot⟩
          · have ei : ds.drop i = [] := List.drop_eq_nil_of_le (by omega)
            rw [ei] at ecr
            have er : r = [] := by
              have : some ([] : List PyData) = some r := ecr
              cases this; rfl
            subst er
            rw [List.append_nil] at etot
            subst etot
            refine .inl ⟨src'.done (by omega), h2 _ H' ⟨g.trans g', ?_, fun _ ds' e => ?_⟩⟩
            · exact .lst (.inl hD') nBD (ra.less fun a h => Bt.back a (.inl h))
            · cases e
              exact ⟨D, acc, rfl, Gr.none_back g rl.tabs hD, hD', ra.less fun a h => Bt.back a h⟩
variable (hc : X.calm = true) (hN : X.N.Nodup) (hit : SI Z X tg iter x) (ok : BlkOk X.N X.env.scope scope own)
  (hg : ∀ (s : Shared) (H : Hp) (C : Addr) (cl : List (Str × Addr)) (fp : List Addr), SG Z (X.blk s H scope (compEnvC scope cl C X.env) fp) tg p)
  (ht : ∀ (s : Shared) (H : Hp) (C : Addr) (cl : List (Str × Addr)) (fp : List Addr), SC Z (X.blk s H scope (compEnvC scope cl C X.env) fp) ifs c)
  (he : ∀ (s : Shared) (H : Hp) (C : Addr) (cl : List (Str × Addr)) (fp : List Addr), SE Z (X.blk s H scope (compEnvC scope cl C X.env) fp) elt y)
  (hs : ∀ x, foldedSetIterable iter X.env x = pure x) (hi : inP p (own.map (·.2)) = true) (hy : str y = true)
include hc hN hit ok hg ht he hs hi hy
theorem se_comp : SE Z X (.ListComp elt [⟨tg, iter, ifs, 0⟩] scope pos) (.comp p x c y (own.map (·.2))) := fun W tk =>
  PE.of (pe_lc (g := tG Z X.K p) (tt := tT Z X.K c fun _ _ _ _ => False) (te := tE Z X.K y fun _ _ _ _ => False) hc hN (hit W tk) ok (fun s H C cl fp => hg s H C cl fp) (fun s H C cl fp => ht s H C cl fp) (fun s H C cl fp => he s H C cl fp _ takes0) hs) fun σ H Q h => lc_imp hi hy h
end
end ES
end

set_option Elab.async false
set_option linter.all false
set_option autoImplicit false
set_option maxRecDepth 100000
set_option maxHeartbeats 4000007
/-! ES8b: list comprehensions of two clauses; lists of new lists. -/
noncomputable section
namespace ES
open PySem PySem.Spec
open PyProof.Rows L2
open EV GxR

theorem inP_slP : ∀ (q : Pt) (vs : List Nat), (∀ i ∈ slP q, i ∈ vs) → inP q vs = true
  | .nm i, vs, h => by
    show decide (i ∈ vs) = true
    exact decide_eq_true (h i (by show i ∈ [i]; simp))
  | .nil, vs, h => rfl
  | .cons a b, vs, h => by
    show (inP a vs && inP b vs) = true
    have h : ∀ i ∈ slP a ++ slP b, i ∈ vs := h
    rw [inP_slP a vs fun i hi => h i (List.mem_append_left _ hi), inP_slP b vs fun i hi => h i (List.mem_append_right _ hi)]; rfl
abbrev noW : WX := fun _ _ _ _ => False
theorem comp2L_cons {bnd : PyData → Option (List SV)} {inner : List SV → Option (List PyData)} {x : PyData} {xs zs : List PyData} (h : comp2L bnd inner (x :: xs) = some zs) : ∃ env ys r, bnd x = some env ∧ inner env = some ys ∧ comp2L bnd inner xs = some r ∧ zs = ys ++ r := by
  have h : (match bnd x with
    | none => none
    | some env => match inner env with
      | some ys => (match comp2L bnd inner xs with | some r => some (ys ++ r) | none => none)
      | none => none) = some zs := h
  cases e : bnd x with
  | none =>
      rw [e] at h; cases h
  | some env =>
    rw [e] at h
    dsimp only at h
    cases e2 : inner env with
    | none => rw [e2] at h; cases h
    | some ys =>
      rw [e2] at h
      dsimp only at h
      cases e3 : comp2L bnd inner xs with
      | none => rw [e3] at h; cases h
      | some r =>
        rw [e3] at h
        cases h
        exact ⟨env, ys, r, rfl, e2, rfl, rfl⟩
section
variable {Z : Wd} {X : Cx} {tg iter tg1 iter1 elt : Expr} {ifs : List Expr} {p q : Pt} {x x2 c y : EV.X} {pos : Pos} {own : List (Str × Nat)} {scope : Scope}
/-- what the inner clause gives -/
def inn (C : Nat → List PyData → R) (q : Pt) (x2 c y : EV.X) : List SV → Option (List PyData) := fun env1 => match ev C x2 env1 with
  | .ok y' => (match itemsF y' with
    | some ys => (match noOwn env1 (slP q) with | true => compL (fun d => bindP q d (wipeS env1 (slP q))) (ev C c) (ev C y) ys | false => none)
    | none => none)
  | _ => none
theorem lc2_imp {own : List Nat} (hi : inP p own = true) (hs2 : strI x2 = true) (hy : str y = true) {W : WX} {σ : L2.St} {H : Hp} {Q : VK} (h : tE Z X.K (.comp2 p x q x2 c y own) W σ H Q) :
    tLc2 (tI Z X.K x W) (tG Z X.K p) (tT Z X.K (.c (.bool true)) noW) (tI Z X.K x2 noW) (tG Z X.K q) (tT Z X.K c noW) (tE Z X.K y noW) own (slP q) σ H Q := by
  obtain ⟨B, H0, A, env, rl, h⟩ := h
  refine ⟨B, H0, A, env, rl, OkR.imp (OkR.bind h) (fun d h2 => ?_) fun c z => z⟩
  have h2 : OkR (match itemsF d with
    | some xs => (match fitN (lenF xs) && noOwn env own with
      | true => (match comp2L (fun d => bindP p d (wipeS env own)) (inn Z.C q x2 c y) xs with
        | some zs => (match fitN (lenF zs) with | true => .ok (.list zs) | false => .fail)
        | none => .fail)
      | false => .fail)
    | none => .fail) _ _ := h2
  cases ei : itemsF d with
  | none => rw [ei] at h2; exact h2.elim
  | some ds =>
    rw [ei] at h2
    cases ef : fitN (lenF ds) && noOwn env own with
    | false => simp only [ef] at h2; exact h2.elim
    | true =>
      simp only [ef] at h2
      rw [Bool.and_eq_true] at ef
      have hno := ef.2
      cases ec : comp2L (fun d => bindP p d (wipeS env own)) (inn Z.C q x2 c y) ds with
      | none => rw [ec] at h2; exact h2.elim
      | some total =>
        rw [ec] at h2
        dsimp only at h2
        cases ft : fitN (lenF total) with
        | false => rw [ft] at h2; exact h2.elim
        | true =>
        rw [ft] at h2
        have hfit := fitN_le ft
        rw [lenF_eq] at hfit
        have h2 : ∀ v H', Post X.K Z.T (Bt B A env) (.comp2 p x q x2 c y own) H H' v (.list total) → Q v H' := h2
        refine ⟨ds, rfl, fun J H1 g sj D hD => ?_⟩
        have t1 := rl.tabs.gr g
        have nT : D ∉ Z.T := t1.notNone hD
        have rl1 := rl.grow g
        have hH0 : H0 D = none := rl1.gr.none0 nT hD
        have hdom := rl1.pre.dom
        have nBD : ¬ Bt B A env D := fun z => hdom D z hD
        let B1 : Addr → Prop := fun a => B a ∨ a = D
        have rlD : Rl X.K Z.T B1 H0 A env σ (upd H1 D (.lst [])) := rl1.addB hD
        have hB1D : ∀ env', Bt B1 A env' D := fun _ => .inl (.inr rfl)
        let Acc : Hp → List PyData → Prop := fun H' accd => Rl X.K Z.T B1 H0 A env σ H' ∧ Gr Z.T H1 H' ∧ SrcJ X.K (RwD X.K (Bt B1 A env) D H') J ds ∧ ∃ acc, H' D = some (.lst acc) ∧ RpA X.K (Bt B1 A env) H' acc accd
        have accG : ∀ {H' H'' : Hp} {accd : List PyData}, Acc H' accd → Gr Z.T H' H'' → Acc H'' accd := fun {H' H'' accd} ⟨rl', g', src, acc, hD', ra⟩ g2 =>
          ⟨rl'.grow g2, g'.trans g2, src.imp fun v d r => r.grow g2 rl'.tabs, acc, g2.at rl'.tabs hD' (fun ps e => by cases e), ra.grow g2 rl'.tabs⟩
        have accS : ∀ {H' : Hp} {accd : List PyData} {u : V} {yd : PyData} {acc : List V}, Acc H' accd → H' D = some (.lst acc) → Rp X.K (Bt B1 A env) H' u yd → Acc (upd H' D (.lst (acc ++ [u]))) (accd ++ [yd]) := fun {H' accd u yd acc} ⟨rl', g', src, acc', hD', ra⟩ e ru => by
          rw [e] at hD'
          cases hD'
          exact ⟨rl'.writeB e (.inr rfl) hH0, g'.writeNew hD nT, src.imp fun v d r => r.write e (hB1D env), acc ++ [u], upd_same, (ra.snoc ru).write e (hB1D env)⟩
        refine ⟨fun i m H' => m = ds.length - i ∧ i ≤ ds.length ∧ ∃ accd r, Acc H' accd ∧ comp2L (fun d => bindP p d (wipeS env own)) (inn Z.C q x2 c y) (ds.drop i) = some r ∧ accd ++ r = total,
          ⟨_, rfl, Nat.zero_le _, [], total, ⟨rlD, Gr.new t1 hD, sj.imp fun v d r => ?_, [], upd_same, .nil⟩, ec, rfl⟩, ?_⟩
        · have r := (r.rw.toD (o := .lst []) hD t1 hdom)
          rcases r with r | ⟨a, xs, es, e1, e2, n, h, r⟩
          · exact .inl (r.less Bt.move)
          · exact .inr ⟨a, xs, es, e1, e2, n, h, r.less Bt.move⟩
        · rintro i m H' ⟨em, hi', accd, r, ac, ecr, etot⟩
          obtain ⟨rl', g', src, _⟩ := id ac
          have src' : SrcJ X.K (Rw X.K (Bt B1 A env) H') J ds := src.imp fun v d r => r.rw
          by_cases hd : i < ds.length
          · have eg : ds[i]? = some ds[i] := List.getElem?_eq_getElem hd
            obtain ⟨go, item⟩ := src'.item eg
            have edr : ds.drop i = ds[i] :: ds.drop (i + 1) := List.drop_eq_getElem_cons hd
            rw [edr] at ecr
            obtain ⟨env1, zs, r', eb, einn, ecr', er⟩ := comp2L_cons ecr
            subst er
            have bt := bt_turn (B := B1) (A := A) hno eb hi
            refine .inr ⟨go, fun H5 => ∃ m', m' < m ∧ m' = ds.length - (i + 1) ∧ i + 1 ≤ ds.length ∧ ∃ accd r, Acc H5 accd ∧ comp2L (fun d => bindP p d (wipeS env own)) (inn Z.C q x2 c y) (ds.drop (i + 1)) = some r ∧ accd ++ r = total, fun H5 ⟨m', hm, w⟩ => ⟨m', hm, w⟩, fun v H'' yv => ?_⟩
            obtain ⟨e1, rv⟩ := item v H'' yv
            subst e1
            refine ⟨ds[i], B1, H0, A, _, env1, rl'.wipe own, rv.less (Bt.wipe own), eb, fun σ' ⟨rl2, b2, w2⟩ => ⟨by rw [w2 own hi, wipe_wipe fun _ z => z], ?_⟩⟩
            refine ⟨B1, H0, A, env1, rl2, true, rfl, fun H3 g3 => ?_⟩
            dsimp only
            rw [if_pos rfl]
            have rl3 := rl2.grow g3
            have ac3 := accG ac g3
            -- the inner clause
            have einn : (match ev Z.C x2 env1 with
              | .ok y' => (match itemsF y' with
                | some ys => (match noOwn env1 (slP q) with | true => compL (fun d => bindP q d (wipeS env1 (slP q))) (ev Z.C c) (ev Z.C y) ys | false => none)
                | none => none)
              | _ => none) = some zs := einn
            refine ⟨B1, H0, A, env1, rl3, ?_⟩
            cases e2 : ev Z.C x2 env1 with
            | fail => rw [e2] at einn; cases einn
            | exc c' => rw [e2] at einn; cases einn
            | ok y' =>
              rw [e2] at einn
              dsimp only at einn
              cases e3 : itemsF y' with
              | none => rw [e3] at einn; cases einn
              | some es =>
                rw [e3] at einn
                dsimp only at einn
                cases hno1 : noOwn env1 (slP q) with
                | false => rw [hno1] at einn; cases einn
                | true =>
                  rw [hno1] at einn
                  dsimp only at einn
                  refine ⟨es, e3, fun J1 H4 g4 sj1 => ?_⟩
                  rw [hs2] at sj1
                  have rl4 := rl3.grow g4
                  have ac4 := accG ac3 g4
                  refine ⟨fun j k H5 => k = es.length - j ∧ j ≤ es.length ∧ ∃ accd1 s, Acc H5 accd1 ∧ Rl X.K Z.T B1 H0 A env1 σ' H5 ∧ SrcJ X.K (Rp X.K (Bt B1 A env1) H5) J1 es ∧ compL (fun d => bindP q d (wipeS env1 (slP q))) (ev Z.C c) (ev Z.C y) (es.drop j) = some s ∧ accd1 ++ (s ++ r') = total,
                    ⟨_, rfl, Nat.zero_le _, accd, zs, ac4, rl4, sj1, einn, etot⟩, ?_⟩
                  rintro j k H5 ⟨ek, hj', accd1, s, ac5, rl5, src1, ecs, etot1⟩
                  by_cases hje : j < es.length
                  · have eg1 : es[j]? = some es[j] := List.getElem?_eq_getElem hje
                    have src1' : SrcJ X.K (Rw X.K (Bt B1 A env1) H5) J1 es := src1.imp fun v d r => .inl r
                    obtain ⟨go1, item1⟩ := src1'.item eg1
                    have edr1 : es.drop j = es[j] :: es.drop (j + 1) := List.drop_eq_getElem_cons hje
                    rw [edr1] at ecs
                    obtain ⟨env2, eb2, turn⟩ := compL_cons ecs
                    have hiq := inP_slP q (slP q) fun _ z => z
                    have bt2 := bt_turn (B := B1) (A := A) hno1 eb2 hiq
                    refine .inr ⟨go1, fun H8 => ∃ k', k' < k ∧ k' = es.length - (j + 1) ∧ j + 1 ≤ es.length ∧ ∃ accd1 s, Acc H8 accd1 ∧ Rl X.K Z.T B1 H0 A env1 σ' H8 ∧ SrcJ X.K (Rp X.K (Bt B1 A env1) H8) J1 es ∧ compL (fun d => bindP q d (wipeS env1 (slP q))) (ev Z.C c) (ev Z.C y) (es.drop (j + 1)) = some s ∧ accd1 ++ (s ++ r') = total, fun H8 ⟨k', hk, w⟩ => ⟨k', hk, w⟩, fun v1 H6 yv1 => ?_⟩
                    obtain ⟨e4, rv1⟩ := item1 v1 H6 yv1
                    subst e4
                    refine ⟨es[j], B1, H0, A, _, env2, rl5.wipe (slP q), rv1.less (Bt.wipe (slP q)), eb2, fun σ3 ⟨rl6, b6, w6⟩ => ⟨by rw [w6 (slP q) hiq, wipe_wipe fun _ z => z], ?_⟩⟩
                    have t6 := rl6.tabs
                    rcases turn with ⟨c1, yd, s', ey, ecs', es'⟩ | ⟨c0, ecs'⟩
                    · refine ⟨B1, H0, A, env2, rl6, ?_⟩
                      rw [c1]
                      refine ⟨true, rfl, fun H7 g7 => ?_⟩
                      dsimp only
                      rw [if_pos rfl]
                      refine ⟨B1, H0, A, env2, rl6.grow g7, ?_⟩
                      rw [ey]
                      intro u H8 p8
                      have g8 := g7.trans p8.gr
                      have ac8 := accG ac5 g8
                      obtain ⟨_, _, _, acc, hD8, ra8⟩ := id ac8
                      have ru : Rp X.K (Bt B1 A env) H8 u yd := by
                        have := p8.rs
                        rw [hy] at this
                        exact Rp.less (fun a h => bt2 a (bt a h)) this
                      have hlen : acc.length < sizeLine := by
                        have e5 : sizeLine = 16777216 := rfl
                        have e6 := ra8.length
                        have e7 : total.length = accd1.length + (s ++ r').length := by rw [← etot1, List.length_append]
                        omega
                      subst es'
                      refine ⟨acc, hD8, hlen, es.length - (j + 1), by omega, rfl, by omega, accd1 ++ [yd], s', accS ac8 hD8 ru, (rl5.grow g8).writeB hD8 (.inr rfl) hH0, src1.imp fun v d r => (r.grow g8 rl5.tabs).write hD8 (hB1D env1), ecs', ?_⟩
                      rw [← etot1]
                      simp
                    · refine ⟨B1, H0, A, env2, rl6, ?_⟩
                      rw [c0]
                      refine ⟨false, rfl, fun H7 g7 => ?_⟩
                      dsimp only
                      rw [if_neg (by decide)]
                      exact ⟨es.length - (j + 1), by omega, rfl, by omega, accd1, s, accG ac5 g7, rl5.grow g7, src1.imp fun v d r => r.grow g7 rl5.tabs, ecs', etot1⟩
                  · have edr1 : es.drop j = [] := List.drop_eq_nil_of_le (by omega)
                    rw [edr1] at ecs
                    have es0 : s = [] := by
                      have : some ([] : List PyData) = some s := ecs
                      cases this; rfl
                    subst es0
                    have src1' : SrcJ X.K (Rw X.K (Bt B1 A env1) H5) J1 es := src1.imp fun v d r => .inl r
                    exact .inl ⟨src1'.done (by omega), ds.length - (i + 1), by omega, rfl, by omega, accd1, r', ac5, ecr', etot1⟩
          · have ei : ds.drop i = [] := List.drop_eq_nil_of_le (by omega)
            rw [ei] at ecr
            have er : r = [] := by
              have : some ([] : List PyData) = some r := ecr
              cases this; rfl
            subst er
            rw [List.append_nil] at etot
            subst etot
            obtain ⟨_, _, _, acc, hD', ra⟩ := ac
            refine .inl ⟨src'.done (by omega), h2 _ H' ⟨g.trans g', ?_, fun _ ds' e => ?_⟩⟩
            · exact .lst (.inl hD') nBD (ra.less fun a h => Bt.back a (.inl h))
            · cases e
              exact ⟨D, acc, rfl, Gr.none_back g rl.tabs hD, hD', ra.less fun a h => Bt.back a h⟩
variable (hc : X.calm = true) (hN : X.N.Nodup) (hit : SI Z X tg iter x) (ok : BlkOk X.N X.env.scope scope own)
  (hg : ∀ (s : Shared) (H : Hp) (C : Addr) (cl : List (Str × Addr)) (fp : List Addr), SG Z (X.blk s H scope (compEnvC scope cl C X.env) fp) tg p)
  (hit1 : ∀ (s : Shared) (H : Hp) (C : Addr) (cl : List (Str × Addr)) (fp : List Addr), SI Z (X.blk s H scope (compEnvC scope cl C X.env) fp) tg1 iter1 x2)
  (hg1 : ∀ (s : Shared) (H : Hp) (C : Addr) (cl : List (Str × Addr)) (fp : List Addr), SG Z (X.blk s H scope (compEnvC scope cl C X.env) fp) tg1 q)
  (ht : ∀ (s : Shared) (H : Hp) (C : Addr) (cl : List (Str × Addr)) (fp : List Addr), SC Z (X.blk s H scope (compEnvC scope cl C X.env) fp) ifs c)
  (he : ∀ (s : Shared) (H : Hp) (C : Addr) (cl : List (Str × Addr)) (fp : List Addr), SE Z (X.blk s H scope (compEnvC scope cl C X.env) fp) elt y)
  (hs : ∀ x, foldedSetIterable iter X.env x = pure x) (hs1 : ∀ env x, foldedSetIterable iter1 env x = pure x) (hi : inP p (own.map (·.2)) = true) (hv : ∀ i ∈ slP q, i ∈ own.map (·.2)) (hs2 : strI x2 = true) (hy : str y = true)
include hc hN hit ok hg hit1 hg1 ht he hs hs1 hi hv hs2 hy
theorem se_comp2 : SE Z X (.ListComp elt [⟨tg, iter, [], 0⟩, ⟨tg1, iter1, ifs, 0⟩] scope pos) (.comp2 p x q x2 c y (own.map (·.2))) := fun W tk =>
  PE.of (pe_lc2 (g := tG Z X.K p) (tt := tT Z X.K (.c (.bool true)) noW) (wi1 := tI Z X.K x2 noW) (g1 := tG Z X.K q) (tt1 := tT Z X.K c noW) (te := tE Z X.K y noW) (vs1 := slP q) hc hN (hit W tk) ok hv (fun s H C cl fp => hg s H C cl fp) (fun s H C cl fp => sc_nil) (fun s H C cl fp => hit1 s H C cl fp _ takes0) (fun s H C cl fp => hg1 s H C cl fp) (fun s H C cl fp => ht s H C cl fp) (fun s H C cl fp => he s H C cl fp _ takes0) hs hs1) fun σ H Q h => lc2_imp hi hs2 hy h
end
end ES
end

set_option Elab.async false
set_option linter.all false
set_option autoImplicit false
set_option maxRecDepth 100000
set_option maxHeartbeats 4000007
/-! ES8c: a list of new lists, owned with them. -/
noncomputable section
namespace ES
open PySem PySem.Spec
open PyProof.Rows L2
open EV GxR

section
variable {K : PySem.W.Frag} {T : List Addr} {B B' : Addr → Prop} {H H0 H' : Hp} {A : Nat → List Addr} {env : List SV} {σ : L2.St} {p D : Addr} {ps : List Addr} {dss : List (List PyData)} {v : V} {d : PyData} {xs : List V} {ds : List PyData}
/-- a fresh address that has come is put into B -/
theorem Rl.growB (r : Rl K T B H0 A env σ H) (g : Gr T H H') (hp : H p = none) (hp' : H' p ≠ none) : Rl K T (fun a => B a ∨ a = p) H0 A env σ H' := by
  have r' := r.grow g
  have hB : ∀ a, Bt (fun a => B a ∨ a = p) A env a → Bt B A env a ∨ a = p := fun a q => by
    rcases q with (q | q) | q
    · exact .inl (.inl q)
    · exact .inr q
    · exact .inl (.inr q)
  refine ⟨r'.gr, r'.tabs, fun a ha => ?_, r.len, fun j o' hj => ?_, r.inj, fun j d hj => ?_⟩
  · rcases ha with ha | ha
    · exact r'.dom a ha
    · rw [ha]; exact hp'
  · obtain ⟨h1, h2, h3, h5⟩ := r.own j o' hj
    refine ⟨h1, ((h2.more hp).less hB).grow g r.tabs, h3, fun a ha => ⟨(h5 a ha).1, fun q => ?_⟩⟩
    rcases q with q | q
    · exact (h5 a ha).2 q
    · obtain ⟨u, e, _⟩ := h2.dom a ha
      rw [q, hp] at e; cases e
  · obtain ⟨v, h1, h2⟩ := r.val j d hj
    exact ⟨v, h1, ((h2.more hp).less hB).grow g r.tabs⟩
theorem RwD.moreG (g : Gr T H H') (t : Tabs T H) (hp : H p = none) (r : RwD K B D H v d) : RwD K (fun a => B a ∨ a = p) D H' v d := by
  rcases r with r | ⟨a, xs, ds, e1, e2, n, h, r⟩
  · exact .inl ((r.more hp).grow g t)
  · exact .inr ⟨a, xs, ds, e1, e2, n, g.at t h (fun ps e => by cases e), (r.more hp).grow g t⟩
theorem RwD.less (h : ∀ a, B' a → B a) (r : RwD K B D H v d) : RwD K B' D H v d := by
  rcases r with r | ⟨a, xs, ds, e1, e2, n, q, r⟩
  · exact .inl (r.less h)
  · exact .inr ⟨a, xs, ds, e1, e2, n, q, r.less h⟩
theorem LLs.snoc (h : LLs K B H ps dss) (hp : H p = some (.lst xs)) (r : RpA K B H xs ds) : LLs K B H (ps ++ [p]) (dss ++ [ds]) := by
  induction h with
  | nil => exact .cons hp r .nil
  | cons a b t ih => exact .cons a b ih
theorem LLs.grow (g : Gr T H H') (t : Tabs T H) (h : LLs K B H ps dss) : LLs K B H' ps dss := h.imp (fun _ _ _ e => g.at t e fun ps z => by cases z) fun _ _ r => r.grow g t
theorem LLs.less (hb : ∀ a, B' a → B a) (h : LLs K B H ps dss) : LLs K B' H ps dss := h.imp (fun _ _ _ e => e) fun _ _ r => r.less hb
theorem LLs.moreG (g : Gr T H H') (t : Tabs T H) (hp : H p = none) (h : LLs K B H ps dss) : LLs K (fun a => B a ∨ a = p) H' ps dss := h.imp (fun _ _ _ e => g.at t e fun ps z => by cases z) fun _ _ r => (r.more hp).grow g t
theorem LLs.writeO {u o : HO} (hp : H p = some u) (w : Wr u) (hB : B p) (hn : p ∉ ps) (h : LLs K B H ps dss) : LLs K B (upd H p o) ps dss := h.imp (fun q hq _ e => by rw [upd_ne fun z => hn (by rw [← z]; exact hq)]; exact e) fun _ _ r => r.writeO hp w hB
theorem lists_cons {x : PyData} {r : List PyData} (h : lists (x :: r) = some dss) : ∃ es r', x = .list es ∧ lists r = some r' ∧ dss = es :: r' := by
  cases x with
  | list es =>
    cases e : lists r with
    | none =>
      have h2 : (match lists r with | some r => some (es :: r) | none => none) = some dss := h
      rw [e] at h2; cases h2
    | some r' =>
      have h2 : (match lists r with | some r => some (es :: r) | none => none) = some dss := h
      rw [e] at h2
      cases h2
      exact ⟨es, r', rfl, rfl, rfl⟩
  | _ => exact absurd (show (none : Option (List (List PyData))) = some dss from h) (by simp)
end
section
variable {Z : Wd} {X : Cx} {p : Pt} {x c y : EV.X}
theorem llc_imp {own : List Nat} (hi : inP p own = true) (hf : frs y = true) {W : WX} {σ : L2.St} {H : Hp} {Q : VK} {B : Addr → Prop} {H0 : Hp} {A : Nat → List Addr} {env : List SV} (rl : Rl X.K Z.T B H0 A env σ H)
    (h : OkR (ev Z.C (.comp p x c y own) env) (fun d => ∃ xs dss, d = .list xs ∧ lists xs = some dss ∧ ∀ D ps H', Gr Z.T H H' → (D :: ps).Nodup → (∀ a ∈ D :: ps, H a = none) → H' D = some (.lst (ps.map .ref)) → LLs X.K (fun a => Bt B A env a ∨ a ∈ D :: ps) H' ps dss → Q (.ref D) H')
      fun c => ∀ dd H', Gr Z.T H H' → W (Z.xv c) dd σ H') :
    tLc (tI Z X.K x W) (tG Z X.K p) (tT Z X.K c noW) (tE Z X.K y noW) own σ H Q := by
  refine ⟨B, H0, A, env, rl, OkR.imp (OkR.bind h) (fun d h2 => ?_) fun c z => z⟩
  have h2 : OkR (match itemsF d with | some xs => (match fitN (lenF xs) && noOwn env own with | true => lstR (compL (fun d => bindP p d (wipeS env own)) (ev Z.C c) (ev Z.C y) xs) | false => .fail) | none => .fail) _ _ := h2
  cases ei : itemsF d with
  | none => rw [ei] at h2; exact h2.elim
  | some ds =>
    rw [ei] at h2
    cases ef : fitN (lenF ds) && noOwn env own with
    | false => simp only [ef] at h2; exact h2.elim
    | true =>
      simp only [ef] at h2
      rw [Bool.and_eq_true] at ef
      have hfit := fitN_le ef.1
      rw [lenF_eq] at hfit
      have hno := ef.2
      cases ec : compL (fun d => bindP p d (wipeS env own)) (ev Z.C c) (ev Z.C y) ds with
      | none => rw [ec] at h2; exact h2.elim
      | some total =>
        rw [ec] at h2
        obtain ⟨xs0, dss, e0, el, h2⟩ := h2
        cases e0
        refine ⟨ds, rfl, fun J H1 g sj D hD => ?_⟩
        have t1 := rl.tabs.gr g
        have nT : D ∉ Z.T := t1.notNone hD
        have rl1 := rl.grow g
        have hH0 : H0 D = none := rl1.gr.none0 nT hD
        have hdom := rl1.pre.dom
        let Bq : List Addr → Addr → Prop := fun ps a => B a ∨ a = D ∨ a ∈ ps
        have eq0 : Bq [] = fun a => B a ∨ a = D := by funext a; simp [Bq]
        have eqS : ∀ ps p, Bq (ps ++ [p]) = fun a => Bq ps a ∨ a = p := fun ps p => by
          funext a
          simp only [Bq, List.mem_append, List.mem_singleton, eq_iff_iff]
          constructor
          · rintro (h | h | h | h)
            · exact .inl (.inl h)
            · exact .inl (.inr (.inl h))
            · exact .inl (.inr (.inr h))
            · exact .inr h
          · rintro ((h | h | h) | h)
            · exact .inl h
            · exact .inr (.inl h)
            · exact .inr (.inr (.inl h))
            · exact .inr (.inr (.inr h))
        have btS : ∀ ps p a, Bt (Bq (ps ++ [p])) A env a → Bt (Bq ps) A env a ∨ a = p := fun ps p a q => by
          rw [eqS] at q
          rcases q with (q | q) | q
          · exact .inl (.inl q)
          · exact .inr q
          · exact .inl (.inr q)
        have rlD : Rl X.K Z.T (Bq []) H0 A env σ (upd H1 D (.lst [])) := by rw [eq0]; exact rl1.addB hD
        refine ⟨fun i m H' => m = ds.length - i ∧ i ≤ ds.length ∧ ∃ ps accd r r', Rl X.K Z.T (Bq ps) H0 A env σ H' ∧ Gr Z.T H1 H' ∧ SrcJ X.K (RwD X.K (Bt (Bq ps) A env) D H') J ds ∧ H' D = some (.lst (ps.map .ref)) ∧ LLs X.K (Bt (Bq ps) A env) H' ps accd ∧
          (D :: ps).Nodup ∧ (∀ a ∈ ps, H1 a = none) ∧ ps.length ≤ i ∧ compL (fun d => bindP p d (wipeS env own)) (ev Z.C c) (ev Z.C y) (ds.drop i) = some r ∧ lists r = some r' ∧ accd ++ r' = dss,
          ⟨_, rfl, Nat.zero_le _, [], [], total, dss, rlD, Gr.new t1 hD, sj.imp fun v d r => ?_, upd_same, .nil, (by simp), (fun a h => absurd h (by simp)), Nat.le_refl _, ec, el, rfl⟩, ?_⟩
        · have r := (r.rw.toD (o := .lst []) hD t1 hdom)
          refine RwD.less (fun a q => ?_) r
          rw [eq0] at q
          exact Bt.move a q
        · rintro i m H' ⟨em, hi', ps, accd, r, r', rl', g', src, hD', lls, nd, fr, hlen, ecr, elr, etot⟩
          have src' : SrcJ X.K (Rw X.K (Bt (Bq ps) A env) H') J ds := src.imp fun v d r => r.rw
          by_cases hd : i < ds.length
          · have eg : ds[i]? = some ds[i] := List.getElem?_eq_getElem hd
            obtain ⟨go, item⟩ := src'.item eg
            have edr : ds.drop i = ds[i] :: ds.drop (i + 1) := List.drop_eq_getElem_cons hd
            rw [edr] at ecr
            obtain ⟨env1, eb, turn⟩ := compL_cons ecr
            have bt := bt_turn (B := Bq ps) (A := A) hno eb hi
            have t' := rl'.tabs
            refine .inr ⟨go, fun H5 => ∃ m', m' < m ∧ m' = ds.length - (i + 1) ∧ i + 1 ≤ ds.length ∧ ∃ ps accd r r', Rl X.K Z.T (Bq ps) H0 A env σ H5 ∧ Gr Z.T H1 H5 ∧ SrcJ X.K (RwD X.K (Bt (Bq ps) A env) D H5) J ds ∧ H5 D = some (.lst (ps.map .ref)) ∧ LLs X.K (Bt (Bq ps) A env) H5 ps accd ∧
              (D :: ps).Nodup ∧ (∀ a ∈ ps, H1 a = none) ∧ ps.length ≤ i + 1 ∧ compL (fun d => bindP p d (wipeS env own)) (ev Z.C c) (ev Z.C y) (ds.drop (i + 1)) = some r ∧ lists r = some r' ∧ accd ++ r' = dss, fun H5 ⟨m', hm, w⟩ => ⟨m', hm, w⟩, fun v H'' yv => ?_⟩
            obtain ⟨e1, rv⟩ := item v H'' yv
            subst e1
            refine ⟨ds[i], Bq ps, H0, A, _, env1, rl'.wipe own, rv.less (Bt.wipe own), eb, fun σ' ⟨rl2, b2, w2⟩ => ⟨by rw [w2 own hi, wipe_wipe fun _ z => z], ?_⟩⟩
            rcases turn with ⟨c1, yd, s, ey, ecr', er⟩ | ⟨c0, ecr'⟩
            · refine ⟨Bq ps, H0, A, env1, rl2, ?_⟩
              rw [c1]
              refine ⟨true, rfl, fun H3 g3 => ?_⟩
              dsimp only
              rw [if_pos rfl]
              refine ⟨Bq ps, H0, A, env1, rl2.grow g3, ?_⟩
              rw [ey]
              intro u H4 p4
              subst er
              obtain ⟨es, s', ey', els, edss⟩ := lists_cons elr
              subst ey' edss
              obtain ⟨q, ys, eu, hq3, hq4, rq⟩ := p4.fr hf es rfl
              subst eu
              have rl3 := rl'.grow g3
              have t3 := rl3.tabs
              have hD3 : H3 D = some (.lst (ps.map .ref)) := g3.at t' hD' fun ps e => by cases e
              have hD4 : H4 D = some (.lst (ps.map .ref)) := p4.gr.at t3 hD3 fun ps e => by cases e
              have lls3 := lls.grow g3 t'
              have nqD : q ≠ D := fun z => by rw [z, hD3] at hq3; cases hq3
              have nqp : q ∉ ps := fun z => by
                obtain ⟨_, e⟩ := lls3.dom q z
                rw [hq3] at e; cases e
              have hq1 : H1 q = none := Gr.none_back (g'.trans g3) t1 hq3
              have rl4 : Rl X.K Z.T (Bq (ps ++ [q])) H0 A env σ H4 := by
                rw [eqS]
                exact rl3.growB p4.gr hq3 (by rw [hq4]; intro z; cases z)
              have hBD : Bq (ps ++ [q]) D := .inr (.inl rfl)
              have hl : ps.length < sizeLine := by
                have : sizeLine = 16777216 := rfl
                omega
              obtain ⟨nd1, nd2⟩ := List.nodup_cons.mp nd
              refine ⟨ps.map .ref, hD4, by rw [List.length_map]; exact hl, ds.length - (i + 1), by omega, rfl, by omega, ps ++ [q], accd ++ [es], s, s', rl4.writeB hD4 hBD hH0, ((g'.trans g3).trans p4.gr).writeNew hD nT, src.imp fun v d r => ?_, ?_, ?_, ?_, ?_, ?_, ecr', els, ?_⟩
              · exact ((((r.grow g3 t').moreG p4.gr t3 hq3).less (btS ps q))).write hD4 (.inl hBD)
              · rw [upd_same, List.map_append]; rfl
              · refine LLs.writeO hD4 True.intro (.inl hBD) ?_ (LLs.snoc ((lls3.moreG p4.gr t3 hq3).less (btS ps q)) hq4 (rq.less fun a h => ?_))
                · rw [List.mem_append, List.mem_singleton]
                  rintro (z | z)
                  · exact nd1 z
                  · exact nqD z.symm
                · rcases btS ps q a h with h | h
                  · exact .inl (bt a h)
                  · exact .inr h
              · refine List.nodup_cons.mpr ⟨?_, List.nodup_append.mpr ⟨nd2, by simp, ?_⟩⟩
                · rw [List.mem_append, List.mem_singleton]
                  rintro (z | z)
                  · exact nd1 z
                  · exact nqD z.symm
                · intro a ha b hb e
                  rw [List.mem_singleton] at hb
                  rw [e, hb] at ha
                  exact nqp ha
              · intro a ha
                rw [List.mem_append, List.mem_singleton] at ha
                rcases ha with z | z
                · exact fr a z
                · rw [z]; exact hq1
              · rw [List.length_append]; show ps.length + 1 ≤ i + 1; omega
              · rw [← etot]; simp
            · refine ⟨Bq ps, H0, A, env1, rl2, ?_⟩
              rw [c0]
              refine ⟨false, rfl, fun H3 g3 => ?_⟩
              dsimp only
              rw [if_neg (by decide)]
              exact ⟨ds.length - (i + 1), by omega, rfl, by omega, ps, accd, r, r', rl'.grow g3, g'.trans g3, src.imp fun v d r => r.grow g3 t', g3.at t' hD' (fun ps e => by cases e), lls.grow g3 t', nd, fr, by omega, ecr', elr, etot⟩
          · have ei : ds.drop i = [] := List.drop_eq_nil_of_le (by omega)
            rw [ei] at ecr
            have er : r = [] := by
              have : some ([] : List PyData) = some r := ecr
              cases this; rfl
            subst er
            have er' : r' = [] := by
              have : some ([] : List (List PyData)) = some r' := elr
              cases this; rfl
            subst er'
            rw [List.append_nil] at etot
            subst etot
            refine .inl ⟨src'.done (by omega), h2 D ps H' (g.trans g') nd (fun a ha => ?_) hD' (lls.less fun a q => ?_)⟩
            · rcases List.mem_cons.mp ha with z | z
              · rw [z]; exact Gr.none_back g rl.tabs hD
              · exact Gr.none_back g rl.tabs (fr a z)
            · rcases q with q | q
              · rcases q with q | q
                · exact .inl (.inl q)
                · exact .inr q
              · rcases List.mem_cons.mp q with z | z
                · exact .inl (.inr (.inl z))
                · exact .inl (.inr (.inr z))
end
end ES
end

set_option Elab.async false
set_option linter.all false
set_option autoImplicit false
set_option maxRecDepth 100000
set_option maxHeartbeats 4000009
/-! ESR: list(reversed(..)), tuple(reversed(..)), of lists and tuples. -/
noncomputable section
namespace ESR
open PySem PySem.Spec
open PyProof.Rows
open RT

def NoSize (T : String) : Prop := (Value.type T == Value.type "list") = false ∧ (Value.type T == Value.type "tuple") = false
/-- an iterator's hint tells nothing that matters -/
def Hint (prog : Program) (w : World) (it : Addr) (ok : Heap → Prop) : Prop := ∀ (A : Around) (E : Value → Shared → Prop) (s : Shared) (Q : Bool → Shared → Prop), ok s.heap → (∀ b tkn, Q b { s with toks := tkn }) → wpAny (model prog w) A (Builtin.List.listLengthHint (.ref it)) Q E s
section
variable {prog : Program}
  {w : World} {A : Around} {E : Value → Shared → Prop} {s : Shared}
theorem extend_walk {R : Result → Shared → Prop} {it : Addr} {T : String} {fp wr : List Addr} {n : Nat} {P : Nat → Value → Prop} {St : Nat → Heap → Prop} (W : Walks prog w A.in1 it fp wr n P St) (hs0 : St 0 s.heap) (hT : s.TypeIs (.ref it) T) (hn1 : NoSize T) (hlen : n ≤ sizeLine)
    (hint : Hint prog w it (St 0)) (S : Addr) (hSf : S ∉ fp) (hSi : S ≠ it) (res : Value) (c₀ : Nat) (hS : s.heap.get? S = some { cls := .type "list", data := .seq #[] c₀ })
    (hR : ∀ h' tkn acc' c', (∀ b o, b ∉ S :: wr → s.heap.get? b = some o → h'.get? b = some o) → h'.get? S = some { cls := .type "list", dict := none, data := .seq acc' c', slots := #[] } → ItemsOf P acc' n → R (.ok (.ret res)) { s with heap := h', toks := tkn }) :
    wpAny (model prog w) A.in1 (Builtin.List.listExtendWith (.ref S) (.ref it)
        res)
      (fun fin s' => match fin with | .done f => R (.ok f) s' | .again c' => c'.quiet = true ∧ codeAny (model prog w) A c' R s') (fun e s' => R (.error e) s') s :=
          by
  have key : ∀ (h : Heap) (c₁ tkn : Nat), St 0 h → (∀ b o, b ≠ S → s.heap.get? b = some o → h.get? b = some o) →
      h.get? S = some { cls := .type "list", data := .seq #[] c₁ } → codeAny (model prog w) A (.builtin "list.extend.loop" ⟨[.ref S, .ref it, res], []⟩) R { s with heap := h, toks := tkn } := by
    intro h c₁ tkn hI hk hS₁
    refine codeAny_extend_loopS W.toS hlen S hSf res n 0 _ #[] c₁ rfl (Nat.zero_le _) hI hS₁ (ItemsOf.nil _) fun s' acc' c' hm hS' hacc => ?_
    rw [Moved.eq_with hm]
    refine hR s'.heap s'.toks acc' c' (fun b o hb e => hm.heap b o hb (hk b o (fun z => hb (by rw [z]; exact List.mem_cons_self ..)) e)) hS' hacc
  unfold PySem.Builtin.List.listExtendWith
  refine wpAny_bind (wpAny_typeOf hT
      ?_)
  have h1 : Builtin.List.listSameRef (.ref S) (.ref it) = false := by simp [Builtin.List.listSameRef, hSi]
  simp only [h1, hn1.1, hn1.2, Bool.or_false, Bool.false_eq_true, if_false]
  refine wpAny_bind (W.self 0 _ _ _ hs0 ?_)
  refine wpAny_bind (wpAny_holding (hint _ _ _ _ hs0 fun b tkn => ?_))
  refine wpAny_ite_split (fun _ => ?_) (fun _ => wpAny_pure ⟨plainId_quiet PySem.F.plain_extend_loop _, key _ c₀ _ hs0 (fun b o _ e => e) hS⟩)
  refine wpAny_bind (wpAny_rule
      ?_)
  refine wpAny_bind ?_
  show wpAny _ _ (updateSeq S (·.push .none) >>= fun _ =>
      updateSeq S (·.pop)) _ _ _
  refine wpAny_bind (wpAny_updateSeq hS rfl
      ?_)
  have hS₂ :=
      Heap.get?_update_self (Obj.mapSeq (·.push Value.none)) hS rfl
  refine wpAny_updateSeq (hz :=
      by seq_fits) hS₂ rfl ?_
  have hS₃ :=
      Heap.get?_update_self (Obj.mapSeq (·.pop)) hS₂ rfl
  have oth : ∀ b o, b ≠ S → s.heap.get? b = some o → ((s.heap.update S (Obj.mapSeq (·.push Value.none))).update S (Obj.mapSeq (·.pop))).get? b = some o := fun b o hb e =>
    (Heap.get?_update_other _ _ (Ne.symm hb)).trans ((Heap.get?_update_other _ _ (Ne.symm hb)).trans e)
  exact wpAny_pure ⟨plainId_quiet PySem.F.plain_extend_loop _, key _ _ _ (W.frame 0 _ _ hs0 fun b hb o e => oth b o (fun z => hSf (by rw [← z]; exact hb)) e) oth hS₃⟩
theorem collect_walk {it : Addr} {T : String} {fp wr : List Addr} {n : Nat} {P : Nat → Value → Prop} {St : Nat → Heap → Prop} {Q : List Value → Shared → Prop} (W : ∀ A : Around, A.handled = none → Walks prog w A it fp wr n P St) (hh : A.handled = none) (hs0 : St 0 s.heap) (hT : s.TypeIs (.ref it) T) (hn1 : NoSize T) (hlen : n ≤ sizeLine)
    (hint : Hint prog w it (St 0)) (hfp : ∀ b ∈ fp, b < s.heap.objs.size)
    (hQ : ∀ (h' : Heap) (tkn : Nat) (acc : Array Value), (∀ b o, b ∉ wr → s.heap.get? b = some o → h'.get? b = some o) → ItemsOf P acc n → Q acc.toList { s with heap := h', toks := tkn }) :
    wpAny (model prog w) A (collect (.ref it)) Q E s :=
        by
  have hI : it < s.heap.objs.size := by
    obtain ⟨o, e, _⟩ := id hT
    exact Heap.lt_size e
  have hSf : s.heap.objs.size ∉ fp := fun h => absurd (hfp _ h) (Nat.lt_irrefl _)
  unfold collect
  let Rr : Result → Shared → Prop := fun r s' => ∃ (h' : Heap) (tkn : Nat) (acc : Array Value) (c' : Nat), r = .ok (.ret (.ref s.heap.objs.size)) ∧ s' = { s with heap := h', toks := tkn } ∧ (∀ b o, b ∉ s.heap.objs.size :: wr → (s.heap.push { cls := .type "list", data := .seq ([] : List Value).toArray }).get? b = some o → h'.get? b = some o) ∧
    h'.get? s.heap.objs.size = some { cls := .type "list", dict := none, data := .seq acc c', slots := #[] } ∧ ItemsOf P acc n
  refine wpAny_bind (wpAny_runValue (codeAny_mono (?X : codeAny _ _ _ Rr _) fun r s1 hr => ?_))
  case X =>
    refine codeAny_builtin PySem.F.entry_proto_collect ?_
    rw [Around.under_plainId (PySem.F.plain_proto_collect) _]
    show wpAny _ A.in1 (newList [] >>= fun l' =>
        again (.builtin "list.__iadd__" ⟨[l', .ref it], []⟩)) _ _ s
    refine wpAny_bind (wpAny_newObj_type
        ?_)
    refine wpAny_pure ⟨plainId_quiet PySem.F.plain_list_iadd _, codeAny_builtin PySem.F.entry_list_iadd ?_⟩
    rw [Around.under_plainId (PySem.F.plain_list_iadd) _]
    have hS₁ : (s.heap.push { cls := .type "list", data := .seq ([] : List Value).toArray }).get? s.heap.objs.size = some { cls := .type "list", data := .seq ([] : List Value).toArray } :=
        Heap.get?_push_size _ rfl
    have k0 : ∀ b o, s.heap.get? b = some o → (s.heap.push { cls := .type "list", data := .seq ([] : List Value).toArray }).get? b = some o := fun b o e => Heap.get?_push_of_some _ e
    have hs1 : St 0 (s.heap.push { cls := .type "list", data := .seq ([] : List Value).toArray }) := (W _ hh).frame 0 _ _ hs0 fun b _ o e => k0 b o e
    have hT1 : ({ s with heap := s.heap.push { cls := .type "list", data := .seq ([] : List Value).toArray } } : Shared).TypeIs (.ref it) T := by
      obtain ⟨o, e, c⟩ := id hT
      exact ⟨o, k0 _ _ e, c⟩
    show wpAny _ A.in1 (Builtin.List.listExtendWith (.ref s.heap.objs.size) (.ref it) (.ref s.heap.objs.size)) _ _
        _
    exact extend_walk (A := A) (R := Rr) (s := { s with heap := s.heap.push { cls := .type "list", data := .seq ([] : List Value).toArray } }) (W _ hh) hs1 hT1 hn1 hlen hint s.heap.objs.size hSf (Nat.ne_of_gt hI) (.ref s.heap.objs.size) _ hS₁ fun h' tkn acc' c' hk hS' hacc => ⟨h', tkn, acc', c', rfl, rfl, hk, hS', hacc⟩
  obtain ⟨h', tkn, acc, c', rfl, rfl, hk, hS', hacc⟩ := hr
  show wpAny _ A (load s.heap.objs.size >>= _) _ _
      _
  refine wpAny_bind (wpAny_load hS'
      ?_)
  refine wpAny_pure ?_
  refine hQ h' tkn acc (fun b o hb e => hk b o (fun hmem => ?_) (Heap.get?_push_of_some _ e)) hacc
  rcases List.mem_cons.mp hmem with ez | hmem
  · exact absurd (Heap.lt_size e) (by rw [ez]; exact Nat.lt_irrefl _)
  · exact hb hmem
/-- list(it), tuple(it) -/
theorem call_list_walk {it : Addr} {T : String} {fp wr : List Addr} {n : Nat} {P : Nat → Value → Prop} {St : Nat → Heap → Prop} {Q : Value → Shared → Prop} (W : ∀ A : Around, A.handled = none → Walks prog w A it fp wr n P St) (hh : A.handled = none) (hs0 : St 0 s.heap) (hT : s.TypeIs (.ref it) T) (hn1 : NoSize T) (hlen : n ≤ sizeLine)
    (hint : Hint prog w it (St 0)) (hfp : ∀ b ∈ fp, b < s.heap.objs.size)
    (hQ : ∀ h' tkn acc' c', (∀ b o, b ∉ wr → s.heap.get? b = some o → h'.get? b = some o) → h'.get? s.heap.objs.size = some { cls := .type "list", dict := none, data := .seq acc' c', slots := #[] } → ItemsOf P acc' n → Q (.ref s.heap.objs.size) { s with heap := h', toks := tkn }) :
    wpAny (model prog w) A (call (.type "list") [.ref it]) Q E s :=
        by
  have hI : it < s.heap.objs.size := by
    obtain ⟨o, e, _⟩ := id hT
    exact Heap.lt_size e
  refine callType_codes (Q₁ :=
      fun obj s₁ => obj = .ref s.heap.objs.size ∧ s₁ = { s with heap := s.heap.push { cls := .type "list", data := .seq #[] } }) PySem.F.called_list (PySem.F.typeCall_list_1 _) PySem.F.entry_list_init
    (code_list_new _ ⟨rfl, rfl⟩) fun obj s₁ hq1 => ?_
  obtain ⟨rfl, rfl⟩ := hq1
  have hS : (s.heap.push { cls := .type "list", data := .seq #[] }).get? s.heap.objs.size = some { cls := .type "list", data := .seq #[] } :=
      Heap.get?_push_size _ rfl
  refine ⟨⟨_, hS, rfl⟩, (PySem.F.args_list_init_2 _ _), ?_⟩
  show wpAny _ _ (do let old ← Builtin.List.listItems (.ref s.heap.objs.size); Builtin.List.listUpdate (.ref s.heap.objs.size) (fun _ => #[]); letGo old.toList.reverse; Builtin.List.listExtendWith (.ref s.heap.objs.size) (.ref it) .none) _ _ _
  refine wpAny_bind ?_
  unfold Builtin.List.listItems
  refine wpAny_bind (wpAny_seqItems hS rfl (wpAny_pure
      ?_))
  show wpAny _ _ (updateSeq s.heap.objs.size (fun _ => #[]) >>= fun _ => letGo (#[] : Array Value).toList.reverse >>= fun _ => Builtin.List.listExtendWith (.ref s.heap.objs.size) (.ref it) .none) _ _ _
  refine wpAny_bind (wpAny_updateSeq hS rfl
      ?_)
  have hS₂ :=
      Heap.get?_update_self (Obj.mapSeq (fun _ => (#[] : Array Value))) hS rfl
  have oth : ∀ b o, s.heap.get? b = some o → ((s.heap.push { cls := .type "list", data := .seq #[] }).update s.heap.objs.size (Obj.mapSeq (fun _ => (#[] : Array Value)))).get? b = some o :=
    fun b o e => (Heap.get?_update_other _ _ (Nat.ne_of_gt (Heap.lt_size e))).trans (Heap.get?_push_of_some _ e)
  refine wpAny_bind (wpAny_letGo
      ?_)
  obtain ⟨o, eo, co⟩ := id hT
  refine extend_walk (A := A.in1) (s := { s with heap := (s.heap.push { cls := .type "list", data := .seq #[] }).update s.heap.objs.size (Obj.mapSeq (fun _ => (#[] : Array Value))) }) (W _ hh) ((W _ hh).frame 0 _ _ hs0 fun b _ o e => oth b o e) ⟨o, oth _ _ eo, co⟩ hn1 hlen hint s.heap.objs.size (fun h => absurd (hfp _ h) (Nat.lt_irrefl _)) (Nat.ne_of_gt hI) .none _ hS₂ fun h' tkn acc' c' hk hS' hacc => ?_
  refine ⟨rfl, hQ h' tkn acc' c' (fun b o hb e => hk b o (fun hmem => ?_) (oth b o e)) hS' hacc⟩
  rcases List.mem_cons.mp hmem with ez | hmem
  · exact absurd (Heap.lt_size e) (by rw [ez]; exact Nat.lt_irrefl _)
  · exact hb hmem

/-! ### reversed(list) -/
theorem hint_lri (it l : Addr) (n : Nat) (items : Array Value) : Hint prog w it (fun h => 0 ≤ n ∧ h.IsRevIter it l ((items.size : Int) - 1 - ((0 : Nat) : Int)) ∧ h.IsList l items) := fun A E s Q hok hQ => by
  have hT : s.TypeIs (.ref it) "list_reverseiterator" := Heap.IsRevIter.typeIs hok.2.1
  unfold PySem.Builtin.List.listLengthHint
  refine wpAny_bind (wpAny_specialOf hT nolen_lri
      ?_)
  show wpAny _ A (specialOf (Value.ref it) (Str.ofString "__length_hint__") >>= _) _ _ _
  refine wpAny_bind (wpAny_specialOf hT RT.hint_lri ?_)
  generalize hid : ("list_reverseiterator.__length_hint__" : String) = idz
  wp_delta
  rw [show splitId idz = some ("list_reverseiterator", "__length_hint__") from by subst hid; decide +kernel]
  subst hid
  refine wpAny_bind (wpAny_isInstance (b := true) hT (by rw [PySem.isSubtype_type]; kernel_rfl) ?_)
  exact wpAny_pure (hQ false s.toks)
theorem nosize_lri : NoSize "list_reverseiterator" := ⟨by decide, by decide⟩
theorem call_list_rev {it l : Addr} {items : Array Value} {Q : Value → Shared → Prop} (hh : A.handled = none) (hI : s.heap.IsRevIter it l ((items.size : Int) - 1)) (hl : s.heap.IsList l items) (hne : l ≠ it) (hn : items.size ≤ sizeLine)
    (hQ : ∀ (h' : Heap) (tkn : Nat) (acc : Array Value) (c : Nat), (∀ b o, b ≠ it → s.heap.get? b = some o → h'.get? b = some o) → h'.get? s.heap.objs.size = some { cls := .type "list", dict := none, data := .seq acc c, slots := #[] } → ItemsOf (fun i v => items[items.size - 1 - i]? = some v) acc items.size → Q (.ref s.heap.objs.size) { s with heap := h', toks := tkn }) :
    wpAny (model prog w) A (call (.type "list") [.ref it]) Q E s :=
        by
  obtain ⟨oi, hoi, _⟩ := id hI
  obtain ⟨ol, hol, _⟩ := id hl
  have e0 : (items.size : Int) - 1 - ((0 : Nat) : Int) = (items.size : Int) - 1 := by omega
  refine call_list_walk (fun A hh => Walks.listRev (prog := prog) (w := w) (A := A) hh it l hne items) hh ⟨Nat.zero_le _, by rw [e0]; exact hI, hl⟩ (Heap.IsRevIter.typeIs hI) nosize_lri hn (hint_lri it l items.size items) (fun b hb => ?_) fun h' tkn acc c hk hS hacc => hQ h' tkn acc c (fun b o hb e => hk b o (fun z => hb (List.mem_singleton.mp z)) e) hS hacc
  simp only
      [List.mem_cons, List.not_mem_nil, or_false] at hb
  rcases hb with rfl | rfl
  · exact Heap.lt_size hoi
  · exact Heap.lt_size hol
/-! ### reversed(tuple) -/
theorem Walks.rt {A : Around} (hh : A.handled = none) (I t : Addr) (hne : t ≠ I) (items : Array Value) (hsz : items.size ≤ sizeLine) :
    Walks prog w A I [I, t] [I] items.size (fun i v => items[items.size - 1 - i]? = some v) (fun i h => i ≤ items.size ∧ IsRt h I t ((items.size : Int) - 1 - (i : Int)) ∧ IsTup h t items) where
  sub :=
      fun b hb => by simp at hb; simp [hb]
  frame := fun _ _ _ x hk => ⟨x.1, x.2.1.at fun o e => hk I (by simp) o e, by
    obtain ⟨o, e, r⟩ := x.2.2
    exact ⟨o, hk t (by simp) o e, r⟩⟩
  item :=
      fun i s Q E hi x hQ => by
    have e : (items.size : Int) - 1 - (i : Int) = ((items.size - 1 - i : Nat) : Int) :=
        by omega
    have hI := x.2.1
    rw [e] at hI
    have hx : items[items.size - 1 - i]? = some (items[items.size - 1 - i]'(by omega)) :=
        Array.getElem?_eq_getElem (by omega)
    refine next_rt_item hI x.2.2 hx hsz fun h' hI' hs' => ?_
    have e2 : ((items.size - 1 - i : Nat) : Int) - 1 = (items.size : Int) - 1 - ((i + 1 : Nat) : Int) :=
        by omega
    rw [e2] at hI'
    obtain ⟨o, eo, r⟩ := x.2.2
    exact hQ _ h' (s.toks + 1) hx ⟨hi, hI', ⟨o, (hs'.2 t hne).trans eo, r⟩⟩ fun b o hb eo => hs'.extBut b o (fun h => hb (by simp [h])) eo
  done := fun s Q E x hQ => by
    have e : (items.size : Int) - 1 - (items.size : Int) = -1 :=
        by omega
    have hI := x.2.1
    rw [e] at hI
    exact next_rt_end hh hI fun h' he' => hQ h' s.toks fun b o hb eo => he' b o (fun h => hb (by simp [h])) eo
  self := fun _ _ _ _ x hQ => iter_rt x.2.1 hQ
theorem nosize_rt : NoSize "reversed" := ⟨by decide, by decide⟩
theorem nolen_rt : typeLookup (.type "reversed") "__len__" = pure none := by rw [PySem.typeLookup_type, builtinLookup_eq_fast]; kernel_rfl
theorem slot_rt_hint : Slot "reversed" "__length_hint__" "reversed.__length_hint__" :=
  .of (owner := "reversed") (n := "__length_hint__") (by rw [PySem.typeLookup_type, builtinLookup_eq_fast]; kernel_rfl) (by decide +kernel) (by decide +kernel) (by decide +kernel)
    (by first | exact .inl (by decide +kernel) | exact .inr (by decide +kernel)) (by rw [PySem.isSubtype_type]; kernel_rfl)
theorem entry_rt_hint : entryFor table "reversed.__length_hint__" = some Builtin.«reversed.__length_hint__» := entryFor_of_tree (by kernel_rfl)
theorem args_rt_hint (a : Value) : argsOk "reversed.__length_hint__" ⟨[a], []⟩ := by
  unfold argsOk; rw [signature?_of (id := "reversed.__length_hint__") (n := ['_', '_', 't', 'n', 'i', 'h', '_', 'h', 't', 'g', 'n', 'e', 'l', '_', '_']) (o := ['d', 'e', 's', 'r', 'e', 'v', 'e', 'r']) (by kernel_rfl) owner_rt]; kernel_rfl
theorem hint_rt (it t : Addr) (n : Nat) (items : Array Value) (hsz : items.size ≤ sizeLine) : Hint prog w it (fun h => 0 ≤ n ∧ IsRt h it t ((items.size : Int) - 1 - ((0 : Nat) : Int)) ∧ IsTup h t items) := fun A E s Q hok hQ => by
  have hI := hok.2.1
  have ht := hok.2.2
  have hT : s.TypeIs (.ref it) "reversed" := hI.typeIs
  rw [sizeLine_eq] at hsz
  obtain ⟨o, ho, hc, hd⟩ := id hI
  unfold PySem.Builtin.List.listLengthHint
  refine wpAny_bind (wpAny_specialOf hT nolen_rt ?_)
  show wpAny _ A (specialOf (Value.ref it) (Str.ofString "__length_hint__") >>= _) _ _ _
  refine wpAny_bind (wpAny_specialOf hT slot_rt_hint.lookup ?_)
  generalize hid : ("reversed.__length_hint__" : String) = idz
  wp_delta
  rw [show splitId idz = some ("reversed", "__length_hint__") from by subst hid; decide +kernel]
  subst hid
  refine wpAny_bind (wpAny_isInstance (b := true) hT (by rw [PySem.isSubtype_type]; kernel_rfl) ?_)
  refine wpAny_ite_split (fun hab =>
      absurd hab (by decide)) (fun _ => ?_)
  refine wpAny_ite_split (fun hab =>
      absurd hab (by decide +kernel)) (fun _ => ?_)
  refine wpAny_bind (wpAny_rule
      ?_)
  refine wpAny_bind (wpAny_of_eq (slot_rt_hint.bind _) ?_)
  try dsimp only
  refine wpAny_bind (wpAny_attempt (wpAny_call_entry slot_rt_hint hT entry_rt_hint ?_ (args_rt_hint _)))
  unfold Builtin.«reversed.__length_hint__»
  refine wpAny_bind (wpAny_of_eq (a := Value.ref it) rfl ?_)
  try dsimp only
  refine wpAny_bind (wpAny_field ho hd (x :=
      .ref t) rfl ?_)
  try dsimp only
  refine wpAny_ite_split (fun hab => Bool.noConfusion (hab.symm.trans (show (Value.ref t == Value.none) = false by first | rfl | simp))) (fun _ => ?_)
  refine wpAny_bind (len_tuple ht (by omega) ?_)
  refine wpAny_bind (wpAny_of_eq (a :=
      some ((items.size : Nat) : Int)) rfl ?_)
  try dsimp only
  refine wpAny_bind (wpAny_field (s := { s with toks := s.toks + 1 + 1 }) ho hd (x := rawInt ((items.size : Int) - 1 - ((0 : Nat) : Int))) rfl ?_)
  try dsimp only
  show wpAny _ _ (if (items.size : Int) < ((items.size : Int) - 1 - ((0 : Nat) : Int)) + 1 then _ else _) _ _ _
  rw [if_neg (by omega)]
  refine wpAny_bind (wpAny_mkInt
      ?_)
  refine wpAny_pure
      ⟨_, rfl, ?_⟩
  try dsimp only
  generalize hk : ((items.size : Int) - 1 - ((0 : Nat) : Int)) + 1 = k
  have hk0 : 0 ≤ k ∧ k ≤ 16777216 := by omega
  have htl : Builtin.List.listTooLong (k.toNat) = false := by simp [Builtin.List.listTooLong, sizeLine]; omega
  have hfi : Builtin.List.listFitsIndex k = true := by simp [Builtin.List.listFitsIndex]; omega
  refine wpAny_bind (m :=
      asInt? _) (wpAny_pure ?_)
  try dsimp only
  refine wpAny_ite_split (fun hab => absurd hab (by rw [hfi]; decide)) (fun _ => ?_)
  refine wpAny_ite_split (fun hab => absurd hab (by omega)) (fun _ => ?_)
  refine wpAny_ite_split (fun hab => absurd hab (by rw [htl]; decide)) (fun _ => ?_)
  exact wpAny_pure (hQ _ _)
theorem collect_rt {it t : Addr} {items : Array Value} {Q : List Value → Shared → Prop} (hh : A.handled = none) (hI : IsRt s.heap it t ((items.size : Int) - 1)) (ht : IsTup s.heap t items) (hne : t ≠ it) (hn : items.size ≤ sizeLine)
    (hQ : ∀ (h' : Heap) (tkn : Nat) (acc : Array Value), (∀ b o, b ≠ it → s.heap.get? b = some o → h'.get? b = some o) → ItemsOf (fun i v => items[items.size - 1 - i]? = some v) acc items.size → Q acc.toList { s with heap := h', toks := tkn }) :
    wpAny (model prog w) A (collect (.ref it)) Q E s :=
        by
  obtain ⟨oi, hoi, _⟩ := id hI
  obtain ⟨ol, hol, _⟩ := id ht
  have e0 : (items.size : Int) - 1 - ((0 : Nat) : Int) = (items.size : Int) - 1 := by omega
  refine collect_walk (fun A hh => Walks.rt (prog := prog) (w := w) (A := A) hh it t hne items hn) hh ⟨Nat.zero_le _, by rw [e0]; exact hI, ht⟩ hI.typeIs nosize_rt hn (hint_rt it t items.size items hn) (fun b hb => ?_) fun h' tkn acc hk hacc => hQ h' tkn acc (fun b o hb e => hk b o (fun z => hb (List.mem_singleton.mp z)) e) hacc
  simp only
      [List.mem_cons, List.not_mem_nil, or_false] at hb
  rcases hb with rfl | rfl
  · exact Heap.lt_size hoi
  · exact Heap.lt_size hol
theorem call_list_rt {it t : Addr} {items : Array Value} {Q : Value → Shared → Prop} (hh : A.handled = none) (hI : IsRt s.heap it t ((items.size : Int) - 1)) (ht : IsTup s.heap t items) (hne : t ≠ it) (hn : items.size ≤ sizeLine)
    (hQ : ∀ (h' : Heap) (tkn : Nat) (acc : Array Value) (c : Nat), (∀ b o, b ≠ it → s.heap.get? b = some o → h'.get? b = some o) → h'.get? s.heap.objs.size = some { cls := .type "list", dict := none, data := .seq acc c, slots := #[] } → ItemsOf (fun i v => items[items.size - 1 - i]? = some v) acc items.size → Q (.ref s.heap.objs.size) { s with heap := h', toks := tkn }) :
    wpAny (model prog w) A (call (.type "list") [.ref it]) Q E s :=
        by
  obtain ⟨oi, hoi, _⟩ := id hI
  obtain ⟨ol, hol, _⟩ := id ht
  have e0 : (items.size : Int) - 1 - ((0 : Nat) : Int) = (items.size : Int) - 1 := by omega
  refine call_list_walk (fun A hh => Walks.rt (prog := prog) (w := w) (A := A) hh it t hne items hn) hh ⟨Nat.zero_le _, by rw [e0]; exact hI, ht⟩ hI.typeIs nosize_rt hn (hint_rt it t items.size items hn) (fun b hb => ?_) fun h' tkn acc c hk hS hacc => hQ h' tkn acc c (fun b o hb e => hk b o (fun z => hb (List.mem_singleton.mp z)) e) hS hacc
  simp only
      [List.mem_cons, List.not_mem_nil, or_false] at hb
  rcases hb with rfl | rfl
  · exact Heap.lt_size hoi
  · exact Heap.lt_size hol
theorem code_tuple_new_rt {it t : Addr} {items : Array Value} {Q₁ : Value → Shared → Prop} (hh : A.handled = none) (hI : IsRt s.heap it t ((items.size : Int) - 1)) (ht : IsTup s.heap t items) (hne : t ≠ it) (hn : items.size ≤ sizeLine)
    (h : ∀ (h' : Heap) (tkn : Nat) (acc : Array Value), (∀ b o, b ≠ it → s.heap.get? b = some o → h'.get? b = some o) → ItemsOf (fun i v => items[items.size - 1 - i]? = some v) acc items.size →
      Q₁ (.ref h'.objs.size) { s with heap := h'.push { cls := .type "tuple", data := .seq acc }, toks := tkn }) :
    codeAny (model prog w) A (.call (.builtin "tuple.__new__") ⟨[.type "tuple", .ref it], []⟩) (wants Q₁ E) s :=
        by
  refine codeAny_of_tree ?_
  show wpAny _ A.in1 (do checkBuiltinCall "tuple.__new__" ⟨[.type "tuple", .ref it], []⟩; again (.builtin "tuple.__new__" ⟨[.type "tuple", .ref it], []⟩)) _ _
      s
  refine wpAny_bind (wpAny_of_eq (PySem.F.newCall_tuple_1 _) (wpAny_pure ⟨plainId_quiet PySem.F.plain_tuple_new _, codeAny_builtin PySem.F.entry_tuple_new ?_⟩))
  rw [Around.under_plainId (PySem.F.plain_tuple_new) _]
  have hsub := sub_tuple_self
  have hinit :=
      init_tuple_lookup
  have hmh := madeHere_tuple
  have hTI : s.TypeIs (.ref it) "reversed" := hI.typeIs
  have hh1 : A.in1.handled = none :=
      hh
  wp_walk using wpAny_typeOf hTI, collect_rt (A := A.in1) hh1 hI ht hne hn
  intro h' tkn acc hk hacc
  show wpAny _ _ (Builtin.Tuple.tupleExact acc.toList.toArray >>= fun v =>
      ret v) _ _ _
  unfold PySem.Builtin.Tuple.tupleExact
  refine wpAny_bind (wpAny_newObj_type ?_ (by show acc.toList.toArray.size ≤ sizeLine; simp only [Array.toArray_toList]; rw [hacc.1]; exact
      hn))
  refine wpAny_pure ?_
  have e : acc.toList.toArray = acc :=
      by simp
  rw [e]
  exact h h' tkn acc hk hacc
theorem call_tuple_rt {it t : Addr} {items : Array Value} {Q : Value → Shared → Prop} (hh : A.handled = none) (hI : IsRt s.heap it t ((items.size : Int) - 1)) (ht : IsTup s.heap t items) (hne : t ≠ it) (hn : items.size ≤ sizeLine)
    (hQ : ∀ (h' : Heap) (tkn : Nat) (acc : Array Value), (∀ b o, b ≠ it → s.heap.get? b = some o → h'.get? b = some o) → ItemsOf (fun i v => items[items.size - 1 - i]? = some v) acc items.size →
      Q (.ref h'.objs.size) { s with heap := h'.push { cls := .type "tuple", data := .seq acc }, toks := tkn }) :
    wpAny (model prog w) A (call (.type "tuple") [.ref it]) Q E s :=
        by
  refine callType_codes (Q₁ := fun obj s₁ => s₁.TypeIs obj "tuple" ∧ Q obj s₁) PySem.F.called_tuple (PySem.F.typeCall_tuple_1 _) F.entry_object_init
    (code_tuple_new_rt (A := A.in1) hh hI ht hne hn fun h' tkn acc hk hacc => ⟨⟨_, Heap.get?_push_size _ rfl, rfl⟩, hQ h' tkn acc hk hacc⟩) fun obj s₁ hq1 => ?_
  exact ⟨hq1.1, PySem.F.args_object_init_2 obj _, object_init_meets PySem.F.called_tuple.init.lookup PySem.F.called_tuple.made (by decide) prog w A.in1 _ s₁ ⟨hq1.1, rfl, hq1.2⟩⟩
end

/-! ### rules -/
open L2
/-- list(reversed(x)), tuple(reversed(x)): x a list or a tuple -/
def tRev (K : PySem.W.Frag) (te : TE) (mk : List V → HO) : TE := fun σ H Q => te σ H fun v H1 => ∃ (a : Addr) (xs : List V), v = .ref a ∧ (SqL K H1 a xs ∨ SqT K H1 a xs) ∧ ∀ q, H1 q = none → Q (.ref q) (upd H1 q (mk xs.reverse))
section
variable {X : Cx}
theorem pe_listRev {e : Expr} {te : TE} {p p2 pos pos2 : Pos} (hc : X.calm = true) (hg : Gl X "list") (hm : X.mg "list" = none) (hg2 : Gl X "reversed") (hm2 : X.mg "reversed" = none) (he : PE X e te)
    (hs : starEach [e] X.env = (false, eval e X.env) :: starEach [] X.env :=
        by rfl)
    (hs2 : starEach [.Call (.Name "reversed" p2) [e] [] pos2] X.env = (false, eval (.Call (.Name "reversed" p2) [e] [] pos2) X.env) :: starEach [] X.env :=
        by rfl) :
    PE X (.Call (.Name "list" p) [.Call (.Name "reversed" p2) [e] [] pos2] [] pos) (tRev X.K te .lst) := by
  refine ⟨fun pn s σ H Q I h => ?_⟩
  refine Call_ (ld_blt I hg hm boot_list (PyProof.Rows.callWith_type1 (args_cons (Call_ (ld_blt I hg2 hm2 PyProof.Rows.boot_reversed (PyProof.Rows.callWith_type1 (args_cons (thn (he.run pn s σ H _ I h) fun u s1 ⟨v, H1, I1, r1, q1⟩ => args_nil ?_) hs) hs rfl))) hs2) hs2 rfl))
  obtain ⟨a, xs, ev, hq, q⟩ :=
      q1
  subst ev
  obtain rfl : u = Value.ref a :=
      r1
  have fp := I1.fpOk (H' := H1) (b := s1.heap.objs.size) (Nat.le_refl _) (I1.hok.fresh (Nat.le_refl _))
  rcases hq with hq | hq
  · obtain ⟨its, rv, p', hz⟩ :=
        I1.list hq
    refine call_reversed_list p'.isList (args_nil
        ?_)
    have k0 : ∀ b o, s1.heap.get? b = some o → (s1.heap.push (revObj a ((its.toArray.size : Int) - 1))).get? b = some o :=
        fun b o e => Heap.get?_push_of_some _ e
    have I2 : Inv X pn σ H1 { s1 with heap := s1.heap.push (revObj a ((its.toArray.size : Int) - 1)) } := I1.kept (t' := s1.toks) k0
    have hl := p'.isList
    obtain ⟨ol, hol, _⟩ := id hl
    have hne : a ≠ s1.heap.objs.size :=
        Nat.ne_of_lt (Heap.lt_size hol)
    have hn : its.toArray.size ≤ sizeLine :=
        by rw [List.size_toArray, ← rv.length]; exact hz
    refine call_list_rev (s := { s1 with heap := s1.heap.push (revObj a ((its.toArray.size : Int) - 1)) }) (I1.ok.hd hc) ⟨_, Heap.get?_push_size _ rfl, rfl, rfl⟩ (hl.push _) hne hn fun h' tkn acc c hk hS hi => ?_
    refine ⟨.ref _, upd H1 _ (.lst xs.reverse), I2.turnedNew (t' := tkn) (ch := [s1.heap.objs.size]) (T := (s1.heap.push (revObj a ((its.toArray.size : Int) - 1))).objs.size) (fun b o hb e => hk b o (fun z => hb (by rw [z]; exact List.mem_singleton.mpr rfl)) e) (fun b hb => by rw [List.mem_singleton.mp hb]; exact fp) (Nat.le_refl _) (show ObjOk X.prog X.w _ _ _ (.lst xs.reverse) from ⟨by rw [List.length_reverse]; exact hz, acc.toList, c, vals_rev rv hi, ?_⟩), rfl, q _ (I2.hok.fresh (Nat.le_refl _))⟩
    rw [Array.toArray_toList]; exact hS
  · obtain ⟨its, rv, p', hz⟩ :=
        I1.tuple hq
    have hl := rv.length
    have hn0 := line63
    have hn : its.toArray.size ≤ sizeLine :=
        by rw [List.size_toArray, ← rv.length]; exact hz
    refine call_reversed_tup p' (fun A E Q k => len_tuple p' (by simp only [List.size_toArray] <;> omega) k) (args_nil ?_)
    have k0 : ∀ b o, s1.heap.get? b = some o → (s1.heap.push (rtObj a ((its.toArray.size : Int) - 1))).get? b = some o := fun b o e => Heap.get?_push_of_some _ e
    have I2 : Inv X pn σ H1 { s1 with heap := s1.heap.push (rtObj a ((its.toArray.size : Int) - 1)), toks := s1.toks + 1 + 1 } := I1.kept (t' := s1.toks + 1 + 1) k0
    obtain ⟨ol, hol, pr⟩ := id p'
    have hne : a ≠ s1.heap.objs.size :=
        Nat.ne_of_lt (Heap.lt_size hol)
    refine call_list_rt (s := { s1 with heap := s1.heap.push (rtObj a ((its.toArray.size : Int) - 1)), toks := s1.toks + 1 + 1 }) (I1.ok.hd hc) ⟨_, Heap.get?_push_size _ rfl, rfl, rfl⟩ ⟨ol, k0 _ _ hol, pr⟩ hne hn fun h' tkn acc c hk hS hi => ?_
    refine ⟨.ref _, upd H1 _ (.lst xs.reverse), I2.turnedNew (t' := tkn) (ch := [s1.heap.objs.size]) (T := (s1.heap.push (rtObj a ((its.toArray.size : Int) - 1))).objs.size) (fun b o hb e => hk b o (fun z => hb (by rw [z]; exact List.mem_singleton.mpr rfl)) e) (fun b hb => by rw [List.mem_singleton.mp hb]; exact fp) (Nat.le_refl _) (show ObjOk X.prog X.w _ _ _ (.lst xs.reverse) from ⟨by rw [List.length_reverse]; exact hz, acc.toList, c, vals_rev rv hi, ?_⟩), rfl, q _ (I2.hok.fresh (Nat.le_refl _))⟩
    rw [Array.toArray_toList]; exact hS
theorem pe_tupRevA {e : Expr} {te : TE} {p p2 pos pos2 : Pos} (hc : X.calm = true) (hg : Gl X "tuple") (hm : X.mg "tuple" = none) (hg2 : Gl X "reversed") (hm2 : X.mg "reversed" = none) (he : PE X e te)
    (hs : starEach [e] X.env = (false, eval e X.env) :: starEach [] X.env :=
        by rfl)
    (hs2 : starEach [.Call (.Name "reversed" p2) [e] [] pos2] X.env = (false, eval (.Call (.Name "reversed" p2) [e] [] pos2) X.env) :: starEach [] X.env :=
        by rfl) :
    PE X (.Call (.Name "tuple" p) [.Call (.Name "reversed" p2) [e] [] pos2] [] pos) (tRev X.K te .tup) := by
  refine ⟨fun pn s σ H Q I h => ?_⟩
  refine Call_ (ld_blt I hg hm boot_tuple (PyProof.Rows.callWith_type1 (args_cons (Call_ (ld_blt I hg2 hm2 PyProof.Rows.boot_reversed (PyProof.Rows.callWith_type1 (args_cons (thn (he.run pn s σ H _ I h) fun u s1 ⟨v, H1, I1, r1, q1⟩ => args_nil ?_) hs) hs rfl))) hs2) hs2 rfl))
  obtain ⟨a, xs, ev, hq, q⟩ :=
      q1
  subst ev
  obtain rfl : u = Value.ref a :=
      r1
  obtain ⟨f0, f1, f2, f3, f4, f5⟩ :=
      I1.fpOk (H' := H1) (b := s1.heap.objs.size) (Nat.le_refl _) (I1.hok.fresh (Nat.le_refl _))
  rcases hq with hq | hq
  · obtain ⟨its, rv, p', hz⟩ :=
        I1.list hq
    refine call_reversed_list p'.isList (args_nil
        ?_)
    have k0 : ∀ b o, s1.heap.get? b = some o → (s1.heap.push (revObj a ((its.toArray.size : Int) - 1))).get? b = some o :=
        fun b o e => Heap.get?_push_of_some _ e
    have I2 : Inv X pn σ H1 { s1 with heap := s1.heap.push (revObj a ((its.toArray.size : Int) - 1)) } := I1.kept (t' := s1.toks) k0
    have hl := p'.isList
    obtain ⟨ol, hol, _⟩ := id hl
    have hne : a ≠ s1.heap.objs.size :=
        Nat.ne_of_lt (Heap.lt_size hol)
    have hn : its.toArray.size ≤ sizeLine :=
        by rw [List.size_toArray, ← rv.length]; exact hz
    refine call_tuple_rev (s := { s1 with heap := s1.heap.push (revObj a ((its.toArray.size : Int) - 1)) }) (I1.ok.hd hc) ⟨_, Heap.get?_push_size _ rfl, rfl, rfl⟩ (hl.push _) hne hn fun h' tkn acc hk hi => ?_
    have I3 : Inv X pn σ H1 { s1 with heap := h', toks := tkn } := I2.turned (t' := tkn) (fun b o hb e => hk b o hb e) f0 f1 f3 f4 f5
    refine ⟨.ref h'.objs.size, upd H1 h'.objs.size (.tup xs.reverse), I3.laid (t' := tkn) (fun c o e => Heap.get?_push_of_some _ e) (Nat.le_refl _) (show ObjOk X.prog X.w _ _ _ (.tup xs.reverse) from ⟨by rw [List.length_reverse]; exact hz, acc.toList, vals_rev rv hi, ?_⟩), rfl, q _ (I3.hok.fresh (Nat.le_refl _))⟩
    rw [Array.toArray_toList]
    exact IsTup.new _ _
  · obtain ⟨its, rv, p', hz⟩ :=
        I1.tuple hq
    have hl := rv.length
    have hn0 := line63
    have hn : its.toArray.size ≤ sizeLine :=
        by rw [List.size_toArray, ← rv.length]; exact hz
    refine call_reversed_tup p' (fun A E Q k => len_tuple p' (by simp only [List.size_toArray] <;> omega) k) (args_nil ?_)
    have k0 : ∀ b o, s1.heap.get? b = some o → (s1.heap.push (rtObj a ((its.toArray.size : Int) - 1))).get? b = some o := fun b o e => Heap.get?_push_of_some _ e
    have I2 : Inv X pn σ H1 { s1 with heap := s1.heap.push (rtObj a ((its.toArray.size : Int) - 1)), toks := s1.toks + 1 + 1 } := I1.kept (t' := s1.toks + 1 + 1) k0
    obtain ⟨ol, hol, pr⟩ := id p'
    have hne : a ≠ s1.heap.objs.size :=
        Nat.ne_of_lt (Heap.lt_size hol)
    refine call_tuple_rt (s := { s1 with heap := s1.heap.push (rtObj a ((its.toArray.size : Int) - 1)), toks := s1.toks + 1 + 1 }) (I1.ok.hd hc) ⟨_, Heap.get?_push_size _ rfl, rfl, rfl⟩ ⟨ol, k0 _ _ hol, pr⟩ hne hn fun h' tkn acc hk hi => ?_
    have I3 : Inv X pn σ H1 { s1 with heap := h', toks := tkn } := I2.turned (t' := tkn) (fun b o hb e => hk b o hb e) f0 f1 f3 f4 f5
    refine ⟨.ref h'.objs.size, upd H1 h'.objs.size (.tup xs.reverse), I3.laid (t' := tkn) (fun c o e => Heap.get?_push_of_some _ e) (Nat.le_refl _) (show ObjOk X.prog X.w _ _ _ (.tup xs.reverse) from ⟨by rw [List.length_reverse]; exact hz, acc.toList, vals_rev rv hi, ?_⟩), rfl, q _ (I3.hok.fresh (Nat.le_refl _))⟩
    rw [Array.toArray_toList]
    exact IsTup.new _ _
end
end ESR
end

set_option Elab.async false
set_option linter.all false
set_option autoImplicit false
set_option maxRecDepth 100000
set_option maxHeartbeats 4000007
/-! ES9: calls. -/
noncomputable section
namespace ES
open PySem PySem.Spec PyProof.Rows L2 EV GxR

/-- what a def promises -/
def spF (Z : Wd) (K : PySem.W.Frag) (np i : Nat) : Sp := fun vs H Q E => ∃ B ds, Pre Z.T B H ∧ RpA K B H vs ds ∧ vs.length = np ∧
  OkR (Z.C i ds) (fun d => ∀ v H', Gr Z.T H H' → Rp K B H' v d → Q v H') fun c => ∀ dd H', Gr Z.T H H' → E (Z.xv c) dd H'
section
variable {Z : Wd} {X : Cx} {a b c e it : Expr} {es : List Expr} {x y z : EV.X} {pos p : Pos} {n : Str}
theorem se_call {k np i : Nat} {f : Addr} {fd : FuncData} {ps : List Str} (F : FnOk X.prog X.w X.K X.mg X.base (L2.CX X.prog X.w) k f fd ps (spF Z X.K np i)) (hr : Room k X.A) (hg : Gl X n) (hm : X.mg n = some (.ref f))
    (hk : PySem.W.keepIn X.K (.ref f) = true) (hb : L2.Binds X.K fd ps []) (ha : SA Z X (e :: es) x) (hst : strA x = true) (hl : (e :: es).length = np) (hdb : (n == ("__debug__" : Str)) = false) (hs : nstL (e :: es) = true) :
    SE Z X (.Call (.Name n p) (e :: es) [] pos) (.call i x) := fun W tk => by
  have hs' := hs
  rw [nstL, Bool.and_eq_true] at hs'
  refine PE.of (pe_callS (E := WE W) F hr hg hm hk hb (passAt tk) (ha W tk) hdb (star_of hs'.1 _) (stars_of hs'.2 _)) fun σ H Q ⟨B, H0, A, env, rl, h⟩ => ?_
  refine ⟨B, H0, A, env, rl, OkR.imp (OkR.bind h) (fun d q => ?_) fun c z => z⟩
  cases d with
  | tuple ds =>
    refine ⟨ds, rfl, fun vs H1 g r rs hlen => ⟨Bt B A env, ds, (rl.grow g).pre, rs hst, by rw [hlen, hl], ?_⟩⟩
    have q : OkR (Z.C i ds) _ _ := q
    exact OkR.imp q (fun d q v H' g' rp => q v H' (.gr_ (g.trans g') rfl rfl rp)) fun c z dd H' g' => z dd H' (g.trans g')
  | _ => exact q.elim
theorem se_isi {T : String} {f : Bf} {m : Str} {p2 : Pos} (hT : T = "int" ∨ T = "tuple" ∨ T = "str") (hf : ∀ d, bltF f [d] = rb (isD T d)) (hg : Gl X "isinstance") (hm : X.mg "isinstance" = none) (hg2 : Gl X m) (hm2 : X.mg m = none) (hv : bootBuiltins m = some (.type T)) (hn2 : m ≠ "__name__") (hd2 : (m == ("__debug__" : Str)) = false)
    (ha : SE Z X a x) (hx : str x = true) (hn : nst a = true) : SE Z X (.Call (.Name "isinstance" p) [a, .Name m p2] [] pos) (.blt f (.cons x .nil)) := fun W tk => by
  have pm : PE X (.Name m p2) (tC (.ty T)) := pe_bltn hg2 hm2 hv rfl hn2 hd2
  have pa : PA X [a, .Name m p2] _ := pa_cons (ha W tk) (pa_cons pm pa_nil rfl) (star_of hn _)
  refine PE.of (pe_callB (call_isD T hT) hg hm (by decide +kernel) pa (by decide) (by decide) (star_of hn _) rfl) fun σ H Q ⟨B, H0, A, env, rl, h⟩ => ?_
  have h : OkR ((((ev Z.C x env).bind fun a => (R.ok (.tuple [])).bind fun y => match y with | .tuple ys => .ok (.tuple (a :: ys)) | _ => .fail)).bind fun x => match x with | .tuple xs => bltF f xs | _ => .fail) _ _ := h
  refine ⟨B, H0, A, env, rl, OkR.imp (OkR.bind (OkR.bind h)) (fun d q v H1 p1 => ?_) fun c z => z⟩
  have q : OkR (bltF f [d]) _ _ := q
  rw [hf d] at q
  have r := p1.rs
  rw [hx] at r
  exact ⟨Bt B A env, v, d, rfl, r, q _ H1 ⟨p1.gr, .bl _, fun _ ds e => by cases e⟩⟩
theorem se_srev {p3 kp : Pos} {j : Nat} (hu : X.A.units + 64 < cLine) (hg : Gl X "sorted") (hm : X.mg "sorted" = none) (ha : SE Z X a x) (hn : nst a = true) :
    SE Z X (.Call (.Name "sorted" p) [a] [⟨some "reverse", .Constant (.bool true) j p3, kp⟩] pos) (.blt .sortedRev (.cons x .nil)) := fun W tk => by
  have pk : PK X [⟨some "reverse", .Constant (.bool true) j p3, kp⟩] _ := pk_cons pe_bl pk_nil
  refine PE.of (pe_callBK (blt_sortedRev (T := Z.T) hu) hg hm (by decide +kernel) (pa_cons (ha W tk) pa_nil (star_of hn _)) pk (by decide) (by decide) (by rw [star_of hn]; rfl) (by rw [star_of hn]; rfl) rfl rfl rfl) fun σ H Q ⟨B, H0, A, env, rl, h⟩ => ?_
  have h : OkR ((((ev Z.C x env).bind fun a => (R.ok (.tuple [])).bind fun y => match y with | .tuple ys => .ok (.tuple (a :: ys)) | _ => .fail)).bind fun x => match x with | .tuple xs => bltF .sortedRev xs | _ => .fail) _ _ := h
  refine ⟨B, H0, A, env, rl, OkR.imp (OkR.bind (OkR.bind h)) (fun d q v H1 p1 => ?_) fun c z => z⟩
  have q : OkR (bltF .sortedRev [d]) _ _ := q
  exact ⟨rfl, Bt B A env, [d], (rl.grow p1.gr).pre, .cons p1.rs.rw .nil, post_of (x := .blt .sortedRev (.cons x .nil)) p1.gr rl.tabs rfl (OkR.imp q (fun _ z => z) fun _ _ => True.intro) (nox_blt _ _)⟩
/-! ### ranges as lists -/
theorem rgV_cons (i : Int) (n : Nat) (j : Int) (h : (j - i).toNat = n + 1) : rgV i j = .int i :: rgV (i + 1) j := by
  have h2 : (j - (i + 1)).toNat = n := by omega
  unfold rgV
  rw [h, h2, List.range_succ_eq_map, List.map_cons, List.map_map]
  congr 1
  · simp
  · apply List.map_congr_left
    intro k _
    show V.int (i + ((k + 1 : Nat) : Int)) = V.int (i + 1 + (k : Int))
    congr 1
    omega
theorem rgV_rp {K : PySem.W.Frag} {B : Addr → Prop} {H : Hp} : ∀ (n : Nat) (i j : Int), (j - i).toNat = n → RpA K B H (rgV i j) (rngF n i)
  | 0, i, j, h => by
    unfold rgV
    rw [h]
    exact .nil
  | n + 1, i, j, h => by
    rw [rgV_cons i n j h]
    exact .cons (.int i) (rgV_rp n (i + 1) j (by omega))
theorem lrng_ok {B : Addr → Prop} {H H1 : Hp} {i j : Int} {Q : VK} {T : List Addr} {K : PySem.W.Frag} (g : Gr T H H1) (pr : Pre T B H) (s1 : small i = true) (s2 : small j = true) (hf : fitN (Int.sub j i).toNat = true)
    (h : ∀ v H', Post K T B (.blt .listRng (.cons x .nil)) H H' v (.list (rngF (Int.sub j i).toNat i)) → Q v H') : RgOk i j ∧ ∀ q, H1 q = none → Q (.ref q) (upd H1 q (.lst (rgV i j))) := by
  have a := small_le s1
  have b := small_le s2
  have f := fitN_le hf
  refine ⟨⟨a.1, a.2, b.1, b.2, ?_⟩, fun q hq => ?_⟩
  · have : (Int.sub j i).toNat = (j - i).toNat := rfl
    rw [this] at f
    have : (2 : Nat) ^ 24 = 16777216 := rfl
    omega
  · have pr1 : Pre T B H1 := ⟨pr.tabs.gr g, fun a ha e => pr.dom a ha (g.none_back pr.tabs e)⟩
    exact wn_lst (K := K) (T := T) (B := B) pr1 (rgV_rp _ i j rfl) hq (post_of (x := .blt .listRng (.cons x .nil)) g pr.tabs rfl (r := .ok (.list (rngF (Int.sub j i).toNat i))) h (nox_ok _))
theorem bindA (r : R) (f g : PyData → R) : (r.bind f).bind g = r.bind fun d => (f d).bind g := by cases r <;> rfl
theorem lr_ev {env : List SV} {C : Nat → List PyData → R} : ev C (.blt .listRng (.cons (.rng x y) .nil)) env = (ev C x env).bind fun a => (ev C y env).bind fun b => (rngR a b).bind fun t => bltF .listRng [t] := by
  show ((((ev C x env).bind fun a => (ev C y env).bind fun b => rngR a b).bind fun a => (R.ok (.tuple [])).bind fun y => match y with | .tuple ys => .ok (.tuple (a :: ys)) | _ => .fail).bind fun x => match x with | .tuple xs => bltF .listRng xs | _ => .fail) = _
  rw [bindA, bindA]
  congr 1; funext a
  rw [bindA]
  rfl
theorem se_lrng2 {p2 pos2 : Pos} (hc : X.calm = true) (hg : Gl X "list") (hm : X.mg "list" = none) (hg2 : Gl X "range") (hm2 : X.mg "range" = none) (ha : SE Z X a x) (hb : SE Z X b y) (hn : nst a = true) (hn2 : nst b = true) :
    SE Z X (.Call (.Name "list" p) [.Call (.Name "range" p2) [a, b] [] pos2] [] pos) (.blt .listRng (.cons (.rng x y) .nil)) := fun W tk => by
  have pr := prg_2 (pos := pos2) (p := p2) hg2 hm2 (ha W tk) (hb W tk) (star_of hn _) (star_of hn2 _) (by rw [star_of hn2]; rfl)
  refine PE.of (pe_listRg hc hg hm pr rfl) fun σ H Q ⟨B, H0, A, env, rl, h⟩ => ?_
  rw [lr_ev] at h
  refine two_E rl h fun u w v v2 H2 g r1 r2 h3 => ?_
  obtain ⟨i, j, e1, e2, s1, s2, h4⟩ := rngR_ok (OkR.bind h3)
  subst e1 e2
  refine ⟨i, j, r1.int, r2.int, ?_⟩
  have h4 : OkR (match fitN (lenF (rngF (Int.sub j i).toNat i)) with | true => .ok (.list (rngF (Int.sub j i).toNat i)) | false => .fail) _ _ := h4
  split at h4
  · rename_i ef
    rw [lenF_eq, rngF_len] at ef
    exact lrng_ok g rl.pre s1 s2 ef fun v H' p => h4 v H' ⟨p.gr, p.rs, p.fr⟩
  · exact h4.elim
theorem se_lrng1 {p2 pos2 : Pos} (hc : X.calm = true) (hg : Gl X "list") (hm : X.mg "list" = none) (hg2 : Gl X "range") (hm2 : X.mg "range" = none) (hb : SE Z X b y) (hn2 : nst b = true) :
    SE Z X (.Call (.Name "list" p) [.Call (.Name "range" p2) [b] [] pos2] [] pos) (.blt .listRng (.cons (.rng (.c (.int 0)) y) .nil)) := fun W tk => by
  have pr := prg_1 (pos := pos2) (p := p2) hg2 hm2 (hb W tk) (star_of hn2 _)
  refine PE.of (pe_listRg hc hg hm pr rfl) fun σ H Q ⟨B, H0, A, env, rl, h⟩ => ?_
  rw [lr_ev] at h
  have h : OkR ((ev Z.C y env).bind fun b => (rngR (.int 0) b).bind fun t => bltF .listRng [t]) _ _ := h
  refine one_E rl h fun u v H1 p1 h3 => ?_
  obtain ⟨i, j, e1, e2, s1, s2, h4⟩ := rngR_ok (OkR.bind h3)
  cases e1
  subst e2
  refine ⟨j, p1.rs.rw.int, ?_⟩
  have h4 : OkR (match fitN (lenF (rngF (Int.sub j 0).toNat 0)) with | true => .ok (.list (rngF (Int.sub j 0).toNat 0)) | false => .fail) _ _ := h4
  split at h4
  · rename_i ef
    rw [lenF_eq, rngF_len] at ef
    exact lrng_ok p1.gr rl.pre s1 s2 ef fun v H' p => h4 v H' ⟨p.gr, p.rs, p.fr⟩
  · exact h4.elim
end
end ES
end

set_option Elab.async false
set_option linter.all false
set_option autoImplicit false
set_option maxRecDepth 100000
set_option maxHeartbeats 4000009
/-! ES9b: list(reversed(..)), tuple(reversed(..)). -/
noncomputable section
namespace ES
open PySem PySem.Spec PyProof.Rows L2 EV GxR
section
variable {Z : Wd} {X : Cx} {a : Expr} {x : EV.X} {pos p p2 pos2 : Pos}
theorem rev_listRev {W : WX} {σ : L2.St} {H : Hp} {Q : VK} (h : tE Z X.K (.blt .listRev (.cons x .nil)) W σ H Q) : ESR.tRev X.K (tE Z X.K x W) .lst σ H Q := by
  obtain ⟨B, H0, A, env, rl, h⟩ := h
  have h : OkR ((((ev Z.C x env).bind fun a => (R.ok (.tuple [])).bind fun y => match y with | .tuple ys => .ok (.tuple (a :: ys)) | _ => .fail)).bind fun x => match x with | .tuple xs => bltF .listRev xs | _ => .fail) _ _ := h
  refine ⟨B, H0, A, env, rl, OkR.imp (OkR.bind (OkR.bind h)) (fun d q v H1 p1 => ?_) fun c z => z⟩
  have q : OkR (bltF .listRev [d]) _ _ := q
  have pr := (rl.grow p1.gr).pre
  cases d with
  | list ds =>
    obtain ⟨l, xs, rfl, hq, ra⟩ := p1.rs.rw.list
    refine ⟨l, xs, rfl, .inl hq, fun p hp => ?_⟩
    have q : OkR (match fitN (lenF ds) with | true => .ok (.list (revL ds [])) | false => .fail) _ _ := q
    cases hf : fitN (lenF ds) with
    | false => rw [hf] at q; exact q.elim
    | true =>
      rw [hf] at q
      have r2 : RpA X.K (Bt B A env) H1 xs.reverse (revL ds []) := by
        rw [revL_eq, List.append_nil]
        exact ra.reverse
      exact wn_lst (T := Z.T) pr r2 hp (post_of (x := .blt .listRev (.cons x .nil)) p1.gr rl.tabs rfl (r := .ok (.list (revL ds []))) q (nox_ok _))
  | tuple ds =>
    obtain ⟨l, xs, rfl, hq, ra⟩ := p1.rs.rw.tuple
    refine ⟨l, xs, rfl, .inr hq, fun p hp => ?_⟩
    have q : OkR (match fitN (lenF ds) with | true => .ok (.list (revL ds [])) | false => .fail) _ _ := q
    cases hf : fitN (lenF ds) with
    | false => rw [hf] at q; exact q.elim
    | true =>
      rw [hf] at q
      have r2 : RpA X.K (Bt B A env) H1 xs.reverse (revL ds []) := by
        rw [revL_eq, List.append_nil]
        exact ra.reverse
      exact wn_lst (T := Z.T) pr r2 hp (post_of (x := .blt .listRev (.cons x .nil)) p1.gr rl.tabs rfl (r := .ok (.list (revL ds []))) q (nox_ok _))
  | _ => exact q.elim
theorem rev_tupRev {W : WX} {σ : L2.St} {H : Hp} {Q : VK} (h : tE Z X.K (.blt .tupRev (.cons x .nil)) W σ H Q) : ESR.tRev X.K (tE Z X.K x W) .tup σ H Q := by
  obtain ⟨B, H0, A, env, rl, h⟩ := h
  have h : OkR ((((ev Z.C x env).bind fun a => (R.ok (.tuple [])).bind fun y => match y with | .tuple ys => .ok (.tuple (a :: ys)) | _ => .fail)).bind fun x => match x with | .tuple xs => bltF .tupRev xs | _ => .fail) _ _ := h
  refine ⟨B, H0, A, env, rl, OkR.imp (OkR.bind (OkR.bind h)) (fun d q v H1 p1 => ?_) fun c z => z⟩
  have q : OkR (bltF .tupRev [d]) _ _ := q
  have pr := (rl.grow p1.gr).pre
  cases d with
  | list ds =>
    obtain ⟨l, xs, rfl, hq, ra⟩ := p1.rs.rw.list
    refine ⟨l, xs, rfl, .inl hq, fun p hp => ?_⟩
    have q : OkR (match fitN (lenF ds) with | true => .ok (.tuple (revL ds [])) | false => .fail) _ _ := q
    cases hf : fitN (lenF ds) with
    | false => rw [hf] at q; exact q.elim
    | true =>
      rw [hf] at q
      have r2 : RpA X.K (Bt B A env) H1 xs.reverse (revL ds []) := by
        rw [revL_eq, List.append_nil]
        exact ra.reverse
      exact wn_tup (T := Z.T) pr r2 hp (post_of (x := .blt .tupRev (.cons x .nil)) p1.gr rl.tabs rfl (r := .ok (.tuple (revL ds []))) q (nox_ok _))
  | tuple ds =>
    obtain ⟨l, xs, rfl, hq, ra⟩ := p1.rs.rw.tuple
    refine ⟨l, xs, rfl, .inr hq, fun p hp => ?_⟩
    have q : OkR (match fitN (lenF ds) with | true => .ok (.tuple (revL ds [])) | false => .fail) _ _ := q
    cases hf : fitN (lenF ds) with
    | false => rw [hf] at q; exact q.elim
    | true =>
      rw [hf] at q
      have r2 : RpA X.K (Bt B A env) H1 xs.reverse (revL ds []) := by
        rw [revL_eq, List.append_nil]
        exact ra.reverse
      exact wn_tup (T := Z.T) pr r2 hp (post_of (x := .blt .tupRev (.cons x .nil)) p1.gr rl.tabs rfl (r := .ok (.tuple (revL ds []))) q (nox_ok _))
  | _ => exact q.elim
theorem se_listRev (hc : X.calm = true) (hg : Gl X "list") (hm : X.mg "list" = none) (hg2 : Gl X "reversed") (hm2 : X.mg "reversed" = none) (ha : SE Z X a x) (hn : nst a = true) : SE Z X (.Call (.Name "list" p) [.Call (.Name "reversed" p2) [a] [] pos2] [] pos) (.blt .listRev (.cons x .nil)) := fun W tk =>
  PE.of (ESR.pe_listRev hc hg hm hg2 hm2 (ha W tk) (by rw [star_of hn])) fun σ H Q h => rev_listRev h
theorem se_tupRev (hc : X.calm = true) (hg : Gl X "tuple") (hm : X.mg "tuple" = none) (hg2 : Gl X "reversed") (hm2 : X.mg "reversed" = none) (ha : SE Z X a x) (hn : nst a = true) : SE Z X (.Call (.Name "tuple" p) [.Call (.Name "reversed" p2) [a] [] pos2] [] pos) (.blt .tupRev (.cons x .nil)) := fun W tk =>
  PE.of (ESR.pe_tupRevA hc hg hm hg2 hm2 (ha W tk) (by rw [star_of hn])) fun σ H Q h => rev_tupRev h
end
section
variable {Z : Wd} {X : Cx} {c a b : Expr} {x y z : EV.X} {pos : Pos} {tA tB tC : TT}
def tIfT (tA tB tC : TT) : TT := fun σ H Q => tA σ H fun d H1 => match d with | true => tB σ H1 Q | false => tC σ H1 Q
theorem pt_ite (hc : PT X c tA) (ha : PT X a tB) (hb : PT X b tC) : PT X (.IfExp c a b pos) (tIfT tA tB tC) := by
  refine ⟨fun pins s σ H Q I h =>
      ?_⟩
  refine isTrue_IfExp (thn (hc.run pins s σ H _ I h) fun d s1 ⟨H1, I1, q1⟩ => ?_)
  cases d with
  | true =>
      exact ha.run pins s1 σ H1 Q I1 q1
  | false =>
      exact hb.run pins s1 σ H1 Q I1 q1
theorem st_ite (hc : STt Z X c z) (ha : STt Z X a x) (hb : STt Z X b y) : STt Z X (.IfExp c a b pos) (.ite z x y) := fun W tk => by
  refine PT.of (pt_ite (hc W tk) (ha W tk) (hb W tk)) fun σ H Q ⟨B, H0, A, env, rl, h⟩ => ?_
  have h : OkR ((ev Z.C z env).bind fun r => match r with | .bool true => ev Z.C x env | .bool false => ev Z.C y env | _ => .fail) _ _ := h
  refine one_T rl h (fun k H1 g h3 => ?_) fun d h3 => ?_
  · cases k with
    | true =>
      have h4 : OkR (ev Z.C x env) _ _ := h3
      exact ⟨B, H0, A, env, rl.grow g, OkR.imp h4 (fun d ⟨b, e, q⟩ => ⟨b, e, fun H' g' => q H' (g.trans g')⟩) fun c z dd H' g' => z dd H' (g.trans g')⟩
    | false =>
      have h4 : OkR (ev Z.C y env) _ _ := h3
      exact ⟨B, H0, A, env, rl.grow g, OkR.imp h4 (fun d ⟨b, e, q⟩ => ⟨b, e, fun H' g' => q H' (g.trans g')⟩) fun c z dd H' g' => z dd H' (g.trans g')⟩
  · cases d with
    | bool b => exact ⟨b, rfl⟩
    | _ => exact h3.elim
end
end ES
end

set_option Elab.async false
set_option linter.all false
set_option autoImplicit false
set_option maxRecDepth 100000
set_option maxHeartbeats 4000007
/-! ES10: statements. -/
noncomputable section
namespace ES
open PySem PySem.Spec PyProof.Rows L2 EV GxR

abbrev RK0 := V → PyData → Prop
/-- what a statement's end is to give -/
def SOk (Z : Wd) (K : PySem.W.Frag) (B : Addr → Prop) (H0 : Hp) (W : WX) (D : Ends) (R0 : RK0) : RS → Prop
  | .next env => ∀ A σ H, Rl K Z.T B H0 A env σ H → (∀ v d, R0 v d → Rp K (Bt B A env) H v d) → D.nx σ H
  | .brk env => ∀ A σ H, Rl K Z.T B H0 A env σ H → (∀ v d, R0 v d → Rp K (Bt B A env) H v d) → D.bk σ H
  | .cont env => ∀ A σ H, Rl K Z.T B H0 A env σ H → (∀ v d, R0 v d → Rp K (Bt B A env) H v d) → D.ct σ H
  | .ret d => ∀ v H, Gr Z.T H0 H → Rp K B H v d → D.rt v H
  | .exc c env => ∀ dd A σ H, Rl K Z.T B H0 A env σ H → (∀ v d, R0 v d → Rp K (Bt B A env) H v d) → W (Z.xv c) dd σ H
  | .fail => False
def tS (Z : Wd) (K : PySem.W.Frag) (s : EV.S) (W : WX) : TS := fun D σ H => ∃ B H0 A env R0, Rl K Z.T B H0 A env σ H ∧ (∀ v d, R0 v d → Rp K (Bt B A env) H v d) ∧ SOk Z K B H0 W D R0 (ex Z.C Z.wf s env)
def SS (Z : Wd) (X : Cx) (st : Stmt) (s : EV.S) : Prop := ∀ W, Takes X W → PassesOwn (model X.prog X.w) X.A X.env X.xe → PS X st (tS Z X.K s W)
def SSs (Z : Wd) (X : Cx) (ss : List Stmt) (s : EV.S) : Prop := ∀ W, Takes X W → PassesOwn (model X.prog X.w) X.A X.env X.xe → PSs X ss (tS Z X.K s W)
theorem PS.of {X : Cx} {st : Stmt} {t t' : TS} (h : PS X st t) (i : ∀ D σ H, t' D σ H → t D σ H) : PS X st t' := ⟨fun pins s σ H D I k => h.run pins s σ H D I (i D σ H k)⟩
theorem PSs.of {X : Cx} {st : List Stmt} {t t' : TS} (h : PSs X st t) (i : ∀ D σ H, t' D σ H → t D σ H) : PSs X st t' := ⟨fun pins s σ H D I k => h.run pins s σ H D I (i D σ H k)⟩

section
variable {Z : Wd} {X : Cx} {K : PySem.W.Frag} {B : Addr → Prop} {H0 H H' : Hp} {A : Nat → List Addr} {env : List SV} {W : WX} {D : Ends} {R0 R1 : RK0} {σ : L2.St} {v : V} {d : PyData}
/-- an expression, then the rest -/
theorem st_E {x : EV.X} {f : PyData → RS} {Q : VK} (rl : Rl K Z.T B H0 A env σ H) (k0 : ∀ v d, R0 v d → Rp K (Bt B A env) H v d) (h : SOk Z K B H0 W D R0 ((ev Z.C x env).st env f))
    (q : ∀ d v H', Post K Z.T (Bt B A env) x H H' v d → SOk Z K B H0 W D R0 (f d) → Q v H') : tE Z K x W σ H Q := by
  refine ⟨B, H0, A, env, rl, ?_⟩
  cases e : ev Z.C x env with
  | ok d => rw [e] at h; exact fun v H' p => q d v H' p h
  | exc c =>
    rw [e] at h
    exact fun dd H' g => h dd A σ H' (rl.grow g) fun v d r => (k0 v d r).grow g rl.tabs
  | fail => rw [e] at h; exact h.elim
theorem st_T {x : EV.X} {f : PyData → RS} {Q : Bool → Hp → Prop} (rl : Rl K Z.T B H0 A env σ H) (k0 : ∀ v d, R0 v d → Rp K (Bt B A env) H v d) (h : SOk Z K B H0 W D R0 ((ev Z.C x env).st env f))
    (hb : ∀ d, SOk Z K B H0 W D R0 (f d) → ∃ b, d = .bool b) (q : ∀ b H', Gr Z.T H H' → SOk Z K B H0 W D R0 (f (.bool b)) → Q b H') : tT Z K x W σ H Q := by
  refine ⟨B, H0, A, env, rl, ?_⟩
  cases e : ev Z.C x env with
  | ok d =>
    rw [e] at h
    obtain ⟨b, eb⟩ := hb d h
    subst eb
    exact ⟨b, rfl, fun H' g => q b H' g h⟩
  | exc c =>
    rw [e] at h
    exact fun dd H' g => h dd A σ H' (rl.grow g) fun v d r => (k0 v d r).grow g rl.tabs
  | fail => rw [e] at h; exact h.elim
theorem keep_grow (rl : Rl K Z.T B H0 A env σ H) (k0 : ∀ v d, R0 v d → Rp K (Bt B A env) H v d) (g : Gr Z.T H H') : ∀ v d, R0 v d → Rp K (Bt B A env) H' v d := fun v d r => (k0 v d r).grow g rl.tabs
theorem SOk.mono {D' : Ends} {r : RS} (h : SOk Z K B H0 W D R0 r) (hk : ∀ v d, R0 v d → R1 v d)
    (hn : ∀ env, r = .next env → ∀ A σ H, Rl K Z.T B H0 A env σ H → (∀ v d, R1 v d → Rp K (Bt B A env) H v d) → D'.nx σ H)
    (hb : ∀ env, r = .brk env → ∀ A σ H, Rl K Z.T B H0 A env σ H → (∀ v d, R1 v d → Rp K (Bt B A env) H v d) → D'.bk σ H)
    (hc : ∀ env, r = .cont env → ∀ A σ H, Rl K Z.T B H0 A env σ H → (∀ v d, R1 v d → Rp K (Bt B A env) H v d) → D'.ct σ H)
    (hr : ∀ v H, D.rt v H → D'.rt v H) : SOk Z K B H0 W D' R1 r := by
  cases r with
  | next env => exact hn env rfl
  | brk env => exact hb env rfl
  | cont env => exact hc env rfl
  | ret d => exact fun v H g r => hr v H (h v H g r)
  | exc c env => exact fun dd A σ H rl k => h dd A σ H rl fun v d r => k v d (hk v d r)
  | fail => exact h
end

section
variable {Z : Wd} {X : Cx} {a b c e : Expr} {st : Stmt} {ss : List Stmt} {s t : EV.S} {x y z : EV.X} {pos p2 p3 : Pos} {p : Pt}
theorem ss_pass : SS Z X (.Pass pos) .skip := fun W tk hp => PS.of ps_pass fun D σ H ⟨B, H0, A, env, R0, rl, k0, h⟩ => h A σ H rl k0
theorem ss_brk : SS Z X (.Break pos) .brk := fun W tk hp => PS.of ps_break fun D σ H ⟨B, H0, A, env, R0, rl, k0, h⟩ => h A σ H rl k0
theorem ss_cont : SS Z X (.Continue pos) .cont := fun W tk hp => PS.of ps_continue fun D σ H ⟨B, H0, A, env, R0, rl, k0, h⟩ => h A σ H rl k0
theorem sss_nil : SSs Z X [] .skip := fun W tk hp => PSs.of pss_nil fun D σ H ⟨B, H0, A, env, R0, rl, k0, h⟩ => h A σ H rl k0
theorem sss_one (h1 : SS Z X st s) : SSs Z X [st] s := fun W tk hp => pss_one (h1 W tk hp)
theorem seq_ok {K : PySem.W.Frag} {B : Addr → Prop} {H0 : Hp} {W : WX} {D : Ends} {R0 : RK0} {env : List SV} (h : SOk Z K B H0 W D R0 (ex Z.C Z.wf (.seq s t) env)) :
    SOk Z K B H0 W { D with nx := fun σ H => tS Z K t W D σ H } R0 (ex Z.C Z.wf s env) := by
  have h : SOk Z K B H0 W D R0 (match ex Z.C Z.wf s env with
    | .next env1 => ex Z.C Z.wf t env1
    | .brk e => .brk e | .cont e => .cont e | .ret d => .ret d | .exc c e => .exc c e | .fail => .fail) := h
  cases e : ex Z.C Z.wf s env with
  | next env1 =>
    rw [e] at h
    exact fun A σ H rl k => ⟨B, H0, A, env1, R0, rl, k, h⟩
  | brk e' => rw [e] at h; exact h
  | cont e' => rw [e] at h; exact h
  | ret d => rw [e] at h; exact h
  | exc c e' => rw [e] at h; exact h
  | fail => rw [e] at h; exact h
theorem sss_cons (h1 : SS Z X st s) (h2 : SSs Z X ss t) : SSs Z X (st :: ss) (.seq s t) := fun W tk hp =>
  PSs.of (pss_cons (h1 W tk hp) (h2 W tk hp)) fun D σ H ⟨B, H0, A, env, R0, rl, k0, h⟩ => ⟨B, H0, A, env, R0, rl, k0, seq_ok h⟩
theorem sss_frz {i : Nat} (h2 : SSs Z X ss t) : SSs Z X ss (.seq (.frz i) t) := fun W tk hp =>
  PSs.of (h2 W tk hp) fun D σ H ⟨B, H0, A, env, R0, rl, k0, h⟩ => by
    have h := seq_ok h
    have h : SOk Z X.K B H0 W _ R0 (match getS env i with | .own (.lst xs) => .next (setS env i (.val (.list xs))) | .own (.ll xss) => .next (setS env i (.val (.list (xss.map .list)))) | _ => .next env) := h
    cases e : getS env i with
    | own o =>
      rw [e] at h
      cases o with
      | lst ds => exact h A σ H (rl.frzO e) fun v d r => (k0 v d r).less (Bt.set fun ds z => by cases z)
      | ll dss => exact h A σ H (rl.frzO e) fun v d r => (k0 v d r).less (Bt.set fun ds z => by cases z)
    | val d => rw [e] at h; exact h A σ H rl k0
    | non => rw [e] at h; exact h A σ H rl k0
theorem ss_if {sa sb : List Stmt} (hc : STt Z X c x) (ha : SSs Z X sa s) (hb : SSs Z X sb t) : SS Z X (.If c sa sb pos) (.ifS x s t) := fun W tk hp => by
  refine PS.of (ps_if (hc W tk) (ha W tk hp) (hb W tk hp)) fun D σ H ⟨B, H0, A, env, R0, rl, k0, h⟩ => ?_
  refine st_T rl k0 h (fun d h2 => ?_) fun k H' g h2 => ?_
  · cases d with
    | bool b => exact ⟨b, rfl⟩
    | _ => exact h2.elim
  · cases k with
    | true => exact ⟨B, H0, A, env, R0, rl.grow g, keep_grow rl k0 g, h2⟩
    | false => exact ⟨B, H0, A, env, R0, rl.grow g, keep_grow rl k0 g, h2⟩
theorem gr_ret {K : PySem.W.Frag} {B : Addr → Prop} {H0 H H' : Hp} {A : Nat → List Addr} {env : List SV} {σ : L2.St} {v : V} {d : PyData} (rl : Rl K Z.T B H0 A env σ H) (hs : str x = true) (q : Post K Z.T (Bt B A env) x H H' v d) : Gr Z.T H0 H' ∧ Rp K B H' v d := by
  refine ⟨rl.gr.trans q.gr, ?_⟩
  have r := q.rs
  rw [hs] at r
  exact Rp.less (fun a h => .inl h) r
theorem ss_ret (he : SE Z X e x) (hs : str x = true) : SS Z X (.Return (some e) pos) (.ret x) := fun W tk hp => by
  refine PS.of (ps_ret (he W tk)) fun D σ H ⟨B, H0, A, env, R0, rl, k0, h⟩ => ?_
  exact st_E rl k0 h fun d v H' q h2 => h2 v H' (gr_ret rl hs q).1 (gr_ret rl hs q).2
theorem ss_retN : SS Z X (.Return none pos) (.ret (.c .none)) := fun W tk hp => PS.of ps_retN fun D σ H ⟨B, H0, A, env, R0, rl, k0, h⟩ => h .non H rl.gr .non
theorem ss_expr (he : SE Z X e x) (hsw : swapsWith e none pos.line X.env = pure false) : SS Z X (.Expr e pos) (.expr x) := fun W tk hp => by
  refine PS.of (ps_expr (he W tk) hsw) fun D σ H ⟨B, H0, A, env, R0, rl, k0, h⟩ => ?_
  exact st_E rl k0 h fun d v H' q h2 => h2 A σ H' (rl.grow q.gr) (keep_grow rl k0 q.gr)
/-! ### storing -/
theorem ss_set (hps : ∀ W, Takes X W → PS X st (tAsg (tE Z X.K x W) (tG Z X.K p))) (hs : str x = true) : SS Z X st (.set p x) := fun W tk hp => by
  refine PS.of (hps W tk) fun D σ H ⟨B, H0, A, env, R0, rl, k0, h⟩ => ?_
  refine st_E rl k0 h fun d v H' q h2 => ?_
  have r := q.rs
  rw [hs] at r
  cases e : bindP p d env with
  | none => rw [e] at h2; exact h2.elim
  | some env' =>
    rw [e] at h2
    exact ⟨d, B, H0, A, env, env', rl.grow q.gr, r, e, fun σ' ⟨rl', bt, _⟩ => h2 A σ' H' rl' fun v d r => (keep_grow rl k0 q.gr v d r).less bt⟩
theorem ss_setO {i : Nat} (hps : ∀ W, Takes X W → PS X st (tAsg (tE Z X.K x W) (gName i))) (hf : frs x = true) : SS Z X st (.setO i x) := fun W tk hp => by
  refine PS.of (hps W tk) fun D σ H ⟨B, H0, A, env, R0, rl, k0, h⟩ => ?_
  refine st_E rl k0 h fun d v H' q h2 => ?_
  cases d with
  | list ds =>
    obtain ⟨p, xs, ev, hp, hp', rx⟩ := q.fr hf ds rfl
    subst ev
    refine h2 _ _ H' (rl.setOwn q.gr hp hp' rx) fun v d r => ?_
    exact (((k0 v d r).moreL (as := [p]) fun q m => by rw [List.mem_singleton.mp m]; exact hp).less Bt.setOb).grow q.gr rl.tabs
  | _ => exact h2.elim
/-- a name's rule from gName's -/
theorem asg_name {i : Nat} {te : TE} (h : PS X st (tAsg te (gName i))) (hi : ∀ σ H Q Q', (∀ v H', Q v H' → Q' v H') → te σ H Q → te σ H Q') : PS X st (tAsg te (tG Z X.K (.nm i))) :=
  PS.of h fun D σ H k => hi σ H _ _ (fun v H' ⟨d, B, H0, A, env, env', rl, r, e, q⟩ => by
    have e : some (setS env i (.val d)) = some env' := e
    cases e
    exact q _ ⟨rl.set r, Bt.set (fun ds z => by cases z), fun vs h => wipe_set (by simpa [inP] using h)⟩) k
theorem tE_mono {K : PySem.W.Frag} {W : WX} : ∀ σ H Q Q', (∀ v H', Q v H' → Q' v H') → tE Z K x W σ H Q → tE Z K x W σ H Q' := fun σ H Q Q' i ⟨B, H0, A, env, rl, h⟩ => ⟨B, H0, A, env, rl, OkR.imp h (fun d q v H' p => i v H' (q v H' p)) fun _ z => z⟩
theorem ss_aug {i : Nat} {n : Str} {o : Op} (ho : o = .add ∨ o = .sub) (hN : X.N.Nodup) (hi : X.N[i]? = some n) (hx : Loc X.env.scope n) (hf : X.fn n = true ∨ X.env.scope.names.lookup n = some .local) (he : SE Z X e x) :
    SS Z X (.AugAssign (.Name n p2) (opA o) e pos) (.aug i o x) := fun W tk hp => by
  have core : ∀ {f : Int → Int → Int}, PIp X (opA o) (ipI f) → (∀ a b, binF o (.int a) (.int b) = .ok (.int (f a b))) → PS X (.AugAssign (.Name n p2) (opA o) e pos) (tS Z X.K (.aug i o x) W) := fun {f} ip hb => by
    refine PS.of (ps_aug hN hi hx (he W tk) ip hf) fun D σ H ⟨B, H0, A, env, R0, rl, k0, h⟩ => ?_
    have h : SOk Z X.K B H0 W D R0 (match getS env i with
      | .val (.int a) => (ev Z.C x env).st env fun y => (match y with | .int b => (binF o (.int a) (.int b)).st env fun z => .next (setS env i (.val z)) | _ => .fail)
      | _ => .fail) := h
    split at h
    · rename_i u eu
      obtain ⟨v, h1, h2⟩ := rl.val i _ eu
      refine ⟨v, h1, st_E rl k0 h fun d w H' q h3 => ?_⟩
      cases d with
      | int b =>
        have h3 : SOk Z X.K B H0 W D R0 ((binF o (.int u) (.int b)).st env fun z => .next (setS env i (.val z))) := h3
        rw [hb] at h3
        have h3 : SOk Z X.K B H0 W D R0 (.next (setS env i (.val (.int (f u b))))) := h3
        refine ⟨u, b, h2.int_inv, q.rs.rw.int, h3 A _ H' ((rl.grow q.gr).set (.int _)) fun v d r => (keep_grow rl k0 q.gr v d r).less (Bt.set fun ds z => by cases z)⟩
      | _ => exact h3.elim
    · exact h.elim
  rcases ho with rfl | rfl
  · exact core ip_add fun _ _ => rfl
  · exact core ip_sub fun _ _ => rfl
/-! ### lists written -/
theorem setL_ok : ∀ {xs ys : List PyData} {n : Nat} {y : PyData}, setL xs n y = some ys → n < xs.length ∧ ys = xs.set n y
  | [], _, _, _, h =>
      by cases h
  | x :: xs, ys, 0, y, h => by cases h; exact ⟨Nat.succ_pos _, rfl⟩
  | x :: xs, ys, n + 1, y, h => by
    have h : (match setL xs n y with | some z => some (x :: z) | none => none) = some ys := h
    cases e : setL xs n y with
    | none =>
        rw [e] at h; cases h
    | some z =>
      rw [e] at h
      cases h
      obtain ⟨h1, h2⟩ := setL_ok e
      exact ⟨Nat.succ_lt_succ h1, by rw [h2]; rfl⟩
theorem ixI_N {n : Nat} {j : Int} (h : ixI n j < n) : ixN n j = some (ixI n j) := by
  cases j with
  | ofNat a =>
    have h : a < n := h
    show (if (0 : Int) ≤ (a : Int) then (if (a : Int) < (n : Int) then some (a : Int).toNat else none) else _) = some a
    rw [if_pos (by omega), if_pos (by omega)]; rfl
  | negSucc a =>
    have h : (match Nat.blt a n with | true => Nat.sub n (Nat.succ a) | false => n) < n := h
    show _ = some (match Nat.blt a n with | true => Nat.sub n (Nat.succ a) | false => n)
    rw [nblt] at h ⊢
    by_cases q : a < n
    · rw [decide_eq_true q]
      unfold ixN
      rw [if_neg (by omega), if_pos (by omega)]
      dsimp only
      congr 1
      show (Int.negSucc a + (n : Int)).toNat = n - (a + 1)
      omega
    · rw [decide_eq_false q] at h
      dsimp only at h
      omega
theorem RpA.set {K : PySem.W.Frag} {B : Addr → Prop} {H : Hp} {v : V} {d : PyData} : ∀ {vs : List V} {ds : List PyData} (i : Nat), RpA K B H vs ds → Rp K B H v d → RpA K B H (vs.set i v) (ds.set i d)
  | _, _, _, .nil, _ => .nil
  | _, _, 0, .cons _ t, r => .cons r t
  | _, _, i + 1, .cons q t, r => .cons q (RpA.set i t r)
theorem keep_writeG {K : PySem.W.Frag} {B : Addr → Prop} {H0 H : Hp} {A : Nat → List Addr} {env : List SV} {σ : L2.St} {R0 : RK0} {i : Nat} {o o' : OV} {p : Addr} {u u' : HO} (k0 : ∀ v d, R0 v d → Rp K (Bt B A env) H v d) (e : getS env i = .own o) (hA : H p = some u) (w : Wr u) (hp : p ∈ A i) :
    ∀ v d, R0 v d → Rp K (Bt B A (setS env i (.own o'))) (upd H p u') v d := fun v d r => ((k0 v d r).writeO hA w (.inr ⟨i, o, e, hp⟩)).less fun a => (Bt.own e a).mp
theorem keep_write {K : PySem.W.Frag} {B : Addr → Prop} {H0 H : Hp} {A : Nat → List Addr} {env : List SV} {σ : L2.St} {R0 : RK0} {i : Nat} {ds es : List PyData} {xs : List V} {o : HO} (rl : Rl K Z.T B H0 A env σ H) (k0 : ∀ v d, R0 v d → Rp K (Bt B A env) H v d) (e : getS env i = .own (.lst ds)) (hA : H (hd A i) = some (.lst xs)) :
    ∀ v d, R0 v d → Rp K (Bt B A (setS env i (.own (.lst es)))) (upd H (hd A i) o) v d := keep_writeG (H0 := H0) (σ := σ) k0 e hA True.intro (by rw [rl.ownL1 e]; exact List.mem_cons_self ..)
theorem ss_setIx {i : Nat} {n : Str} (hN : X.N[i]? = some n) (hv : Vis X.env.scope n) (hd : (n == ("__debug__" : Str)) = false) (hcd : (n == ("__classdict__" : Str)) = false) (ha : SE Z X a x) (he : SE Z X e y) (hs : str y = true)
    (hsub : ∀ v, assign (.Subscript (.Name n p2) a p3) X.env v = (do
      let ov ← holding [v] (eval (.Name n p2) X.env)
      let iv ← holding [v, ov] (eval a X.env)
      standAt p3
      holding [v,
          ov, iv] (setItem ov iv v)
      release [v, ov, iv] []))
    (hsw : swapsWithSole [.Subscript (.Name n p2) a p3] e pos.line X.env = pure false) (hw : swappedStores [.Subscript (.Name n p2) a p3] e X.env = pure none) : SS Z X (.Assign [.Subscript (.Name n p2) a p3] e pos) (.setIx i x y) := fun W tk hp => by
  refine PS.of (ps_asg (he W tk) (pg_sub (pe_var hN hv hd hcd) (ha W tk) set_list hsub) hsw hw rfl) fun D σ H ⟨B, H0, A, env, R0, rl, k0, h⟩ => ?_
  have h : SOk Z X.K B H0 W D R0 (match getS env i with
    | .own (.lst xs) => (ev Z.C y env).st env fun y => (ev Z.C x env).st env fun k => (match k with
      | .int j => (match small j with | true => (match setL xs (ixI (lenF xs) j) y with | some ys => .next (setS env i (.own (.lst ys))) | none => .fail) | false => .fail)
      | _ => .fail)
    | _ => .fail) := h
  cases ow : getS env i with
  | val d => rw [ow] at h; exact h.elim
  | non => rw [ow] at h; exact h.elim
  | own o =>
    cases o with
    | ll dss => rw [ow] at h; exact h.elim
    | lst ds =>
    rw [ow] at h
    refine st_E rl k0 h fun d v H1 q h2 => ?_
    have rl1 := rl.grow q.gr
    have k1 := keep_grow rl k0 q.gr
    have rd := q.rs
    rw [hs] at rd
    obtain ⟨xs, e1, e2, e3, _⟩ := rl1.ownL i ds ow
    refine ⟨_, e1, st_E rl1 k1 h2 fun kd kv H2 q2 h3 => ?_⟩
    have rl2 := rl1.grow q2.gr
    cases kd with
    | int j =>
      dsimp only at h3
      split at h3
      · split at h3
        · rename_i ys es
          obtain ⟨hl, ey⟩ := setL_ok es
          obtain ⟨xs2, f1, f2, f3, _⟩ := rl2.ownL i ds ow
          rw [lenF_eq, ← f3.length] at hl es ey
          subst ey
          refine ⟨ES.hd A i, xs2, j, _, rfl, q2.rs.rw.int, f2, ixI_N hl, ?_⟩
          have rdd : Rp X.K (Bt B A env) H2 v d := Rp.grow q2.gr rl1.tabs rd
          exact h3 A σ _ (rl2.write ow (f3.set _ rdd)) (keep_write rl2 (keep_grow rl1 k1 q2.gr) ow f2)
        · exact h3.elim
      · exact h3.elim
    | _ => exact h3.elim
theorem ss_app {i : Nat} {n m : Str} {ap : Pos} (hm : m = "append") (hN : X.N[i]? = some n) (hv : Vis X.env.scope n) (hd : (n == ("__debug__" : Str)) = false) (hcd : (n == ("__classdict__" : Str)) = false) (he : SE Z X e x) (hs : str x = true) (hst : nst e = true) (hl : (ap.endLine == p2.line) = true) :
    SS Z X (.Expr (.Call (.Attribute (.Name n p3) m ap) [e] [] p2) pos) (.app i x) := fun W tk hp => by
  subst hm
  refine PS.of (ps_expr (pe_bm PySem.F.plainAttrs_list PySem.F.slot_list_append PySem.F.type_list_append mt_append (pe_var hN hv hd hcd) (pa_cons (he W tk) pa_nil (star_of hst _)) rfl (by rw [star_of hst]; rfl) hl (star_of hst _) rfl) rfl) fun D σ H ⟨B, H0, A, env, R0, rl, k0, h⟩ => ?_
  have h : SOk Z X.K B H0 W D R0 (match getS env i with
    | .own (.lst xs) => (ev Z.C x env).st env fun y => (match fitN (lenF xs) with | true => .next (setS env i (.own (.lst (xs ++ [y])))) | false => .fail)
    | _ => .fail) := h
  cases ow : getS env i with
  | val d => rw [ow] at h; exact h.elim
  | non => rw [ow] at h; exact h.elim
  | own o =>
    cases o with
    | ll dss => rw [ow] at h; exact h.elim
    | lst ds =>
    rw [ow] at h
    obtain ⟨xs, e1, e2, e3, _⟩ := rl.ownL i ds ow
    refine ⟨_, e1, (.inl ⟨rfl, xs, .of e2⟩), st_E rl k0 h fun d v H1 q h2 => ?_⟩
    have rl1 := rl.grow q.gr
    have k1 := keep_grow rl k0 q.gr
    have rd := q.rs
    rw [hs] at rd
    obtain ⟨xs2, f1, f2, f3, _⟩ := rl1.ownL i ds ow
    split at h2
    · rename_i ef
      have hf := fitN_le ef
      rw [lenF_eq, ← f3.length] at hf
      refine ⟨ES.hd A i, xs2, v, rfl, rfl, f2, by have : sizeLine = 16777216 := rfl; omega, ?_⟩
      exact h2 A σ _ (rl1.write ow (f3.snoc rd)) (keep_write rl1 k1 ow f2)
    · exact h2.elim
theorem popL_ok : ∀ {xs ys : List PyData} {y : PyData}, popL xs = some (ys, y) → xs = ys ++ [y]
  | [], _, _, h => by cases h
  | [x], _, _, h => by cases h; rfl
  | x :: x' :: r, ys, y, h => by
    have h : (match popL (x' :: r) with | some (a, y) => some (x :: a, y) | none => none) = some (ys, y) := h
    cases e : popL (x' :: r) with
    | none =>
        rw [e] at h; cases h
    | some q =>
      obtain ⟨a, b⟩ := q
      rw [e] at h
      cases h
      rw [popL_ok e]; rfl
theorem RpA.dropLast {K : PySem.W.Frag} {B : Addr → Prop} {H : Hp} {vs : List V} {ds : List PyData} (r : RpA K B H vs ds) : RpA K B H vs.dropLast ds.dropLast := by
  rw [List.dropLast_eq_take, List.dropLast_eq_take, r.length]
  exact r.take _
theorem ss_pop {i : Nat} {n m : Str} {ap : Pos} {tg : Expr} (hm : m = "pop") (hN : X.N[i]? = some n) (hv : Vis X.env.scope n) (hd : (n == ("__debug__" : Str)) = false) (hcd : (n == ("__classdict__" : Str)) = false) (hg : SG Z X tg p) (hst : nst tg = true) (hl : (ap.endLine == p2.line) = true) 
    (hw : swappedStores [tg] (.Call (.Attribute (.Name n p3) m ap) [] [] p2) X.env = pure none) :
    SS Z X (.Assign [tg] (.Call (.Attribute (.Name n p3) m ap) [] [] p2) pos) (.pop p i) := fun W tk hp => by
  subst hm
  refine PS.of (ps_asg (pe_bm0 PySem.F.plainAttrs_list PySem.F.slot_list_pop PySem.F.type_list_pop mt_pop (pe_var hN hv hd hcd) rfl hl) hg rfl hw (by rw [asg_of hst]; rfl)) fun D σ H ⟨B, H0, A, env, R0, rl, k0, h⟩ => ?_
  have h : SOk Z X.K B H0 W D R0 (match getS env i with
    | .own (.lst xs) => (match popL xs with | some (ys, y) => optS (bindP p y (setS env i (.own (.lst ys)))) | none => .fail)
    | _ => .fail) := h
  cases ow : getS env i with
  | val d => rw [ow] at h; exact h.elim
  | non => rw [ow] at h; exact h.elim
  | own o =>
    cases o with
    | ll dss => rw [ow] at h; exact h.elim
    | lst ds =>
    rw [ow] at h
    dsimp only at h
    cases ep : popL ds with
    | none => rw [ep] at h; exact h.elim
    | some q =>
      obtain ⟨ys, y⟩ := q
      rw [ep] at h
      dsimp only at h
      have ed := popL_ok ep
      cases eb : bindP p y (setS env i (.own (.lst ys))) with
      | none => rw [eb] at h; exact h.elim
      | some env' =>
        rw [eb] at h
        obtain ⟨xs, e1, e2, e3, _⟩ := rl.ownL i ds ow
        have hl2 : ds[ds.length - 1]? = some y := by rw [ed]; simp
        rw [← e3.length] at hl2
        obtain ⟨v, hv2, rv⟩ := e3.get hl2
        refine ⟨_, e1, (.inl ⟨rfl, xs, .of e2⟩), ES.hd A i, xs, v, rfl, rfl, e2, hv2, ?_⟩
        have r2 : RpA X.K (Bt B A env) H xs.dropLast ys := by
          have := e3.dropLast
          rw [ed, List.dropLast_concat] at this
          exact this
        have rl2 := rl.write ow r2
        have kw := keep_write (o := .lst xs.dropLast) (es := ys) rl k0 ow e2
        have rv2 : Rp X.K (Bt B A (setS env i (.own (.lst ys)))) (upd H (ES.hd A i) (.lst xs.dropLast)) v y := by
          have := keep_write (o := .lst xs.dropLast) (es := ys) (R0 := fun v d => Rp X.K (Bt B A env) H v d) rl (fun _ _ z => z) ow e2
          exact this v y rv
        exact ⟨y, B, H0, A, _, env', rl2, rv2, eb, fun σ' ⟨rl', bt, _⟩ => h A σ' _ rl' fun v d r => (kw v d r).less bt⟩
end
end ES
end

set_option Elab.async false
set_option linter.all false
set_option autoImplicit false
set_option maxRecDepth 100000
set_option maxHeartbeats 4000007
/-! ES11: loops, raise, try. -/
noncomputable section
namespace ES
open PySem PySem.Spec PyProof.Rows L2 EV GxR

section
variable {Z : Wd} {X : Cx} {a b c e tg it : Expr} {st : Stmt} {ss : List Stmt} {s t : EV.S} {x y z : EV.X} {pos p2 p3 : Pos} {p : Pt}
theorem forL_cons {p : Pt} {b : List SV → RS} {x : PyData} {xs : List PyData} {env : List SV} : forL p b (x :: xs) env = (match bindP p x env with
    | none => .fail
    | some env1 => match b env1 with
      | .next env2 => forL p b xs env2
      | .cont env2 => forL p b xs env2
      | .brk env2 => .next env2
      | .ret d => .ret d
      | .exc c env2 => .exc c env2
      | .fail => .fail) := rfl
theorem ss_for (hc : X.calm = true) (hi : SI Z X tg it x) (hs : strI x = true) (hg : SG Z X tg p) (hb : SSs Z X ss s) (hf : ∀ x, foldedSetIterable it X.env x = pure x) : SS Z X (.For tg it ss [] pos) (.for p x s) := fun W tk hp => by
  refine PS.of (ps_for hp hc (hi W tk) hg (hb W tk hp) hf) fun D σ H ⟨B, H0, A, env, R0, rl, k0, h⟩ => ?_
  have h : SOk Z X.K B H0 W D R0 ((ev Z.C x env).st env fun d => match itemsF d with | some xs => forL p (ex Z.C Z.wf s) xs env | none => .fail) := h
  refine ⟨B, H0, A, env, rl, ?_⟩
  cases e : ev Z.C x env with
  | fail => rw [e] at h; exact h.elim
  | exc c =>
    rw [e] at h
    exact fun dd H' g => h dd A σ H' (rl.grow g) (keep_grow rl k0 g)
  | ok d =>
    rw [e] at h
    have h : SOk Z X.K B H0 W D R0 (match itemsF d with | some xs => forL p (ex Z.C Z.wf s) xs env | none => .fail) := h
    cases ei : itemsF d with
    | none => rw [ei] at h; exact h.elim
    | some ds =>
      rw [ei] at h
      dsimp only at h
      refine ⟨ds, ei, fun J H1 g sj => ?_⟩
      rw [hs] at sj
      let Wf : Nat → Nat → L2.St → Hp → Prop := fun i m σ H => m = ds.length - i ∧ i ≤ ds.length ∧ ∃ A env, Rl X.K Z.T B H0 A env σ H ∧ (∀ v d, R0 v d → Rp X.K (Bt B A env) H v d) ∧ SrcJ X.K (Rp X.K (Bt B A env) H) J ds ∧ SOk Z X.K B H0 W D R0 (forL p (ex Z.C Z.wf s) (ds.drop i) env)
      refine ⟨Wf, ⟨ds.length, by rw [Nat.sub_zero], Nat.zero_le _, A, env, rl.grow g, keep_grow rl k0 g, sj, h⟩, ?_⟩
      rintro i m σ2 H2 ⟨em, hi', A2, env2, rl2, k2, src, h2⟩
      have src' : SrcJ X.K (Rw X.K (Bt B A2 env2) H2) J ds := src.imp fun v d r => .inl r
      by_cases hd : i < ds.length
      · have eg : ds[i]? = some ds[i] := List.getElem?_eq_getElem hd
        obtain ⟨go, item⟩ := src'.item eg
        have edr : ds.drop i = ds[i] :: ds.drop (i + 1) := List.drop_eq_getElem_cons hd
        rw [edr, forL_cons] at h2
        refine .inr ⟨go, fun σ' H' => ∃ m', m' < m ∧ Wf (i + 1) m' σ' H', fun σ' H' w => w, fun v H'' yv => ?_⟩
        obtain ⟨e1, rv⟩ := item v H'' yv
        subst e1
        cases eb : bindP p ds[i] env2 with
        | none => rw [eb] at h2; exact h2.elim
        | some env3 =>
          rw [eb] at h2
          dsimp only at h2
          refine ⟨ds[i], B, H0, A2, env2, env3, rl2, rv, eb, fun σ3 ⟨rl3, bt, _⟩ => ?_⟩
          refine ⟨B, H0, A2, env3, fun v d => Rp X.K (Bt B A2 env2) H'' v d, rl3, fun v d r => r.less bt, ?_⟩
          have on : ∀ {env4 : List SV}, SOk Z X.K B H0 W D R0 (forL p (ex Z.C Z.wf s) (ds.drop (i + 1)) env4) → ∀ A σ H, Rl X.K Z.T B H0 A env4 σ H → (∀ v d, Rp X.K (Bt B A2 env2) H'' v d → Rp X.K (Bt B A env4) H v d) → ∃ m', m' < m ∧ Wf (i + 1) m' σ H := fun h4 A4 σ4 H4 rl4 k4 =>
            ⟨ds.length - (i + 1), by omega, rfl, by omega, A4, _, rl4, fun v d r => k4 v d (k2 v d r), src.imp k4, h4⟩
          cases er : ex Z.C Z.wf s env3 with
          | next env4 => rw [er] at h2; exact on h2
          | cont env4 => rw [er] at h2; exact on h2
          | brk env4 => rw [er] at h2; exact fun A4 σ4 H4 rl4 k4 => h2 A4 σ4 H4 rl4 fun v d r => k4 v d (k2 v d r)
          | ret d => rw [er] at h2; exact h2
          | exc c env4 => rw [er] at h2; exact fun dd A4 σ4 H4 rl4 k4 => h2 dd A4 σ4 H4 rl4 fun v d r => k4 v d (k2 v d r)
          | fail => rw [er] at h2; exact h2.elim
      · have edr : ds.drop i = [] := List.drop_eq_nil_of_le (by omega)
        rw [edr] at h2
        exact .inl ⟨src'.done (by omega), h2 A2 σ2 H2 rl2 k2⟩
theorem ss_whl (hc : STt Z X c x) (hb : SSs Z X ss s) : SS Z X (.While c ss [] pos) (.whl x s) := fun W tk hp => by
  refine PS.of (ps_while hp (hc W tk) (hb W tk hp)) fun D σ H ⟨B, H0, A, env, R0, rl, k0, h⟩ => ?_
  have h : SOk Z X.K B H0 W D R0 (whlL (ev Z.C x) (ex Z.C Z.wf s) Z.wf env) := h
  let Wf : Nat → L2.St → Hp → Prop := fun m σ H => ∃ A env, Rl X.K Z.T B H0 A env σ H ∧ (∀ v d, R0 v d → Rp X.K (Bt B A env) H v d) ∧ SOk Z X.K B H0 W D R0 (whlL (ev Z.C x) (ex Z.C Z.wf s) m env)
  refine ⟨Wf, ⟨Z.wf, A, env, rl, k0, h⟩, ?_⟩
  rintro m σ2 H2 ⟨A2, env2, rl2, k2, h2⟩
  cases m with
  | zero => exact h2.elim
  | succ m =>
    have h2 : SOk Z X.K B H0 W D R0 ((ev Z.C x env2).st env2 fun d => match d with
      | .bool false => .next env2
      | .bool true => (match ex Z.C Z.wf s env2 with
        | .next env2 => whlL (ev Z.C x) (ex Z.C Z.wf s) m env2
        | .cont env2 => whlL (ev Z.C x) (ex Z.C Z.wf s) m env2
        | .brk env2 => .next env2
        | .ret d => .ret d
        | .exc c env2 => .exc c env2
        | .fail => .fail)
      | _ => .fail) := h2
    refine st_T rl2 k2 h2 (fun d h3 => ?_) fun k H3 g h3 => ?_
    · cases d with
      | bool b => exact ⟨b, rfl⟩
      | _ => exact h3.elim
    · have rl3 := rl2.grow g
      have k3 := keep_grow rl2 k2 g
      cases k with
      | false => exact h3 A2 σ2 H3 rl3 k3
      | true =>
        dsimp only at h3
        rw [if_pos rfl]
        refine ⟨fun σ' H' => ∃ m', m' < m + 1 ∧ Wf m' σ' H', fun σ' H' w => w, B, H0, A2, env2, R0, rl3, k3, ?_⟩
        have on : ∀ {env4 : List SV}, SOk Z X.K B H0 W D R0 (whlL (ev Z.C x) (ex Z.C Z.wf s) m env4) → ∀ A σ H, Rl X.K Z.T B H0 A env4 σ H → (∀ v d, R0 v d → Rp X.K (Bt B A env4) H v d) → ∃ m', m' < m + 1 ∧ Wf m' σ H := fun h4 A4 σ4 H4 rl4 k4 => ⟨m, Nat.lt_succ_self _, A4, _, rl4, k4, h4⟩
        cases er : ex Z.C Z.wf s env2 with
        | next env4 => rw [er] at h3; exact on h3
        | cont env4 => rw [er] at h3; exact on h3
        | brk env4 => rw [er] at h3; exact h3
        | ret d => rw [er] at h3; exact h3
        | exc c env4 => rw [er] at h3; exact h3
        | fail => rw [er] at h3; exact h3.elim
theorem ss_rse {C : Addr} {Bs newId initId : String} {bmB : List Value} {n m : Str} {j i : Nat} (F : ExcBaseFacts Bs newId initId bmB) (q : PySem.W.excIn X.K C bmB newId = true) (gC : X.mg n = some (.ref C)) (kC : PySem.W.keepIn X.K (.ref C) = true) (r : Raises X (.ref C)) (hg : Gl X n)
    (hdb : (n == ("__debug__" : Str)) = false) (hc : X.calm = true) (hx : Z.xv i = .ref C) {p5 : Pos} : SS Z X (.Raise (some (.Call (.Name n p2) [.Constant (.str m) j p3] [] p5)) none pos) (.rse i) := fun W tk hp =>
  PS.of (ps_raise hc tk (pmk_own F q gC kC r hg hdb)) fun D σ H ⟨B, H0, A, env, R0, rl, k0, h⟩ => by
    have := h none A σ H rl k0
    rw [hx] at this
    exact this
end
/-! ### try -/
section
variable {Z : Wd} {X : Cx} {n : Str} {c : Value} {body suite : List Stmt} {b₀ : Stmt} {np pos pos' : Pos} {s t : EV.S} {i : Nat}
/-- a handler's suite, simple enough -/
def SH (Z : Wd) (X : Cx) (ss : List Stmt) (s : EV.S) : Prop := ∀ (a : Addr) (pn : List (Addr × Obj)), PSs (X.suite a pn) ss (tS Z X.K s fun _ _ _ _ => False)
theorem ss_try (hs : X.stack = X.env :: X.outer) (hf : X.env.frame = some X.env.locals) (hc : Names X n (Z.xv i)) {nb : Nat} (hm : ∀ j, j < nb → PySem.W.exmOne X.K (Z.xv j) (Z.xv i) = some (Nat.beq i j)) (hi : i < nb)
    (hb : ∀ pn xe, SSs Z (X.tr pn xe) body s) (hsu : SH Z X (b₀ :: suite) t) (hx : ∀ env c e, ex Z.C Z.wf t env ≠ .exc c e) : SS Z X (.Try body [.ExceptHandler (some (.Name n np)) none (b₀ :: suite) pos'] [] [] pos) (.tryS s i nb t) := fun W tk hp => by
  refine PS.of (ps_try_only (tb := fun W' => tS Z X.K s W') (ts := fun _ _ _ => tS Z X.K t fun _ _ _ _ => False) hs hf hc tk (fun W' pn xe tk' hp' => hb pn xe W' tk' hp') fun a oe cls d pn _ _ => hsu a _) fun D σ H ⟨B, H0, A, env, R0, rl, k0, h⟩ => ?_
  have h : SOk Z X.K B H0 W D R0 (match ex Z.C Z.wf s env with
    | .exc c' e => (match Nat.beq i c' with | true => ex Z.C Z.wf t e | false => (match Nat.blt c' nb with | true => .exc c' e | false => .fail))
    | r => r) := h
  refine ⟨B, H0, A, env, R0, rl, k0, ?_⟩
  cases er : ex Z.C Z.wf s env with
  | next env4 => rw [er] at h; exact h
  | cont env4 => rw [er] at h; exact h
  | brk env4 => rw [er] at h; exact h
  | ret d => rw [er] at h; exact h
  | fail => rw [er] at h; exact h.elim
  | exc c' env' =>
    rw [er] at h
    dsimp only at h
    have lt : c' < nb := by
      cases hb : Nat.beq i c' with
      | true => rw [← Nat.eq_of_beq_eq_true hb]; exact hi
      | false =>
        rw [hb] at h
        cases hl : Nat.blt c' nb with
        | true => rw [nblt, decide_eq_true_iff] at hl; exact hl
        | false => rw [hl] at h; exact h.elim
    have e := hm c' lt
    intro dd A' σ' H' rl' k'
    refine ⟨_, e, fun hb a ha => ?_, fun hb => ?_⟩
    · rw [hb] at h
      dsimp only at h
      refine ⟨B, H0, A', env', R0, rl', k', ?_⟩
      cases et : ex Z.C Z.wf t env' with
      | exc c2 e2 => exact absurd et (hx _ _ _)
      | next env4 => rw [et] at h; exact h
      | cont env4 => rw [et] at h; exact h
      | brk env4 => rw [et] at h; exact h
      | ret d => rw [et] at h; exact h
      | fail => rw [et] at h; exact h
    · rw [hb, nblt, decide_eq_true lt] at h
      exact h dd A' σ' H' rl' k'
/-- handlers' suites -/
theorem sh_retc {d : PyData} {v : V} {e : Expr} (h : ∀ Y : Cx, PE Y e (tC v)) (r : ∀ K B H, Rp K B H v d) : SH Z X [.Return (some e) pos] (.ret (.c d)) := fun a pn => PSs.of (pss_one (ps_ret (h _))) fun D σ H ⟨B, H0, A, env, R0, rl, k0, h⟩ => h v H rl.gr (r _ _ _)
theorem sh_retN : SH Z X [.Return none pos] (.ret (.c .none)) := fun a pn => PSs.of (pss_one ps_retN) fun D σ H ⟨B, H0, A, env, R0, rl, k0, h⟩ => h .non H rl.gr .non
theorem sh_pass : SH Z X [.Pass pos] .skip := fun a pn => PSs.of (pss_one ps_pass) fun D σ H ⟨B, H0, A, env, R0, rl, k0, h⟩ => h A σ H rl k0
theorem sh_cont : SH Z X [.Continue pos] .cont := fun a pn => PSs.of (pss_one ps_continue) fun D σ H ⟨B, H0, A, env, R0, rl, k0, h⟩ => h A σ H rl k0
end
end ES
end

set_option Elab.async false
set_option linter.all false
set_option autoImplicit false
set_option maxRecDepth 100000
set_option maxHeartbeats 4000007
/-! ES10b: stores at two places, within lists of lists; an item moved from one list to another. -/
noncomputable section
namespace ES
open PySem PySem.Spec
open PyProof.Rows L2
open EV GxR

theorem setS_setS : ∀ (env : List SV) (i : Nat) (y z : SV), setS (setS env i y) i z = setS env i z
  | [], _, _, _ => rfl
  | _ :: _, 0, _, _ => rfl
  | x :: r, i + 1, y, z => congrArg (x :: ·) (setS_setS r i y z)
section
variable {Z : Wd} {X : Cx} {a b e1 e2 : Expr} {st : Stmt} {x y z u w : EV.X} {pos p2 p3 p4 p5 pt pt2 : Pos} {i j kt k2 : Nat} {n n' : Str}
/-- a plain subscript as a target -/
def SubT (X : Cx) (o b : Expr) (p : Pos) : Prop := ∀ v, assign (.Subscript o b p) X.env v = (do
  let ov ← holding [v] (eval o
      X.env)
  let iv ← holding [v, ov] (eval b X.env)
  standAt p
  holding [v,
      ov, iv] (setItem ov iv v)
  release [v, ov, iv] [])
theorem two_st {env : List SV} {K : PySem.W.Frag} {B : Addr → Prop} {H0 : Hp} {W : WX} {D : Ends} {R0 : RK0} {f : PyData → PyData → RS} (h : SOk Z K B H0 W D R0 ((ev Z.C u env).st env fun uu => (ev Z.C w env).st env fun ww => f uu ww)) :
    SOk Z K B H0 W D R0 ((ev Z.C (.cons u (.cons w .nil)) env).st env fun d => match d with | .tuple [uu, ww] => f uu ww | _ => .fail) := by
  have e : ev Z.C (.cons u (.cons w .nil)) env = (ev Z.C u env).bind fun x => ((ev Z.C w env).bind fun x => (R.ok (.tuple [])).bind fun y => match y with | .tuple ys => .ok (.tuple (x :: ys)) | _ => .fail).bind fun y => match y with | .tuple ys => .ok (.tuple (x :: ys)) | _ => .fail := rfl
  rw [e]
  cases e1 : ev Z.C u env with
  | fail => rw [e1] at h; exact h
  | exc c => rw [e1] at h; exact h
  | ok p =>
    rw [e1] at h
    cases e2 : ev Z.C w env with
    | fail =>
      have h : SOk Z K B H0 W D R0 ((ev Z.C w env).st env fun ww => f p ww) := h
      rw [e2] at h; exact h
    | exc c =>
      have h : SOk Z K B H0 W D R0 ((ev Z.C w env).st env fun ww => f p ww) := h
      rw [e2] at h; exact h
    | ok q =>
      have h : SOk Z K B H0 W D R0 ((ev Z.C w env).st env fun ww => f p ww) := h
      rw [e2] at h; exact h
theorem ss_swp (hc : X.calm = true) (hN : X.N[i]? = some n) (hv : Vis X.env.scope n) (hd : (n == ("__debug__" : Str)) = false) (hcd : (n == ("__classdict__" : Str)) = false)
    (ha : SE Z X a x) (hb : SE Z X b y) (hu : SE Z X e1 u) (hw : SE Z X e2 w) (su : str u = true) (sw : str w = true) (n1 : nst e1 = true) (n2 : nst e2 = true) (h1 : SubT X (.Name n p2) a p3) (h2 : SubT X (.Name n p4) b p5)
    (hswp : swappedStores [.Tuple [.Subscript (.Name n p2) a p3, .Subscript (.Name n p4) b p5] kt pt] (.Tuple [e1, e2] k2 pt2) X.env = pure none) :
    SS Z X (.Assign [.Tuple [.Subscript (.Name n p2) a p3, .Subscript (.Name n p4) b p5] kt pt] (.Tuple [e1, e2] k2 pt2) pos) (.swp i x y u w) := fun W tk hp => by
  have hval : SE Z X (.Tuple [e1, e2] k2 pt2) (.cons u (.cons w .nil)) := se_tup (sa_cons hu (sa_cons hw sa_nil n2) n1) (by show (str u && (str w && true)) = true; rw [su, sw]; rfl) rfl rfl
  refine PS.of (ps_asg (hval W tk) (pg_tup hc (pgs_cons (pg_sub (pe_var hN hv hd hcd) (ha W tk) set_list h1) (pgs_cons (pg_sub (pe_var hN hv hd hcd) (hb W tk) set_list h2) pgs_nil rfl) rfl) rfl rfl) rfl hswp rfl) fun D σ H ⟨B, H0, A, env, R0, rl, k0, h⟩ => ?_
  have h := two_st h
  refine st_E rl k0 h fun d v H1 q h3 => ?_
  have rl1 := rl.grow q.gr
  have k1 := keep_grow rl k0 q.gr
  split at h3
  · rename_i uu ww
    have r0 : Rp X.K (Bt B A env) H1 v (.tuple [uu, ww]) := q.rs
    obtain ⟨t, vs, ev, hq, ra⟩ := r0.tuple_inv
    subst ev
    cases ra with
    | cons r1 ra =>
      rename_i v1 _
      cases ra with
      | cons r2 ra =>
        rename_i v2 _
        cases ra
        refine ⟨t, _, rfl, hq, rfl, _, _, rfl, ?_⟩
        cases ow : getS env i with
        | val d => rw [ow] at h3; exact h3.elim
        | non => rw [ow] at h3; exact h3.elim
        | own o =>
          rw [ow] at h3
          cases o with
          | ll dss => exact h3.elim
          | lst ds =>
            obtain ⟨xs, f1, f2, f3, _⟩ := rl1.ownL i ds ow
            refine ⟨_, f1, st_E rl1 k1 h3 fun kd kv H2 q2 h4 => ?_⟩
            have rl2 := rl1.grow q2.gr
            have k2' := keep_grow rl1 k1 q2.gr
            cases kd with
            | int k =>
              dsimp only at h4
              split at h4
              · split at h4
                · rename_i ds1 es1
                  obtain ⟨hl, ey⟩ := setL_ok es1
                  obtain ⟨xs2, g1, g2, g3, _⟩ := rl2.ownL i ds ow
                  rw [lenF_eq, ← g3.length] at hl es1 ey
                  subst ey
                  refine ⟨ES.hd A i, xs2, k, _, rfl, q2.rs.rw.int, g2, ixI_N hl, ?_⟩
                  have r1' := r1.grow q2.gr rl1.tabs
                  have r2' := r2.grow q2.gr rl1.tabs
                  have rl3 := rl2.write ow (g3.set (ixI xs2.length k) r1')
                  have k3 := keep_write (o := .lst (xs2.set (ixI xs2.length k) v1)) (es := ds.set (ixI xs2.length k) uu) rl2 k2' ow g2
                  have r3 : Rp X.K (Bt B A (setS env i (.own (.lst (ds.set (ixI xs2.length k) uu))))) (upd H2 (ES.hd A i) (.lst (xs2.set (ixI xs2.length k) v1))) v2 ww :=
                    keep_write (o := .lst (xs2.set (ixI xs2.length k) v1)) (es := ds.set (ixI xs2.length k) uu) (R0 := fun v d => Rp X.K (Bt B A env) H2 v d) rl2 (fun _ _ z => z) ow g2 v2 ww r2'
                  have hi : i < env.length := getS_lt (by rw [ow]; intro z; cases z)
                  have ow3 : getS (setS env i (.own (.lst (ds.set (ixI xs2.length k) uu)))) i = .own (.lst (ds.set (ixI xs2.length k) uu)) := getS_set_same hi
                  obtain ⟨xs3, m1, m2, m3, _⟩ := rl3.ownL i _ ow3
                  refine ⟨_, _, rfl, _, m1, ?_⟩
                  split at h4
                  · rename_i l el
                    refine ⟨B, H0, A, _, rl3, ?_⟩
                    rw [el]
                    intro lv H4 p4
                    have rl4 := rl3.grow p4.gr
                    have k4 := keep_grow rl3 k3 p4.gr
                    split at h4
                    · split at h4
                      · rename_i ds2 es2
                        obtain ⟨hl2, ey2⟩ := setL_ok es2
                        obtain ⟨xs4, j1, j2, j3, _⟩ := rl4.ownL i _ ow3
                        rw [lenF_eq, ← j3.length] at hl2 es2 ey2
                        subst ey2
                        refine ⟨ES.hd A i, xs4, l, _, rfl, p4.rs.rw.int, j2, ixI_N hl2, ?_⟩
                        have rl5 := rl4.write ow3 (j3.set (ixI xs4.length l) (r3.grow p4.gr rl3.tabs))
                        have k5 := keep_write (o := .lst (xs4.set (ixI xs4.length l) v2)) (es := (ds.set (ixI xs2.length k) uu).set (ixI xs4.length l) ww) rl4 k4 ow3 j2
                        rw [setS_setS] at rl5 k5
                        exact ⟨rfl, h4 A σ _ rl5 k5⟩
                      · exact h4.elim
                    · exact h4.elim
                  · exact h4.elim
                · exact h4.elim
              · exact h4.elim
            | _ => exact h4.elim
  · exact h3.elim
/-! ### lists of lists -/
theorem nthLL_eq : ∀ (dss : List (List PyData)) (n : Nat), nthLL dss n = dss[n]?
  | [], n => by rw [List.getElem?_nil]; rfl
  | d :: r, 0 => rfl
  | d :: r, n + 1 => by rw [List.getElem?_cons_succ]; exact nthLL_eq r n
theorem putLL_eq : ∀ (dss : List (List PyData)) (n : Nat) (y : List PyData), putLL dss n y = dss.set n y
  | [], n, y => rfl
  | d :: r, 0, y => rfl
  | d :: r, n + 1, y => by rw [List.set_cons_succ]; exact congrArg (d :: ·) (putLL_eq r n y)
theorem lenLL_eq : ∀ dss : List (List PyData), lenLL dss = dss.length
  | [] => rfl
  | d :: r => congrArg Nat.succ (lenLL_eq r)
theorem LLs.len {K : PySem.W.Frag} {B : Addr → Prop} {H : Hp} {ps : List Addr} {dss : List (List PyData)} (h : LLs K B H ps dss) : ps.length = dss.length := by
  induction h with
  | nil => rfl
  | cons _ _ _ ih => exact congrArg Nat.succ ih
theorem LLs.at {K : PySem.W.Frag} {B : Addr → Prop} {H : Hp} {ps : List Addr} {dss : List (List PyData)} (h : LLs K B H ps dss) : ∀ {n : Nat} {ds : List PyData}, dss[n]? = some ds → ∃ p xs, ps[n]? = some p ∧ H p = some (.lst xs) ∧ RpA K B H xs ds := by
  induction h with
  | nil => intro n ds e; simp at e
  | cons a r t ih =>
    intro n ds e
    cases n with
    | zero => simp at e; subst e; exact ⟨_, _, rfl, a, r⟩
    | succ n =>
      obtain ⟨p, xs, h1, h2, h3⟩ := ih (n := n) (by simpa using e)
      exact ⟨p, xs, by simpa using h1, h2, h3⟩
/-- one of the lists is written -/
theorem LLs.set {K : PySem.W.Frag} {B : Addr → Prop} {H : Hp} {p : Addr} {zs : List V} {es : List PyData} (hB : B p) {u : HO} (hp : H p = some u) (w : Wr u) (rz : RpA K B H zs es) : ∀ {ps : List Addr} {dss : List (List PyData)} {n : Nat}, LLs K B H ps dss → ps.Nodup → ps[n]? = some p → LLs K B (upd H p (.lst zs)) ps (dss.set n es)
  | _, _, n, .nil, _, e => by simp at e
  | _, _, 0, .cons (p := p') a r t, nd, e => by
    have e : p' = p := by simpa using e
    subst e
    have hn := (List.nodup_cons.mp nd).1
    exact .cons upd_same (rz.writeO hp w hB) (t.imp (fun q hq xs e => by rw [upd_ne (fun y => hn (by rw [← y]; exact hq))]; exact e) fun _ _ r => r.writeO hp w hB)
  | q :: qs, _, n + 1, .cons a r t, nd, e => by
    obtain ⟨hn, nd'⟩ := List.nodup_cons.mp nd
    have e' : qs[n]? = some p := by simpa using e
    have hne : q ≠ p := fun y => hn (by rw [y]; exact List.mem_of_getElem? e')
    exact .cons (by rw [upd_ne hne]; exact a) (r.writeO hp w hB) (LLs.set hB hp w rz t nd' e')
theorem ss_set2 (hN : X.N[i]? = some n) (hv : Vis X.env.scope n) (hd : (n == ("__debug__" : Str)) = false) (hcd : (n == ("__classdict__" : Str)) = false) (ha : SE Z X a x) (hb : SE Z X b y) (he : SE Z X e1 z) (hs : str z = true) (hpl : PlainIx a)
    (h1 : SubT X (.Subscript (.Name n p2) a p3) b p4) (hsw : swapsWithSole [.Subscript (.Subscript (.Name n p2) a p3) b p4] e1 pos.line X.env = pure false) (hw : swappedStores [.Subscript (.Subscript (.Name n p2) a p3) b p4] e1 X.env = pure none) :
    SS Z X (.Assign [.Subscript (.Subscript (.Name n p2) a p3) b p4] e1 pos) (.set2 i x y z) := fun W tk hp => by
  refine PS.of (ps_asg (he W tk) (pg_sub (pe_ix ix_list (pe_var hN hv hd hcd) (ha W tk) hpl) (hb W tk) set_list h1) hsw hw rfl) fun D σ H ⟨B, H0, A, env, R0, rl, k0, h⟩ => ?_
  have h : SOk Z X.K B H0 W D R0 (match getS env i with
    | .own (.ll dss) => (ev Z.C z env).st env fun y' => (ev Z.C x env).st env fun k => (match k with
      | .int k => (match small k with
        | true => (match nthLL dss (ixI (lenLL dss) k) with
          | some ds => (ev Z.C y env).st env fun l => (match l with
            | .int l => (match small l with
              | true => (match setL ds (ixI (lenF ds) l) y' with
                | some ds' => .next (setS env i (.own (.ll (putLL dss (ixI (lenLL dss) k) ds'))))
                | none => .fail)
              | false => .fail)
            | _ => .fail)
          | none => .fail)
        | false => .fail)
      | _ => .fail)
    | _ => .fail) := h
  cases ow : getS env i with
  | val d => rw [ow] at h; exact h.elim
  | non => rw [ow] at h; exact h.elim
  | own o =>
    rw [ow] at h
    cases o with
    | lst ds => exact h.elim
    | ll dss =>
      refine st_E rl k0 h fun d v H1 q h2 => ?_
      have rl1 := rl.grow q.gr
      have k1 := keep_grow rl k0 q.gr
      have rd : Rp X.K (Bt B A env) H1 v d := by
        have := q.rs
        rw [hs] at this
        exact this
      refine ⟨_, (rl1.own i _ ow).1, st_E rl1 k1 h2 fun kd kv H2 q2 h3 => ?_⟩
      have rl2 := rl1.grow q2.gr
      have k2 := keep_grow rl1 k1 q2.gr
      have rd2 := rd.grow q2.gr rl1.tabs
      obtain ⟨o1, ⟨p, ps, eA, hp0, lls⟩, nd, fr⟩ := rl2.own i _ ow
      have eh : ES.hd A i = p := by unfold ES.hd; rw [eA]; rfl
      cases kd with
      | int k =>
        dsimp only at h3
        split at h3
        · split at h3
          · rename_i ds en
            rw [nthLL_eq, lenLL_eq] at en
            obtain ⟨p', xs', e1, e2, e3⟩ := lls.at en
            have hk : ixI dss.length k < dss.length := (List.getElem?_eq_some_iff.mp en).1
            refine ⟨p, ps.map .ref, k, .ref p', by rw [eh], q2.rs.rw.int, .of hp0, ixI_ok' (by rw [List.length_map, lls.len, List.getElem?_map, e1]; rfl), ?_⟩
            refine st_E rl2 k2 h3 fun ld lv H3 q3 h4 => ?_
            have rl3 := rl2.grow q3.gr
            have k3 := keep_grow rl2 k2 q3.gr
            have rd3 := rd2.grow q3.gr rl2.tabs
            have lls3 : LLs X.K (Bt B A env) H3 ps dss := lls.imp (fun q _ xs e => q3.gr.at rl2.tabs e fun ps z => by cases z) fun _ _ r => r.grow q3.gr rl2.tabs
            have hp3 : H3 p = some (.lst (ps.map .ref)) := q3.gr.at rl2.tabs hp0 fun ps z => by cases z
            cases ld with
            | int l =>
              dsimp only at h4
              split at h4
              · split at h4
                · rename_i ds' es
                  obtain ⟨hl, ey⟩ := setL_ok es
                  obtain ⟨p'', xs3, f1, f2, f3⟩ := lls3.at en
                  rw [e1] at f1
                  cases f1
                  rw [lenF_eq, ← f3.length] at hl es ey
                  subst ey
                  refine ⟨p', xs3, l, _, rfl, q3.rs.rw.int, f2, ixI_N hl, ?_⟩
                  have mp : p' ∈ A i := by rw [eA]; exact List.mem_cons_of_mem _ (List.mem_of_getElem? e1)
                  have hB : Bt B A env p' := .inr ⟨i, _, ow, mp⟩
                  rw [eA] at nd
                  obtain ⟨nd1, nd2⟩ := List.nodup_cons.mp nd
                  have hne : p ≠ p' := fun z => nd1 (by rw [z]; exact List.mem_of_getElem? e1)
                  rw [putLL_eq, lenLL_eq] at h4
                  have rlw := rl3.writeG (u := .lst (xs3.set (ixI xs3.length l) v)) (o' := .ll (dss.set (ixI dss.length k) (ds.set (ixI xs3.length l) d))) ow mp ⟨p, ps, eA, by rw [upd_ne hne]; exact hp3, LLs.set hB f2 True.intro (f3.set _ rd3) lls3 nd2 e1⟩
                  exact h4 A σ _ rlw (keep_writeG (H0 := H0) (σ := σ) k3 ow f2 True.intro mp)
                · exact h4.elim
              · exact h4.elim
            | _ => exact h4.elim
          · exact h3.elim
        · exact h3.elim
      | _ => exact h3.elim
/-! ### an item from one list to another -/
theorem takeL_ok : ∀ {xs zs : List PyData} {n : Nat} {y : PyData}, takeL xs n = some (y, zs) → xs[n]? = some y ∧ zs = xs.eraseIdx n
  | [], _, _, _, h =>
      by cases h
  | x :: r, zs, 0, y, h => by cases h; exact ⟨rfl, rfl⟩
  | x :: r, zs, n + 1, y, h => by
    have h : (match takeL r n with | some (y, z) => some (y, x :: z) | none => none) = some (y, zs) := h
    cases e : takeL r n with
    | none =>
        rw [e] at h; cases h
    | some q =>
      obtain ⟨a, b⟩ := q
      rw [e] at h
      cases h
      obtain ⟨h1, h2⟩ := takeL_ok e
      exact ⟨by simpa using h1, by rw [h2]; rfl⟩
theorem RpA.eraseIdx {K : PySem.W.Frag} {B : Addr → Prop} {H : Hp} : ∀ {vs : List V} {ds : List PyData} (n : Nat), RpA K B H vs ds → RpA K B H (vs.eraseIdx n) (ds.eraseIdx n)
  | _, _, _, .nil => .nil
  | _, _, 0, .cons _ t => t
  | _, _, n + 1, .cons r t => .cons r (RpA.eraseIdx n t)
theorem ixI_seq {n : Nat} {k : Int} (s : small k = true) (h : ixI n k < n) : seqIndex? k n = some (ixI n k) := by
  have := ixI_N h
  exact (ixN_seq this).1
theorem ss_appPop {m m2 : Str} {ap ap2 p6 : Pos} (hm : m = "append") (hm2 : m2 = "pop") (hN : X.N[i]? = some n) (hv : Vis X.env.scope n) (hd : (n == ("__debug__" : Str)) = false) (hcd : (n == ("__classdict__" : Str)) = false)
    (hN2 : X.N[j]? = some n') (hv2 : Vis X.env.scope n') (hd2 : (n' == ("__debug__" : Str)) = false) (hcd2 : (n' == ("__classdict__" : Str)) = false) (he : SE Z X e1 x) (hst : nst e1 = true) (hl : (ap.endLine == p2.line) = true) (hl2 : (ap2.endLine == p6.line) = true) :
    SS Z X (.Expr (.Call (.Attribute (.Name n p3) m ap) [.Call (.Attribute (.Name n' p4) m2 ap2) [e1] [] p6] [] p2) pos) (.appPop i j x) := fun W tk hp => by
  subst hm hm2
  have pop : PE X (.Call (.Attribute (.Name n' p4) "pop" ap2) [e1] [] p6) _ := pe_bm PySem.F.plainAttrs_list PySem.F.slot_list_pop PySem.F.type_list_pop mt_popAt (pe_var hN2 hv2 hd2 hcd2) (pa_cons (he W tk) pa_nil (star_of hst _)) rfl (by rw [star_of hst]; rfl) hl2 (star_of hst _) rfl
  refine PS.of (ps_expr (pe_bm PySem.F.plainAttrs_list PySem.F.slot_list_append PySem.F.type_list_append mt_append (pe_var hN hv hd hcd) (pa_cons pop pa_nil rfl) rfl rfl hl rfl rfl) rfl) fun D σ H ⟨B, H0, A, env, R0, rl, k0, h⟩ => ?_
  have h : SOk Z X.K B H0 W D R0 (match getS env i, getS env j with
    | .own (.lst xs), .own (.lst ys) => (match Nat.beq i j with
      | true => .fail
      | false => (ev Z.C x env).st env fun k => (match k with
        | .int k => (match small k && fitN (lenF xs) with | true => (match takeL ys (ixI (lenF ys) k) with | some (y, zs) => .next (setS (setS env j (.own (.lst zs))) i (.own (.lst (xs ++ [y])))) | none => .fail) | false => .fail)
        | _ => .fail))
    | _, _ => .fail) := h
  split at h
  · rename_i ds es oi oj
    cases hij : Nat.beq i j with
    | true => rw [hij] at h; exact h.elim
    | false =>
      rw [hij] at h
      have hne : i ≠ j := by
        rw [nbeq, decide_eq_false_iff_not] at hij
        exact hij
      obtain ⟨xs, e1, e2, e3, _⟩ := rl.ownL i ds oi
      obtain ⟨ys, g1, g2, g3, _⟩ := rl.ownL j es oj
      refine ⟨_, e1, (.inl ⟨rfl, xs, .of e2⟩), _, g1, (.inl ⟨rfl, ys, .of g2⟩), st_E rl k0 h fun kd kv H1 q h2 => ?_⟩
      have rl1 := rl.grow q.gr
      have k1 := keep_grow rl k0 q.gr
      obtain ⟨xs1, e1, e2, e3, _⟩ := rl1.ownL i ds oi
      obtain ⟨ys1, g1, g2, g3, _⟩ := rl1.ownL j es oj
      cases kd with
      | int k =>
        dsimp only at h2
        split at h2
        · rename_i hb
          rw [Bool.and_eq_true] at hb
          have hf := fitN_le hb.2
          rw [lenF_eq, ← e3.length] at hf
          split at h2
          · rename_i y zs et
            obtain ⟨t1, t2⟩ := takeL_ok et
            rw [lenF_eq, ← g3.length] at t1 t2
            obtain ⟨vy, hy, ry⟩ := g3.get t1
            have hlt : ixI ys1.length k < ys1.length := (List.getElem?_eq_some_iff.mp hy).1
            have sk := small_iff.mp hb.1
            refine ⟨ES.hd A j, ys1, k, _, vy, rfl, by rw [q.rs.rw.int], g2, by omega, by omega, ixI_seq hb.1 hlt, hy, ?_⟩
            subst t2
            have rl2 := rl1.write oj (g3.eraseIdx (ixI ys1.length k))
            have k2 := keep_write (o := .lst (ys1.eraseIdx (ixI ys1.length k))) (es := es.eraseIdx (ixI ys1.length k)) rl1 k1 oj g2
            have ry2 : Rp X.K (Bt B A (setS env j (.own (.lst (es.eraseIdx (ixI ys1.length k)))))) (upd H1 (ES.hd A j) (.lst (ys1.eraseIdx (ixI ys1.length k)))) vy y :=
              keep_write (o := .lst (ys1.eraseIdx (ixI ys1.length k))) (es := es.eraseIdx (ixI ys1.length k)) (R0 := fun v d => Rp X.K (Bt B A env) H1 v d) rl1 (fun _ _ z => z) oj g2 vy y ry
            have oi2 : getS (setS env j (.own (.lst (es.eraseIdx (ixI ys1.length k))))) i = .own (.lst ds) := by rw [getS_set_ne fun z => hne z.symm]; exact oi
            obtain ⟨xs2, m1, m2, m3, _⟩ := rl2.ownL i ds oi2
            have hx2 : xs2.length = xs1.length := by rw [m3.length, e3.length]
            refine ⟨ES.hd A i, xs2, vy, rfl, rfl, m2, by have : sizeLine = 16777216 := rfl; omega, ?_⟩
            exact h2 A σ _ (rl2.write oi2 (m3.snoc ry2)) (keep_write rl2 k2 oi2 m2)
          · exact h2.elim
        · exact h2.elim
      | _ => exact h2.elim
  · exact h.elim
end
end ES
end

set_option Elab.async false
set_option linter.all false
set_option autoImplicit false
set_option maxRecDepth 100000
set_option maxHeartbeats 4000007
/-! ES10c: a name for a list of new lists. -/
noncomputable section
namespace ES
open PySem PySem.Spec
open PyProof.Rows L2
open EV GxR
section
variable {Z : Wd} {X : Cx} {st : Stmt} {x c y : EV.X} {p : Pt} {i : Nat} {own : List Nat}
theorem ss_setLL (hps : ∀ W, Takes X W → PS X st (tAsg (tLc (tI Z X.K x W) (tG Z X.K p) (tT Z X.K c noW) (tE Z X.K y noW) own) (gName i))) (hi : inP p own = true) (hf : frs y = true) : SS Z X st (.setLL i (.comp p x c y own)) := fun W tk hp => by
  refine PS.of (hps W tk) fun D σ H ⟨B, H0, A, env, R0, rl, k0, h⟩ => ?_
  have h : SOk Z X.K B H0 W D R0 ((ev Z.C (.comp p x c y own) env).st env fun d => match d with | .list xs => (match lists xs with | some dss => .next (setS env i (.own (.ll dss))) | none => .fail) | _ => .fail) := h
  show tLc (tI Z X.K x W) (tG Z X.K p) (tT Z X.K c noW) (tE Z X.K y noW) own σ H (fun v H' => gName i v σ H' D.nx)
  refine llc_imp hi hf rl ?_
  cases e : ev Z.C (.comp p x c y own) env with
  | fail => rw [e] at h; exact h.elim
  | exc k =>
    rw [e] at h
    exact fun dd H' g => h dd A σ H' (rl.grow g) fun v d r => (k0 v d r).grow g rl.tabs
  | ok d =>
    rw [e] at h
    cases d with
    | list xs =>
      have h : SOk Z X.K B H0 W D R0 (match lists xs with | some dss => .next (setS env i (.own (.ll dss))) | none => .fail) := h
      cases el : lists xs with
      | none => rw [el] at h; exact h.elim
      | some dss =>
        rw [el] at h
        refine ⟨xs, dss, rfl, el, fun L ps H' g nd fr hL lls => ?_⟩
        have h : ∀ A σ H, Rl X.K Z.T B H0 A (setS env i (.own (.ll dss))) σ H → (∀ v d, R0 v d → Rp X.K (Bt B A (setS env i (.own (.ll dss)))) H v d) → D.nx σ H := h
        exact h _ _ H' (rl.setOb g fr nd ⟨L, ps, rfl, hL, lls⟩) fun v d r => (((k0 v d r).moreL fr).less Bt.setOb).grow g rl.tabs
    | _ => exact h.elim
end
end ES
end

set_option Elab.async false
set_option linter.all false
set_option autoImplicit false
set_option maxRecDepth 100000
set_option maxHeartbeats 4000007
/-! EG1: any, all of a generator expression: the consumer's side, the generator's frame. -/
noncomputable section
namespace ES
open PySem PySem.Spec PyProof.Rows L2 EV GxR

/-- what the walked generator stands on -/
structure Live (a : Addr) (g : Nat) (s : Shared) : Prop where
  gen : s.heap.IsGen a g
  lim : s.heap.NoLimit
  bare : AllBare s.gens
  at_ : g < s.gens.size
/-- the same heap, another table of generators -/
def Woken (s s' : Shared) : Prop := s'.heap = s.heap ∧ s'.os = s.os ∧ AllBare s'.gens ∧ s.gens.size ≤ s'.gens.size
def yG (all : Bool) (a : Addr) (g : Nat) (Pq : Bool → Shared → Prop) : Protocol := fun _ _ v s kap => ∃ c, v = .bool c ∧ Live a g s ∧
  (if c = all then ∀ s', Woken s s' → kap (.send .none) s' else Pq c s)
def rG (all : Bool) (g : Nat) (Pq : Bool → Shared → Prop) : Nat → Shared → Shared → Prop := fun _ _ s => AllBare s.gens ∧ g < s.gens.size ∧ Pq all s
def fnG (all : Bool) : String := match all with | true => "all" | false => "any"
section
variable {prog : Program}
  {w : World} {A : Around} {R : Result → Shared → Prop}
theorem setGen_bare {s : Shared} {g : Nat} {x : GenState} (h : AllBare s.gens) (hx : x.bare = true) : AllBare (s.setGen g x).gens := allBare_setGen h hx
theorem size_setGen {s : Shared} {g : Nat} {x : GenState} : (s.setGen g x).gens.size = s.gens.size := GenW.setGen_size s g x
theorem stepG {all : Bool} {a : Addr} {g : Nat} {Pq : Bool → Shared → Prop} (hh : A.handled = none) (hroom : A.depth < recursionLimit)
    (grow : ∀ c s s' , Pq c s → (∀ b o, s.heap.get? b = some o → s'.heap.get? b = some o) → s'.os = s.os → AllBare s'.gens → Pq c s') {n : Nat} {gs : GenState} {s : Shared} (L : Live a g s) (hgs : s.gens[g]? = some gs)
    (hgo : gs.Goes (model prog w) A.in1 (fun n s₀ r s₁ => r = .ok .next ∧ rG all g Pq n s₀ s₁) (yG all a g Pq) n (.send .none) (s.setGen g .running))
    {Q : Option Value → Shared → Prop} {E : Value → Shared → Prop} (h1 : ∀ s', Pq all s' → Q none s') (h2 : ∀ c s', c ≠ all → Pq c s' → Q (some (.bool c)) s')
    (h3 : ∀ m gs' s', n = m + 1 → Live a g s' → s'.gens[g]? = some gs' → gs'.Goes (model prog w) A.in1 (fun n s₀ r s₁ => r = .ok .next ∧ rG all g Pq n s₀ s₁) (yG all a g Pq) m (.send .none) (s'.setGen g .running) → Q (some (.bool all)) s') :
    wpAny (model prog w) A (pyNext (.ref a)) Q E s :=
        by
  refine wpAny_pyNext_genexpQ (P := rG all g Pq) hh L.lim hroom L.gen hgs hgo (fun v s₁ gs' hb hv => ?_) (fun s₁ hp h' hk => ?_)
  · obtain ⟨c, e, L', hc⟩ := hv
    subst e
    by_cases z : c = all
    · rw [if_pos z] at hc
      subst z
      cases n with
      | zero => exact (hc s₁ ⟨rfl, rfl, L'.bare, Nat.le_refl _⟩).elim
      | succ m =>
        refine h3 m gs' _ rfl ⟨L'.gen, L'.lim, setGen_bare L'.bare hb, by rw [size_setGen]; exact L'.at_⟩ (setGen_at L'.at_) ?_
        exact hc _ ⟨rfl, rfl, setGen_bare (setGen_bare L'.bare hb) rfl, by rw [size_setGen, size_setGen]; exact Nat.le_refl _⟩
    · rw [if_neg z] at hc
      exact h2 c _ z (grow c _ _ hc (fun b o e => e) rfl (setGen_bare L'.bare hb))
  · exact h1 _ (grow all _ _ hp.2.2 (fun b o e => hk b o e) rfl (setGen_bare hp.1 rfl))
theorem loopAll {a : Addr} {g : Nat} {Pq : Bool → Shared → Prop} (hh : A.handled = none) (hroom : A.depth < recursionLimit) (fin : ∀ c s, Pq c s → R (.ok (.ret (.bool c))) s)
    (grow : ∀ c s s' , Pq c s → (∀ b o, s.heap.get? b = some o → s'.heap.get? b = some o) → s'.os = s.os → AllBare s'.gens → Pq c s') : ∀ (n : Nat) (gs : GenState) (s : Shared), Live a g s → s.gens[g]? = some gs →
    gs.Goes (model prog w) A.in1.in1 (fun n s₀ r s₁ => r = .ok .next ∧ rG true g Pq n s₀ s₁) (yG true a g Pq) n (.send .none) (s.setGen g .running) →
    codeAny (model prog w) A (.builtin "all.loop" ⟨[.ref a], []⟩) R s
  | n, gs, s, L, hgs, hgo => by
    refine codeAny_builtin F.entry_all_loop
        ?_
    rw [Around.under_plainId F.plain_all_loop
        _]
    show wpAny _ A.in1 (pyNext (.ref a) >>= _) _ _
        s
    refine wpAny_bind (stepG (A := A.in1) hh hroom grow L hgs hgo (fun s' p => ?_) (fun c s' z p => ?_) fun m gs' s' em L' hgs' hgo' => ?_)
    · exact wpAny_bind (wpAny_rule (wpAny_pure (fin _ _ p)))
    · cases c with
      | true => exact absurd rfl z
      | false =>
        refine wpAny_bind (wpAny_holding (wpAny_truthy_bool (wpAny_bind (wpAny_letGo ?_))))
        simp only [Bool.false_eq_true,
            if_false]
        exact wpAny_bind (wpAny_rule (wpAny_pure (fin _ _ p)))
    · subst em
      refine wpAny_bind (wpAny_holding (wpAny_truthy_bool (wpAny_bind (wpAny_letGo ?_))))
      simp only [if_true]
      exact wpAny_pure ⟨plainId_quiet F.plain_all_loop _, loopAll hh hroom fin grow m gs' s' L' hgs' hgo'⟩
theorem loopAny {a : Addr} {g : Nat} {Pq : Bool → Shared → Prop} (hh : A.handled = none) (hroom : A.depth < recursionLimit) (fin : ∀ c s, Pq c s → R (.ok (.ret (.bool c))) s)
    (grow : ∀ c s s' , Pq c s → (∀ b o, s.heap.get? b = some o → s'.heap.get? b = some o) → s'.os = s.os → AllBare s'.gens → Pq c s') : ∀ (n : Nat) (gs : GenState) (s : Shared), Live a g s → s.gens[g]? = some gs →
    gs.Goes (model prog w) A.in1.in1 (fun n s₀ r s₁ => r = .ok .next ∧ rG false g Pq n s₀ s₁) (yG false a g Pq) n (.send .none) (s.setGen g .running) →
    codeAny (model prog w) A (.builtin "any.loop" ⟨[.ref a], []⟩) R s
  | n, gs, s, L, hgs, hgo => by
    refine codeAny_builtin F.entry_any_loop
        ?_
    rw [Around.under_plainId F.plain_any_loop
        _]
    show wpAny _ A.in1 (pyNext (.ref a) >>= _) _ _
        s
    refine wpAny_bind (stepG (A := A.in1) hh hroom grow L hgs hgo (fun s' p => ?_) (fun c s' z p => ?_) fun m gs' s' em L' hgs' hgo' => ?_)
    · exact wpAny_bind (wpAny_rule (wpAny_pure (fin _ _ p)))
    · cases c with
      | false => exact absurd rfl z
      | true =>
        refine wpAny_bind (wpAny_holding (wpAny_truthy_bool (wpAny_bind (wpAny_letGo ?_))))
        simp only [if_true]
        exact wpAny_bind (wpAny_rule (wpAny_pure (fin _ _ p)))
    · subst em
      refine wpAny_bind (wpAny_holding (wpAny_truthy_bool (wpAny_bind (wpAny_letGo ?_))))
      simp only [Bool.false_eq_true,
          if_false]
      exact wpAny_pure ⟨plainId_quiet F.plain_any_loop _, loopAny hh hroom fin grow m gs' s' L' hgs' hgo'⟩
theorem callG (all : Bool) {a : Addr} {g n : Nat} {gs : GenState} {s : Shared} {Q : Value → Shared → Prop} {E : Value → Shared → Prop} {Pq : Bool → Shared → Prop} (hh : A.handled = none) (hroom : A.depth < recursionLimit) (fin : ∀ c s, Pq c s → Q (.bool c) s)
    (grow : ∀ c s s' , Pq c s → (∀ b o, s.heap.get? b = some o → s'.heap.get? b = some o) → s'.os = s.os → AllBare s'.gens → Pq c s') (L : Live a g s) (hgs : s.gens[g]? = some gs)
    (hgo : gs.Goes (model prog w) A.in1.in1 (fun n s₀ r s₁ => r = .ok .next ∧ rG all g Pq n s₀ s₁) (yG all a g Pq) n (.send .none) (s.setGen g .running)) :
    wpAny (model prog w) A (call (.builtin (fnG all)) [.ref a]) Q E s := by
  cases all with
  | true =>
    show wpAny _ A (call (.builtin "all") [.ref a]) Q E s
    refine call_function_tree F.kind_all F.plain_all F.entry_all (F.args_all1 _)
        ?_
    unfold Builtin.«all»
    refine wpAny_bind (m := oneArg "all" _) (wpAny_pure (wpAny_bind (wpAny_pyIter_gen L.gen (wpAny_pure ⟨plainId_quiet F.plain_all_loop _, ?_⟩))))
    exact loopAll hh hroom fin grow n gs s L hgs hgo
  | false =>
    show wpAny _ A (call (.builtin "any") [.ref a]) Q E s
    refine call_function_tree F.kind_any F.plain_any F.entry_any (F.args_any1 _)
        ?_
    unfold Builtin.«any»
    refine wpAny_bind (m := oneArg "any" _) (wpAny_pure (wpAny_bind (wpAny_pyIter_gen L.gen (wpAny_pure ⟨plainId_quiet F.plain_any_loop _, ?_⟩))))
    exact loopAny hh hroom fin grow n gs s L hgs hgo
end
end ES
end

set_option Elab.async false
set_option linter.all false
set_option autoImplicit false
set_option maxRecDepth 100000
set_option maxHeartbeats 4000007
/-! EG2: the generator's frame and its turns. -/
noncomputable section
namespace ES
open PySem PySem.Spec PyProof.Rows L2 EV GxR

/-- the context of a generator expression's frame; A' its around -/
abbrev gnX (X : Cx) (A' : Around) (s : Shared) (H : Hp) (cenv : Env) (fp : List Addr) : Cx :=
  { X with A := A', s_0 := s, H_0 := H, env := cenv, outer := X.stack, stack := cenv :: X.stack, ex := fp, fn := fun _ => false, pn := [], xe := fun _ _ => False }
section
variable {X : Cx} {pins : List (Addr × Obj)} {σ : L2.St} {H : Hp} {s s5 : Shared} {scope : Scope} {own : List (Str × Nat)} {fp : List Addr} {A' : Around} {code : Value}
theorem gn_start (I : Inv X pins σ H s) (ok : BlkOk X.N X.env.scope scope own) (hN : X.N.Nodup) (hcell : ∀ y ∈ scope.names, y.2 ≠ .cell) (hfp : ∀ b ∈ fp, FpOk X pins H b ∧ b < s.heap.objs.size)
    (hA : X.calm = true → A'.handled = none) {m : Str → Option Value} {a : Addr} {og : Obj} (hF : A'.frames = some (genEnv scope (cloFrom X.env.cells scope.names []) s.heap.objs.size code builtinsNs X.env :: X.stack))
    (kp : ∀ b o, s.heap.get? b = some o → s5.heap.get? b = some o) (hos : s5.os = s.os) (hb : AllBare s5.gens) (hns : s5.heap.Ns s.heap.objs.size m) (hag : s5.heap.get? a = some og) (hac : ∀ v, og.data ≠ .cell v) (haC : s.heap.objs.size < a) :
    Inv (gnX X A' s H (genEnv scope (cloFrom X.env.cells scope.names []) s.heap.objs.size code builtinsNs X.env) fp) [(a, og)] (L2.wipe σ (own.map (·.2))) H s5 := by
  generalize hce : genEnv scope (cloFrom X.env.cells scope.names []) s.heap.objs.size code builtinsNs X.env = cenv at hF
  have hL : cenv.locals = s.heap.objs.size := by rw [← hce]; rfl
  have hcl : cenv.cells = cloFrom X.env.cells scope.names [] := by rw [← hce]; rfl
  have hsc : cenv.scope = scope := by rw [← hce]; rfl
  have free_c : ∀ y ∈ scope.names, y.2 = .free → ∃ c, X.env.cells.lookup y.1 = some c := fun y hy e => (ok.free y hy e).elim (fun k => I.ok.has _ (.inl k)) fun k => I.ok.has _ (.inr k)
  have cm : ∀ {y c}, cenv.cells.lookup y = some c → X.env.cells.lookup y = some c ∧ (y, NameKind.free) ∈ scope.names := fun {y c} e => by
    rw [hcl] at e
    rcases cloFrom_mem (PySem.mem_of_lookup e) with z | ⟨h1, h2⟩
    · cases z
    · obtain ⟨c', e'⟩ := free_c _ h1 rfl
      have e' : X.env.cells.lookup y = some c' := e'
      rw [e'] at h2
      rw [h2]
      exact ⟨e', h1⟩
  have lk : ∀ {y}, scope.names.lookup y = some .free → ∃ c, cenv.cells.lookup y = some c ∧ X.env.cells.lookup y = some c := fun {y} hl => by
    obtain ⟨c', e'⟩ := mem_lookup (cloFrom_has (cells := X.env.cells) (acc := []) (PySem.mem_of_lookup hl))
    rw [← hcl] at e'
    exact ⟨c', e', (cm e').1⟩
  have ltc : ∀ {y c}, X.env.cells.lookup y = some c → c < s.heap.objs.size := fun {y c} e => by
    obtain ⟨v, z⟩ := I.cell y c e
    exact z.lt
  have okG : (gnX X A' s H cenv fp).Ok := by
    refine { mod := I.ok.mod, kind := ?_, glob := ?_, blt := ?_, above := ?_, inj := ?_, has := ?_, cab := ?_, hd := hA, frames := hF, stk := .inr ⟨rfl, ?_⟩, exf := ?_, bs := I.bs, bsz := Nat.le_trans I.ok.bsz I.sz, noex := ?_, exfs := ?_, funs := I.stack, frf := I.stkFree }
    · show cenv.scope.kind = _
      rw [hsc]; exact ok.kind
    · show cenv.globals = _
      rw [← hce]; exact I.ok.glob
    · show cenv.builtins = _
      rw [← hce]; rfl
    · show s.heap.objs.size ≤ cenv.locals
      rw [hL]; exact Nat.le_refl _
    · intro y z c e1 e2
      exact I.ok.inj y z c (cm e1).1 (cm e2).1
    · intro y hy
      have hy : cenv.scope.names.lookup y = some .cell ∨ cenv.scope.names.lookup y = some .free := hy
      rw [hsc] at hy
      rcases hy with hy | hy
      · exact absurd rfl (hcell _ (PySem.mem_of_lookup hy))
      · obtain ⟨c, h1, _⟩ := lk hy
        exact ⟨c, h1⟩
    · intro y c z
      cases z
    · show cenv.frame = some cenv.locals
      rw [← hce]; rfl
    · intro b hb
      refine ⟨?_, fun y c e z => (hfp b hb).1.2.2.2.2.1 y c (cm e).1 z⟩
      show b ≠ cenv.locals
      rw [hL]; exact Nat.ne_of_lt (hfp b
          hb).2
    · intro b o e hb
      rcases (hfp b hb).1.2.2.2.1 with z | z
      · exact I.ok.noex b o e z
      · exact absurd (Nat.lt_of_lt_of_le (Heap.lt_size e) (Nat.le_trans I.ok.bsz z)) (Nat.lt_irrefl
            _)
    · intro b hb z
      rcases List.mem_cons.mp (I.stkSub b z) with z | z
      · exact (hfp b hb).1.2.1 z
      · exact (hfp b hb).1.2.2.1 z
  refine { ok := okG, os := hos, bare := hb, base := Un.kept kp, loc := ⟨m, ?_, ?_⟩, cell := ?_, free := ?_, freeC := ?_, pin := ?_, hok := I.hok.kept kp, len := by rw [wipe_length]; exact I.len }
  · show Heap.Ns _ cenv.locals
        _
    rw [hL]; exact hns
  · intro i y av e1 e2 e3
    obtain ⟨e2, hne⟩ := wipe_some e2
    have e3 : scope.names.lookup y = some .local ∨ scope.names.lookup y = some .cell ∨ scope.names.lookup y = some .free := by
      have e3 : Vis cenv.scope y :=
          e3
      rw [hsc] at e3
      exact e3
    have no : ∀ k, scope.names.lookup y = some k → (k = .local ∨ k = .cell) → False := fun k hk hh => by
      rcases ok.own _ (PySem.mem_of_lookup hk) hh with z | z
      · obtain ⟨p, hp, hpy⟩ := List.mem_map.mp z
        have e4 := ok.ix p hp
        have hpy : p.1 = y := hpy
        rw [hpy] at e4
        exact hne (List.mem_map.mpr ⟨p, hp, nodup_ix hN e4 e1⟩)
      · exact z (List.mem_of_getElem? e1)
    have hfr : scope.names.lookup y = some .free := by
      rcases e3 with z | z | z
      · exact (no _ z (.inl rfl)).elim
      · exact (no _ z (.inr rfl)).elim
      · exact z
    obtain ⟨m0, hn0, hl⟩ := I.loc
    have hfk := ok.free _ (PySem.mem_of_lookup hfr) rfl
    obtain ⟨u, r, q⟩ := hl i y av e1 e2 (hfk.elim (fun k => .inr (.inl k)) fun k => .inr (.inr k))
    refine ⟨u, r, .inr ⟨.inr ?_, ?_⟩⟩
    · show cenv.scope.names.lookup y = _
      rw [hsc]; exact hfr
    · obtain ⟨c, h1, h2⟩ := lk hfr
      rcases q with ⟨k,
          _⟩ | ⟨_, c', e', z⟩
      · have k : X.env.scope.names.lookup y = some .local :=
            k
        rcases hfk with k' | k' <;> rw [show X.env.scope.names.lookup y = _ from k'] at k <;> cases k
      · rw [h2] at e'
        cases e'
        exact ⟨c, h1, z.keeps kp⟩
  · intro y c e
    obtain ⟨v, z⟩ := I.cell y c (cm e).1
    exact ⟨v, z.keeps kp⟩
  · show H cenv.locals = none
    rw [hL]; exact I.hok.fresh (Nat.le_refl
        _)
  · intro y c e
    exact I.freeC y c (cm e).1
  · intro p hp
    have hp : p ∈ [] ++ [(a, og)] := hp
    have e : p = (a, og) := by simpa using hp
    subst e
    refine ⟨hag, I.hok.fresh (Nat.le_of_lt haC), ?_, ?_, hac⟩
    · show a ≠ cenv.locals
      rw [hL]; exact Nat.ne_of_gt haC
    · intro z
      rcases List.mem_cons.mp (I.stkSub a z) with z | z
      · exact absurd I.lt (by rw [← z]; exact Nat.lt_asymm haC)
      · exact I.nofs (Nat.le_of_lt haC) z
end
end ES
end

set_option Elab.async false
set_option linter.all false
set_option autoImplicit false
set_option maxRecDepth 100000
set_option maxHeartbeats 4000007
/-! EG3: the turns of a generator expression. -/
noncomputable section
namespace ES
open PySem PySem.Spec PyProof.Rows L2 EV GxR

theorem Inv.woken {X : Cx} {pins : List (Addr × Obj)} {σ : L2.St} {H : Hp} {s s' : Shared} (I : Inv X pins σ H s) (e1 : s'.heap = s.heap) (e2 : s'.os = s.os) (e3 : AllBare s'.gens) : Inv X pins σ H s' :=
  { ok := I.ok, os := e2.trans I.os, bare := e3, base := by rw [e1]; exact I.base, loc := by rw [e1]; exact I.loc, cell := by rw [e1]; exact I.cell, free := I.free, freeC := I.freeC, pin := by rw [e1]; exact I.pin, hok := by rw [e1]; exact I.hok, len := I.len }
theorem Inv.grown {X : Cx} {pins : List (Addr × Obj)} {σ : L2.St} {H : Hp} {s s' : Shared} (I : Inv X pins σ H s) (k : ∀ b o, s.heap.get? b = some o → s'.heap.get? b = some o) (e2 : s'.os = s.os) (e3 : AllBare s'.gens) : Inv X pins σ H s' :=
  Inv.woken (s := { s with heap := s'.heap, toks := s'.toks }) (I.kept (t' := s'.toks) k) rfl e2 e3

/-- an abstract account of the turns -/
def TurnG (J : It) (all : Bool) (gT : TG) (tt : TT) (te : TE) (σ0 : L2.St) (vs : List Nat) (Qe : Bool → Hp → Prop) (W : Nat → Nat → Hp → Prop) : Prop := ∀ i m H, W i m H →
  (J.stop i H ∧ Qe all H) ∨ (J.go i H ∧ ∃ Nx : Hp → Prop, (∀ H', Nx H' → ∃ m', m' < m ∧ W (i + 1) m' H') ∧ ∀ x H', J.yld i H x H' → gT x σ0 H' fun σ2 H2 => L2.wipe σ2 vs = σ0 ∧ tt σ2 H2 fun b H3 =>
    if b = true then te σ2 H3 fun y H4 => ∃ c, y = .bl c ∧ (if c = all then Nx H4 else Qe c H4) else Nx H3)
section
variable {XG : Cx} {tg iter elt : Expr} {ifs : List Expr} {scope : Scope} {pos : Pos} {J : It} {fp : List Addr} {it a : Addr} {g : Nat} {og : Obj} {tn : Nat → Heap → Prop} {gT : TG} {tt : TT} {te : TE} {all : Bool} {σ0 : L2.St} {vs : List Nat} {Qe : Bool → Hp → Prop} {W : Nat → Nat → Hp → Prop} {Ag : Around}
def PqG (XG : Cx) (a : Addr) (og : Obj) (Qe : Bool → Hp → Prop) : Bool → Shared → Prop := fun c s => ∃ σ' H', Inv XG [(a, og)] σ' H' s ∧ Qe c H'
theorem pqG_grow : ∀ c s s', PqG XG a og Qe c s → (∀ b o, s.heap.get? b = some o → s'.heap.get? b = some o) → s'.os = s.os → AllBare s'.gens → PqG XG a og Qe c s' := fun c s s' ⟨σ', H', I, q⟩ k e2 e3 => ⟨σ', H', Inv.grown I k e2 e3, q⟩
theorem live_of {pins : List (Addr × Obj)} {σ : L2.St} {H : Hp} {s : Shared} (I : Inv XG ((a, og) :: pins) σ H s) (ho : ∀ h : Heap, h.get? a = some og → h.IsGen a g) (hg : g < s.gens.size) : Live a g s :=
  ⟨ho _ (I.pin (a, og) (List.mem_append_right _ (List.mem_cons_self ..))).1, I.nolimit, I.bare, hg⟩
theorem segG (hc : XG.calm = true) (hA : XG.A = Ag.over (.compLoop (.GeneratorExp elt [⟨tg, iter, ifs, 0⟩] scope pos) 0 (.ref it) .none XG.env) [])
    (T : Turn XG.prog XG.w XG.K tg J fp it tn) (pg : PG XG tg gT) (pt : PTs XG ifs tt) (pe : PE XG elt te) (hco : XG.env.scope.isCoroutine = false) (turn : TurnG J all gT tt te σ0 vs Qe W) (hw : L2.wipe σ0 vs = σ0)
    (hxe : XG.xe = fun _ _ => False) (hex : XG.ex = fp) (hpn : XG.pn = []) (haf : a ∉ fp) (ho : ∀ h : Heap, h.get? a = some og → h.IsGen a g) : ∀ (k m i n : Nat) (H : Hp) (s₀ s : Shared), m < k → m < n → Inv XG [(a, og)] σ0 H s → tn i s.heap → (∀ b ∈ fp, H b = none) → W i m H → g < s.gens.size →
    Seg (model XG.prog XG.w) Ag (fun n s₀ r s₁ => r = .ok .next ∧ rG all g (PqG XG a og Qe) n s₀ s₁) (yG all a g (PqG XG a og Qe)) n s₀ (.compLoop (.GeneratorExp elt [⟨tg, iter, ifs, 0⟩] scope pos) 0 (.ref it) .none XG.env)
      ((model XG.prog XG.w).den (.compLoop (.GeneratorExp elt [⟨tg, iter, ifs, 0⟩] scope pos) 0 (.ref it) .none XG.env)) [] s := by
  have nox : ∀ e s', ¬ XG.xe e s' := fun e s' z => by rw [hxe] at z; exact z
  have stat : ∀ {σ' : L2.St} {H' : Hp} {s' : Shared}, Inv XG [(a, og)] σ' H' s' → (∀ b ∈ fp, H' b = none) → ∀ b ∈ fp, FpOk XG [(a, og)] H' b := fun {σ' H' s'} I' hn b hb => by
    have hb' : b ∈ XG.ex := by rw [hex]; exact hb
    refine ⟨hn b hb, (I'.ok.exf b hb').1, I'.ok.exfs b hb', .inl hb', fun x c e => (I'.ok.exf b hb').2 x c e, fun p hp z => ?_⟩
    rw [hpn] at hp
    have e : p = (a, og) := by simpa using hp
    subst e
    exact haf (by rw [show a = b from z]; exact hb)
  intro k
  induction k with
  | zero => intro m i n H s₀ s hk; exact absurd hk (Nat.not_lt_zero _)
  | succ k ih =>
    intro m i n H s₀ s hk hn I st nf w hg
    show Seg _ Ag _ _ _ s₀ _ ((compTurn (.GeneratorExp elt [⟨tg, iter, ifs, 0⟩] scope pos) 0 (.ref it) .none XG.env).onRaise (leaving XG.env)) [] s
    rw [compTurn_gen,
        Sem.onRaise_eq_wrap]
    refine seg_bind_wrap (wpAny_standAt
        ?_)
    rcases turn i m H w with ⟨stop, qe⟩ | ⟨go, Nx, hNx, step⟩
    · refine seg_bind_wrap ?_
      rw [← hA]
      refine GenW.wpAny_gsz (Nat.succ_le_of_lt hg) (wpAny_mono (T.done XG rfl rfl rfl hc i [(a, og)] s σ0 H (fun _ _ => False) I (stat I nf) st stop) (fun r s1 q hg1 => ?_) fun _ _ z => z.elim)
      obtain ⟨e, I1⟩ := q
      subst e
      exact seg_end (.ok .next) ⟨rfl, I1.bare, hg1, σ0, H, I1, qe⟩
    · -- the next turn
      have on : ∀ {s' s'' : Shared} {σ' : L2.St} {H' : Hp} {n' m' : Nat} {s7 : Shared}, Inv XG ((a, og) :: pinsAt fp s7.heap) σ' H' s' → L2.wipe σ' vs = σ0 → tn (i + 1) s7.heap → m' < m → m' < n' → W (i + 1) m' H' → g < s'.gens.size →
          Seg (model XG.prog XG.w) Ag (fun n s₀ r s₁ => r = .ok .next ∧ rG all g (PqG XG a og Qe) n s₀ s₁) (yG all a g (PqG XG a og Qe)) n' s'' (.compLoop (.GeneratorExp elt [⟨tg, iter, ifs, 0⟩] scope pos) 0 (.ref it) .none XG.env)
            ((model XG.prog XG.w).den (.compLoop (.GeneratorExp elt [⟨tg, iter, ifs, 0⟩] scope pos) 0 (.ref it) .none XG.env)) [] s' := fun {s' s'' σ' H' n' m' s7} I' hw' st7 h1 h2 w' hg' => by
        have pin' : ∀ b ∈ fp, ∀ o, s7.heap.get? b = some o → s'.heap.get? b = some o ∧ H' b = none :=
            fun b hb o e =>
          let z := I'.pin (b, o) (List.mem_append_right _ (List.mem_cons_of_mem _ (mem_pinsAt hb e)))
          ⟨z.1, z.2.1⟩
        have hl : σ0.length = σ'.length := by rw [← hw', wipe_length]
        refine ih m' (i + 1) n' H' s'' s' (by omega) h2 ?_ (T.keep _ _ _ st7 fun b hb o e => (pin' b hb o e).1) (fun b hb => ?_) w' hg'
        · refine (I'.pins_of fun p hp => I'.pin p ?_).weak hl fun j v e => ?_
          · exact List.mem_append_right _ (by have e : p = (a, og) := by simpa using hp
                                              rw [e]; exact List.mem_cons_self ..)
          · rw [← hw'] at e
            exact (wipe_some e).1
        · obtain ⟨o, e, _⟩ :=
              T.obj _ _ st7 b hb
          exact (pin' b hb o e).2
      refine seg_bind_wrap ?_
      rw [← hA]
      refine GenW.wpAny_gsz (Nat.succ_le_of_lt hg) (wpAny_mono (T.item XG rfl rfl rfl hc i [(a, og)] s σ0 H (fun _ _ => False) I (stat I nf) st go) (fun r s1 q hg1 => ?_) fun _ _ z => z.elim)
      obtain ⟨u, er, h1⟩ := q
      subst er
      refine seg_bind_wrap ?_
      rw [← hA]
      refine GenW.wpAny_gsz hg1 (wpAny_mono h1 (fun _ s7 q hg7 => ?_) fun _ _ z => z.elim)
      obtain ⟨x, H7, I7, r7, y7, st7, n7⟩ := q
      have I7' : Inv XG ((a, og) :: pinsAt fp s7.heap) σ0 H7 s7 := I7.pinned (stat I7 n7) (T.obj _ _ st7)
      refine seg_bind_wrap ?_
      rw [← hA]
      refine GenW.wpAny_gsz hg7 (wpAny_mono (pg.run _ s7 _ H7 x u _ I7' r7 (step x H7 y7)) (fun _ s8 q hg8 => ?_) fun _ _ z => (nox _ _ z).elim)
      obtain ⟨σ8, H8, I8, hw8, q8⟩ := q
      refine seg_bind_wrap ?_
      rw [← hA]
      refine GenW.wpAny_gsz hg8 (wpAny_mono (pt.run _ s8 σ8 H8 _ I8 q8) (fun b s9 q hg9 => ?_) fun _ _ z => (nox _ _ z).elim)
      obtain ⟨H9, I9, q9⟩ := q
      cases b with
      | false =>
        simp only [Bool.false_eq_true,
            if_false] at q9 ⊢
        obtain ⟨m', hm', w'⟩ := hNx H9 q9
        exact seg_again rfl (on I9 hw8 st7 hm' (by omega) w' hg9)
      | true =>
        simp only [if_true] at q9 ⊢
        have hy : ∀ v, yieldOut XG.env v = yieldValue v := fun v => by simp only [yieldOut, hco, Bool.false_eq_true, if_false]
        simp only [hy]
        rw [Sem.bind_eq_wrap',
            Sem.bind_eq_wrap', Sem.wrap_wrap, Sem.wrap_wrap]
        refine seg_wrap ?_
        rw [← hA]
        refine GenW.wpAny_gsz hg9 (wpAny_mono (pe.run _ s9 σ8 H9 _ I9 q9) (fun z s10 q hg10 => ?_) fun _ _ z => (nox _ _ z).elim)
        obtain ⟨yv, H10, I10, r10, c, ec, q10⟩ := q
        subst ec
        cases r10
        cases n with
        | zero => exact absurd hn (Nat.not_lt_zero _)
        | succ n =>
          refine seg_at (seg_yield rfl rfl rfl ⟨c, rfl, live_of I10 ho hg10, ?_⟩)
          by_cases hca : c = all
          · rw [if_pos hca] at q10 ⊢
            intro s'' wk
            obtain ⟨m', hm', w'⟩ := hNx H10 q10
            exact seg_again rfl (on (Inv.woken I10 wk.1 wk.2.1 wk.2.2.1) hw8 st7 hm' (by omega) w' (Nat.lt_of_lt_of_le hg10 wk.2.2.2))
          · rw [if_neg hca] at q10 ⊢
            refine ⟨σ8, H10, I10.pins_of fun p hp => I10.pin p ?_, q10⟩
            exact List.mem_append_right _ (by have e : p = (a, og) := by simpa using hp
                                              rw [e]; exact List.mem_cons_self ..)
end
end ES
end

set_option Elab.async false
set_option linter.all false
set_option autoImplicit false
set_option maxRecDepth 100000
set_option maxHeartbeats 4000007
/-! EG4: any, all of a generator expression. -/
noncomputable section
namespace ES
open PySem PySem.Spec PyProof.Rows L2 EV GxR

/-- the around of a generator that any, all walks -/
abbrev gnA (X : Cx) (c : Code) : Around := X.A.in1.in1.over c []
theorem gnA_room {X : Cx} {k : Nat} (h : Room (k + 1) X.A) (gx : Expr) (it : Value) (env : Env) (hg : ∃ a b c d, gx = .GeneratorExp a b c d) : Room k (gnA X (.compLoop gx 0 it .none env)) := by
  obtain ⟨a, b, c, d, rfl⟩ := hg
  have hd := h.hd; have dp := h.dp; have un := h.un
  refine ⟨?_, ?_, ?_⟩
  · show (marksOver [] (X.A.handled, X.A.handled)).1 = none
    exact hd
  · show X.A.depth + 0 + 1 + 3 * k + 5 < recursionLimit
    omega
  · show X.A.units + 1 + 1 + 0 + 3 + 16 * k + 200 < cLine
    omega
theorem gnA_frames {X : Cx} {st : List Env} (h : X.A.frames = some st) {gx : Expr} {it : Value} {env : Env} (hg : ∃ a b c d, gx = .GeneratorExp a b c d) : (gnA X (.compLoop gx 0 it .none env)).frames = some (env :: st) := by
  obtain ⟨a, b, c, d, rfl⟩ := hg
  show pushEnvs [env] (pushEnvs [] X.A.frames) = _
  rw [h]; rfl
def tGn (P : Addr) (all : Bool) (wi : TI) (gT : TG) (tt : TT) (te : TE) (vs : List Nat) : TE := fun σ H Q => wi σ H fun J H1 => TabG H1 P ∧ ∀ H2, Tabbed P H1 H2 →
  ∃ W : Nat → Nat → Hp → Prop, (∃ m, W 0 m H2) ∧ TurnG J all gT tt te (L2.wipe σ vs) vs (fun c H => Q (.bl c) H) W
section
variable {X : Cx} {c P : Addr} {tg iter elt : Expr} {ifs : List Expr} {scope : Scope} {own : List (Str × Nat)} {wi : TI} {gT : TG} {tt : TT} {te : TE} {k : Nat} {gpos p pos : Pos} {all : Bool}
theorem pe_gn (hr : Room (k + 1) X.A) (hc : X.calm = true) (hN : X.N.Nodup) (hgl : Gl X (Str.ofString (fnG all))) (hmg : X.mg (Str.ofString (fnG all)) = none) (TB : TabB X.base X.mg c P) (hcode : X.env.code = .ref c)
    (hco : scope.isCoroutine = false) (hcell : ∀ y ∈ scope.names, y.2 ≠ .cell) (h0 : scope.names.lookup (".0" : Str) = some NameKind.local) (hi : PI X tg iter wi) (ok : BlkOk X.N X.env.scope scope own)
    (hpg : ∀ (A' : Around) (s : Shared) (H : Hp) (cenv : Env) (fp : List Addr), Room k A' → cenv.scope = scope → PG (gnX X A' s H cenv fp) tg gT)
    (hpt : ∀ (A' : Around) (s : Shared) (H : Hp) (cenv : Env) (fp : List Addr), Room k A' → cenv.scope = scope → PTs (gnX X A' s H cenv fp) ifs tt)
    (hpe : ∀ (A' : Around) (s : Shared) (H : Hp) (cenv : Env) (fp : List Addr), Room k A' → cenv.scope = scope → PE (gnX X A' s H cenv fp) elt te)
    (hs : ∀ v, genFold iter X.env v = pure v) : PE X (.Call (.Name (Str.ofString (fnG all)) p) [.GeneratorExp elt [⟨tg, iter, ifs, 0⟩] scope gpos] [] pos) (tGn P all wi gT tt te (own.map (·.2))) := by
  refine ⟨fun pins s σ H Q I h =>
      ?_⟩
  have hbt : bootBuiltins (Str.ofString (fnG all)) = some (.builtin (fnG all)) := by cases all <;> decide +kernel
  have hnd : (Str.ofString (fnG all) == ("__debug__" : Str)) = false := by cases all <;> decide
  have hnn : Str.ofString (fnG all) ≠ "__name__" := by cases all <;> decide
  refine wpAny_Call_Name_kw (ld_blt I hgl hmg hbt ?_ hnn hnd)
  refine PyProof.Rows.callWith_builtin1 ?_ (star_of rfl _) rfl
  rw [star_of rfl]
  show wpAny _ _ (spliced ((false, eval (.GeneratorExp elt [⟨tg, iter, ifs, 0⟩] scope gpos) X.env) :: backTo pos (starEach [] X.env))) _ _ s
  have free_c : ∀ y ∈ scope.names, y.2 = .free → ∃ c, X.env.cells.lookup y.1 = some c := fun y hy e => (ok.free y hy e).elim (fun k => I.ok.has _ (.inl k)) fun k => I.ok.has _ (.inr k)
  have hdp : X.A.depth < recursionLimit := by have := hr.dp; omega
  refine Calls.spliced_cons (wpAny_GeneratorExp_make hco (closure_ok free_c) hcell h0 ok.kind hdp (thn (hi.run pins s σ H _ I h) fun xv s1 h1 => thn h1 fun itv s2 h2 => ?_) hs)
  obtain ⟨it, fp, tn, J, H2, e, I2, T, st2, f2, ⟨ps, hP, ht⟩, q⟩ := h2
  subst e
  refine ⟨I2.nolimit, ?_⟩
  have hPs : s2.heap.get? P = some { cls := .none, data := .fields ps } := I2.hok P _ hP
  have cd : PySem.W.CodeHd s2.heap c P := TB.code.keeps fun b u e => I2.bk b u e
  have sz : ∀ b ∈ fp, b < s2.heap.objs.size :=
      fun b hb => by
    obtain ⟨o, e, _⟩ :=
        T.obj _ _ st2 b hb
    exact Heap.lt_size e
  -- behind the code object
  have cont : ∀ (code : Value) (h3 : Heap) (tk : Nat) (more : Array Value), Heap.ExtBut P s2.heap h3 → s2.heap.objs.size ≤ h3.objs.size → h3.get? P = some { cls := .none, data := .fields (ps ++ more) } → TriplesOk (ps ++ more).toList →
      wpAny (model X.prog X.w) X.A (builtinsFor X.env.globals X.env.builtins) (fun bi s₄
          =>
        ∀ h', h'.Ns s₄.heap.objs.size (fun y => if y = ".0" then some (.ref it) else none) → Heap.SameBut s₄.heap.objs.size (s₄.heap.push { cls := .type "frame", data := .dict #[] }) h' →
          wpAny (model X.prog X.w) X.A (spliced (backTo pos (starEach [] X.env))) (fun us s' => wpAny (model X.prog X.w) X.A (call (.builtin (fnG all)) (.ref h'.objs.size :: us)) (EP X pins σ Q) X.xe s') X.xe { s₄ with
            gens := s₄.gens.push (.fresh (.compStart (.GeneratorExp elt [⟨tg, iter, ifs, 0⟩] scope gpos) 0 (.ref it) .none (genEnv scope (cloFrom X.env.cells scope.names []) s₄.heap.objs.size code bi X.env))),
            toks := s₄.toks + 1 + 1 + 1,
            heap := h'.push { cls := .type "generator", data := .fields #[.int s₄.gens.size 0, .str "<genexpr>" (s₄.toks + 1), .str (X.env.qual ++ "<genexpr>") (s₄.toks + 1 + 1)] } }) X.xe { s2 with heap := h3, toks := tk } := by
    intro code h3 tk more hx hsz hP3 ht3
    obtain ⟨bm, ob, e1, e2, e3, e4, e5, e6, e7, e8⟩ :=
        TB.bm
    refine wpAny_builtinsFor (m := X.mg) (by rw [I2.ok.glob]; exact (I2.mod.glob.keeps I2.bk).extBut hx TB.gP) e1 e2 (hx _ _ e4 (I2.bk _ _ e5)) e6 e7 e8 ?_
    intro h' hn' hs'
    refine Calls.spliced_nil ?_
    have nP : ∀ b ∈ fp, b ≠ P := fun b hb z => by
      have := (f2 b hb).1
      rw [z, hP] at this; cases this
    have I4 : Inv X pins σ (upd H2 P (.tbl (ps ++ more))) { s2 with heap := h3, toks := tk } := inv_tab (g' := s2.gens) (d' := s2.drawn) I2 hP (fun b u hb e => hx b u hb e) hP3 I2.bare
    generalize hH4 : upd H2 P (.tbl (ps ++ more)) = H4 at I4
    have hn4 : ∀ b ∈ fp, H4 b = none := fun b hb => by rw [← hH4, upd_ne (nP b hb)]; exact (f2 b hb).1
    have f4 : ∀ b ∈ fp, FpOk X pins H4 b ∧ b < h3.objs.size := fun b hb => ⟨⟨hn4 b hb, (f2 b hb).2⟩, Nat.lt_of_lt_of_le (sz b hb) hsz⟩
    have st4 : tn 0 h3 := T.keep _ _ _ st2 fun b hb o e => hx b o (nP b hb) e
    have hsize : h'.objs.size = h3.objs.size + 1 := by rw [hs'.1]; exact Heap.size_push ..
    have keep' : ∀ b o, h3.get? b = some o → h'.get? b = some o := fun b o e => hs'.extBut b o (Nat.ne_of_lt (Heap.lt_size e)) (Heap.get?_push_of_some _ e)
    obtain ⟨W, ⟨m0, w0⟩, turn⟩ := q H4 ⟨⟨_, by rw [← hH4]; exact upd_same, ht3⟩, fun b hb => by rw [← hH4]; exact upd_ne hb⟩
    dsimp only
    generalize hog : ({ cls := .type "generator", data := .fields #[.int s2.gens.size 0, .str "<genexpr>" (tk + 1), .str (X.env.qual ++ "<genexpr>") (tk + 1 + 1)] } : Obj) = og
    generalize hce : genEnv scope (cloFrom X.env.cells scope.names []) h3.objs.size code builtinsNs X.env = cenv
    have isg : ∀ h : Heap, h.get? h'.objs.size = some og → h.IsGen h'.objs.size s2.gens.size := fun h e => by rw [← hog] at e; exact ⟨_, _, _, e, rfl, rfl, rfl⟩
    have hac : ∀ v, og.data ≠ .cell v := fun v z => by rw [← hog] at z; cases z
    generalize hs5 : ({ s2 with gens := s2.gens.push (.fresh (.compStart (.GeneratorExp elt [⟨tg, iter, ifs, 0⟩] scope gpos) 0 (.ref it) .none cenv)), toks := tk + 1 + 1 + 1, heap := h'.push og } : Shared) = s5
    have h5 : s5.heap = h'.push og := by rw [← hs5]
    have g5 : s5.gens = s2.gens.push (.fresh (.compStart (.GeneratorExp elt [⟨tg, iter, ifs, 0⟩] scope gpos) 0 (.ref it) .none cenv)) := by rw [← hs5]
    have kp : ∀ b o, h3.get? b = some o → s5.heap.get? b = some o := fun b o e => by rw [h5]; exact Heap.get?_push_of_some _ (keep' b o e)
    have b5 : AllBare s5.gens := by rw [g5]; exact I2.bare.push rfl
    have hlt : s2.gens.size < s5.gens.size := by rw [g5, Array.size_push]; exact Nat.lt_succ_self _
    have IG : Inv (gnX X (gnA X (.compLoop (.GeneratorExp elt [⟨tg, iter, ifs, 0⟩] scope gpos) 0 (.ref it) .none cenv)) { s2 with heap := h3, toks := tk } H4 cenv fp) [(h'.objs.size, og)] (L2.wipe σ (own.map (·.2))) H4 s5 := by
      have fr := gnA_frames (gx := .GeneratorExp elt [⟨tg, iter, ifs, 0⟩] scope gpos) (it := .ref it) (env := cenv) I4.ok.frames ⟨_, _, _, _, rfl⟩
      rw [← hce] at fr
      have := gn_start (A' := gnA X (.compLoop (.GeneratorExp elt [⟨tg, iter, ifs, 0⟩] scope gpos) 0 (.ref it) .none cenv)) (code := code) (s5 := s5) (a := h'.objs.size) (og := og) I4 ok hN hcell f4 (fun _ => hr.hd) (by rw [← hce]; exact fr) kp (by rw [← hs5]) b5 (by rw [h5]; exact hn'.push _) (by rw [h5]; exact Heap.get?_push_size _ (by rw [← hog]; rfl)) hac (by show h3.objs.size < _; omega)
      rw [← hce]
      rw [← hce] at this
      exact this
    have hsc : cenv.scope = scope := by rw [← hce]; rfl
    have hr' := gnA_room (it := .ref it) (env := cenv) (gx := .GeneratorExp elt [⟨tg, iter, ifs, 0⟩] scope gpos) hr ⟨_, _, _, _, rfl⟩
    have haf : h'.objs.size ∉ fp := fun hm => absurd (f4 _ hm).2 (by rw [hsize]; exact Nat.not_lt.mpr (Nat.le_succ _))
    refine callG all (Pq := PqG (gnX X (gnA X (.compLoop (.GeneratorExp elt [⟨tg, iter, ifs, 0⟩] scope gpos) 0 (.ref it) .none cenv)) { s2 with heap := h3, toks := tk } H4 cenv fp) h'.objs.size og (fun c H => Q (.bl c) H)) (n := m0 + 1)
      (gs := .fresh (.compStart (.GeneratorExp elt [⟨tg, iter, ifs, 0⟩] scope gpos) 0 (.ref it) .none cenv)) hr.hd hdp (fun c s' ⟨σ', H', I', q'⟩ => ?_) pqG_grow (live_of IG isg hlt) (by rw [g5]; exact Array.getElem?_push_size ..) ?_
    · exact ⟨.bl c, H', I4.call' (ch := fp) I'.os I'.base I'.hok I'.bare (fun b hb => ⟨(f4 b hb).1.2.2.2.1, (f4 b hb).1.2.1, (f4 b hb).1.2.2.2.2.1, (f4 b hb).1.2.2.2.2.2⟩), rfl, q'⟩
    · refine ⟨rfl, ?_⟩
      have J5 := Inv.woken (s' := s5.setGen s2.gens.size .running) IG rfl rfl (setGen_bare b5 rfl)
      have loop := segG (XG := gnX X (gnA X (.compLoop (.GeneratorExp elt [⟨tg, iter, ifs, 0⟩] scope gpos) 0 (.ref it) .none cenv)) { s2 with heap := h3, toks := tk } H4 cenv fp) (iter := iter) (ifs := ifs) (pos := gpos) (scope := scope) (Ag := X.A.in1.in1) hc rfl T (hpg _ _ H4 cenv fp hr' hsc) (hpt _ _ H4 cenv fp hr' hsc) (hpe _ _ H4 cenv fp hr' hsc) (by show cenv.scope.isCoroutine = false; rw [hsc]; exact hco) turn
        (wipe_wipe fun _ z => z) rfl rfl rfl haf isg (m0 + 1) m0 0 (m0 + 1) H4 (s5.setGen s2.gens.size .running) (s5.setGen s2.gens.size .running) (Nat.lt_succ_self _) (Nat.lt_succ_self _) J5 (T.keep _ _ _ st4 fun b _ o e => kp b o e) hn4 w0 (by rw [size_setGen]; exact hlt)
      have hh' : (X.A.in1.in1.over (.compStart (.GeneratorExp elt [⟨tg, iter, ifs, 0⟩] scope gpos) 0 (.ref it) .none cenv) []).handled = none := hr.hd
      show Seg _ X.A.in1.in1 _ _ _ _ _ ((compStart (.GeneratorExp elt [⟨tg, iter, ifs, 0⟩] scope gpos) 0 (.ref it) .none cenv).onRaise (leaving cenv)) [] _
      unfold compStart
      rw [Sem.onRaise_eq_wrap]
      show Seg _ X.A.in1.in1 _ _ _ _ _ ((ask >>= _).wrap _ _ _ _) [] _
      refine seg_bind_wrap (wpAny_askSetting
          ?_)
      split
      · exact seg_again rfl loop
      · refine seg_bind_wrap (wpAny_rule ?_)
        show Seg _ X.A.in1.in1 _ _ _ _ _ ((standAt iter.pos >>= _).wrap _ _ _ _) [] _
        exact seg_bind_wrap (wpAny_standAt (seg_bind_wrap (T.self _ 0 _ _ _ (T.keep _ _ _ st4 fun b _ o e => kp b o e) (seg_again rfl loop))))
  cases hf : codeAmong gpos ps.toList
      with
  | none =>
    refine wpAny_genexprCodeX hcode (cd.code hPs ht) (cd.tab hPs) hf fun c' h' tk hx hge hlt hco' _ htab' _ => ?_
    obtain ⟨o1, vs, f1, tf, fl, tg', inF, tx, tt', op, _, _, _, _, _, _, _, _, _, htr, _⟩ := hco'
    exact cont _ h' tk _ hx (Nat.le_of_lt (Nat.lt_of_le_of_lt hge hlt)) htab'.2 htr
  | some cv =>
    refine wpAny_genexprCode_hit hcode (cd.code hPs ht) hf ?_
    exact cont cv s2.heap s2.toks #[] (Heap.ExtBut.refl _ _) (Nat.le_refl _) (by simpa using hPs) (by simpa using ht)
end
end ES
end

set_option Elab.async false
set_option linter.all false
set_option autoImplicit false
set_option maxRecDepth 100000
set_option maxHeartbeats 4000007
/-! EG5: any, all: by data. -/
noncomputable section
namespace ES
open PySem PySem.Spec PyProof.Rows L2 EV GxR

theorem genL_eq {all : Bool} {bnd : PyData → Option (List SV)} {cond elt : List SV → R} {x : PyData} {xs : List PyData} : genL all bnd cond elt (x :: xs) = (match bnd x with
    | none => .fail
    | some env => match cond env with
      | .ok (.bool true) => (match elt env with
        | .ok (.bool true) => (match all with | true => genL all bnd cond elt xs | false => rb true)
        | .ok (.bool false) => (match all with | true => rb false | false => genL all bnd cond elt xs)
        | _ => .fail)
      | .ok (.bool false) => genL all bnd cond elt xs
      | _ => .fail) := rfl
theorem genL_cons {all : Bool} {bnd : PyData → Option (List SV)} {cond elt : List SV → R} {x : PyData} {xs : List PyData} {P : PyData → Prop} {Y : Nat → Prop} (hn : ∀ c, ¬ Y c) (h : OkR (genL all bnd cond elt (x :: xs)) P Y) : ∃ env, bnd x = some env ∧
    ((cond env = .ok (.bool true) ∧ ∃ b, elt env = .ok (.bool b) ∧ (if b = all then OkR (genL all bnd cond elt xs) P Y else P (.bool b))) ∨ (cond env = .ok (.bool false) ∧ OkR (genL all bnd cond elt xs) P Y)) := by
  rw [genL_eq] at h
  cases e : bnd x with
  | none => rw [e] at h; exact h.elim
  | some env =>
    rw [e] at h
    refine ⟨env, rfl, ?_⟩
    simp only at h
    split at h
    · rename_i e1
      refine .inl ⟨e1, ?_⟩
      split at h
      · rename_i e2
        refine ⟨true, e2, ?_⟩
        cases all with
        | true => exact h
        | false => exact h
      · rename_i e2
        refine ⟨false, e2, ?_⟩
        cases all with
        | true => exact h
        | false => exact h
      · exact h.elim
    · rename_i e1
      exact .inr ⟨e1, h⟩
    · exact h.elim
theorem genL_nox {all : Bool} {bnd : PyData → Option (List SV)} {cond elt : List SV → R} : ∀ (xs : List PyData), NoX (genL all bnd cond elt xs)
  | [], c, e => by cases e
  | x :: xs, c, e => by
    have ih := genL_nox (all := all) (bnd := bnd) (cond := cond) (elt := elt) xs
    rw [genL_eq] at e
    split at e
    · cases e
    · split at e
      · split at e
        · split at e
          · exact ih c e
          · cases e
        · split at e
          · cases e
          · exact ih c e
        · cases e
      · exact ih c e
      · cases e
section
variable {Z : Wd} {X : Cx} {tg iter elt : Expr} {ifs : List Expr} {p : Pt} {x c y : EV.X} {pos q2 gpos : Pos} {own : List (Str × Nat)} {scope : Scope} {all : Bool} {P : Addr}
theorem gn_imp {own : List Nat} (hP : P ∈ Z.T) (hi : inP p own = true) {W : WX} {σ : L2.St} {H : Hp} {Q : VK} (h : tE Z X.K (.gen all p x c y own) W σ H Q) :
    tGn P all (tI Z X.K x W) (tG Z X.K p) (tT Z X.K c fun _ _ _ _ => False) (tE Z X.K y fun _ _ _ _ => False) own σ H Q := by
  obtain ⟨B, H0, A, env, rl, h⟩ := h
  refine ⟨B, H0, A, env, rl, OkR.imp (OkR.bind h) (fun d h2 => ?_) fun c z => z⟩
  have h2 : OkR (match itemsF d with | some xs => (match fitN (lenF xs) && noOwn env own with | true => genL all (fun d => bindP p d (wipeS env own)) (ev Z.C c) (ev Z.C y) xs | false => .fail) | none => .fail) _ _ := h2
  cases ei : itemsF d with
  | none => rw [ei] at h2; exact h2.elim
  | some ds =>
    rw [ei] at h2
    cases ef : fitN (lenF ds) && noOwn env own with
    | false => simp only [ef] at h2; exact h2.elim
    | true =>
      simp only [ef] at h2
      have h2 : OkR (genL all (fun d => bindP p d (wipeS env own)) (ev Z.C c) (ev Z.C y) ds) (fun d => ∀ v H', Post X.K Z.T (Bt B A env) (.gen all p x c y own) H H' v d → Q v H') fun _ => False := OkR.nox (genL_nox ds) h2
      refine ⟨ds, rfl, fun J H1 g sj => ⟨rl.tabs.gr g P hP, fun H2 tb => ?_⟩⟩
      have t1 := rl.tabs.gr g
      have gt : Gr Z.T H1 H2 := Gr.tab hP tb
      refine ⟨fun i m H' => m = ds.length - i ∧ i ≤ ds.length ∧ Rl X.K Z.T B H0 A env σ H' ∧ Gr Z.T H H' ∧ SrcJ X.K (Rw X.K (Bt B A env) H') J ds ∧
        OkR (genL all (fun d => bindP p d (wipeS env own)) (ev Z.C c) (ev Z.C y) (ds.drop i)) (fun d => ∀ v H', Post X.K Z.T (Bt B A env) (.gen all p x c y own) H H' v d → Q v H') fun _ => False,
        ⟨_, rfl, Nat.zero_le _, (rl.grow g).grow gt, g.trans gt, sj.imp fun v d r => r.rw.grow gt t1, h2⟩, ?_⟩
      rintro i m H' ⟨em, hi', rl', g', src, hr⟩
      by_cases hd : i < ds.length
      · have eg : ds[i]? = some ds[i] := List.getElem?_eq_getElem hd
        obtain ⟨go, item⟩ := src.item eg
        have edr : ds.drop i = ds[i] :: ds.drop (i + 1) := List.drop_eq_getElem_cons hd
        rw [edr] at hr
        obtain ⟨env1, eb, turn⟩ := genL_cons (fun _ z => z) hr
        have t' := rl'.tabs
        refine .inr ⟨go, fun H5 => ∃ m', m' < m ∧ m' = ds.length - (i + 1) ∧ i + 1 ≤ ds.length ∧ Rl X.K Z.T B H0 A env σ H5 ∧ Gr Z.T H H5 ∧ SrcJ X.K (Rw X.K (Bt B A env) H5) J ds ∧
          OkR (genL all (fun d => bindP p d (wipeS env own)) (ev Z.C c) (ev Z.C y) (ds.drop (i + 1))) (fun d => ∀ v H', Post X.K Z.T (Bt B A env) (.gen all p x c y own) H H' v d → Q v H') fun _ => False, fun H5 ⟨m', hm, w⟩ => ⟨m', hm, w⟩, fun v H'' yv => ?_⟩
        obtain ⟨e1, rv⟩ := item v H'' yv
        subst e1
        have on : ∀ {H5 : Hp}, Gr Z.T H'' H5 → OkR (genL all (fun d => bindP p d (wipeS env own)) (ev Z.C c) (ev Z.C y) (ds.drop (i + 1))) (fun d => ∀ v H', Post X.K Z.T (Bt B A env) (.gen all p x c y own) H H' v d → Q v H') (fun _ => False) → ∃ m', m' < m ∧ m' = ds.length - (i + 1) ∧ i + 1 ≤ ds.length ∧ Rl X.K Z.T B H0 A env σ H5 ∧ Gr Z.T H H5 ∧ SrcJ X.K (Rw X.K (Bt B A env) H5) J ds ∧
          OkR (genL all (fun d => bindP p d (wipeS env own)) (ev Z.C c) (ev Z.C y) (ds.drop (i + 1))) (fun d => ∀ v H', Post X.K Z.T (Bt B A env) (.gen all p x c y own) H H' v d → Q v H') fun _ => False := fun g5 h5 =>
            ⟨ds.length - (i + 1), by omega, rfl, by omega, rl'.grow g5, g'.trans g5, src.imp fun v d r => r.grow g5 t', h5⟩
        refine ⟨ds[i], B, H0, A, _, env1, rl'.wipe own, rv.less (Bt.wipe own), eb, fun σ' ⟨rl2, b2, w2⟩ => ⟨?_, ?_⟩⟩
        · rw [w2 own hi, wipe_wipe fun _ z => z]
        · rcases turn with ⟨c1, b, ey, k⟩ | ⟨c0, k⟩
          · refine ⟨B, H0, A, env1, rl2, ?_⟩
            rw [c1]
            refine ⟨true, rfl, fun H3 g3 => ?_⟩
            dsimp only
            rw [if_pos rfl]
            refine ⟨B, H0, A, env1, rl2.grow g3, ?_⟩
            rw [ey]
            intro u H4 p4
            have g4 := g3.trans p4.gr
            refine ⟨b, p4.rs.rw.bl, ?_⟩
            by_cases z : b = all
            · rw [if_pos z] at k ⊢
              exact on g4 k
            · rw [if_neg z] at k ⊢
              exact k _ _ (.gr_ (g'.trans g4) rfl rfl (.bl _))
          · refine ⟨B, H0, A, env1, rl2, ?_⟩
            rw [c0]
            refine ⟨false, rfl, fun H3 g3 => ?_⟩
            dsimp only
            rw [if_neg (by decide)]
            exact on g3 k
      · have ed : ds.drop i = [] := List.drop_eq_nil_of_le (by omega)
        rw [ed] at hr
        exact .inl ⟨src.done (by omega), hr _ _ (.gr_ g' rfl rfl (.bl _))⟩
theorem se_gn {k : Nat} {cc : Addr} {p1 : Pos} (hr : Room (k + 1) X.A) (hc : X.calm = true) (hN : X.N.Nodup) (hgl : Gl X (Str.ofString (fnG all))) (hmg : X.mg (Str.ofString (fnG all)) = none) (TB : TabB X.base X.mg cc P) (hcode : X.env.code = .ref cc) (hP : P ∈ Z.T)
    (hco : scope.isCoroutine = false) (hcell : ∀ y ∈ scope.names, y.2 ≠ .cell) (h0 : scope.names.lookup (".0" : Str) = some NameKind.local) (hit : SI Z X tg iter x) (ok : BlkOk X.N X.env.scope scope own)
    (hpg : ∀ (A' : Around) (s : Shared) (H : Hp) (cenv : Env) (fp : List Addr), Room k A' → cenv.scope = scope → SG Z (gnX X A' s H cenv fp) tg p)
    (hpt : ∀ (A' : Around) (s : Shared) (H : Hp) (cenv : Env) (fp : List Addr), Room k A' → cenv.scope = scope → SC Z (gnX X A' s H cenv fp) ifs c)
    (hpe : ∀ (A' : Around) (s : Shared) (H : Hp) (cenv : Env) (fp : List Addr), Room k A' → cenv.scope = scope → SE Z (gnX X A' s H cenv fp) elt y)
    (hs : ∀ v, genFold iter X.env v = pure v) (hi : inP p (own.map (·.2)) = true) : SE Z X (.Call (.Name (Str.ofString (fnG all)) p1) [.GeneratorExp elt [⟨tg, iter, ifs, 0⟩] scope gpos] [] pos) (.gen all p x c y (own.map (·.2))) := fun W tk =>
  PE.of (pe_gn (gT := tG Z X.K p) (tt := tT Z X.K c fun _ _ _ _ => False) (te := tE Z X.K y fun _ _ _ _ => False) hr hc hN hgl hmg TB hcode hco hcell h0 (hit W tk) ok (fun A' s H cenv fp r e => hpg A' s H cenv fp r e) (fun A' s H cenv fp r e => hpt A' s H cenv fp r e) (fun A' s H cenv fp r e => hpe A' s H cenv fp r e _ takes0) hs) fun σ H Q h => gn_imp hP hi h
end
end ES
end

set_option Elab.async false
set_option linter.all false
set_option autoImplicit false
set_option maxRecDepth 100000
set_option maxHeartbeats 4000007
/-! ES12: whether an expression of the program is one of EV's: a check by Bool, its soundness. -/
noncomputable section
namespace ES
open PySem PySem.Spec PyProof.Rows L2 EV GxR

/-- the names of a def or block -/
structure Sc where
  N : List Str
  scope : Scope
  fn : Str → Bool
  gen : Bool
/-- the module: defs with their arities, constants, exceptions' classes -/
structure Gs where
  fns : List (Str × Nat)
  cons : List (Str × PyData)
  excs : List Str
  tabs : List (Str × List (Str × Int))
structure Chk where
  e : Sc → Expr → EV.X → Bool
  t : Sc → Expr → EV.X → Bool
  w : Sc → Expr → EV.X → Bool
  i : Sc → Expr → EV.X → Bool
  g : Sc → Expr → Pt → Bool

def dbg (n : Str) : Bool := !(n == ("__debug__" : Str)) && !(n == ("__classdict__" : Str))
def visOk (sc : Sc) (n : Str) : Bool := match sc.scope.names.lookup n with | some .local => true | some .cell => true | some .free => true | _ => false
def locOk (sc : Sc) (n : Str) : Bool := match sc.scope.names.lookup n with | some .local => true | some .cell => sc.fn n | _ => false
def glOk (sc : Sc) (n : Str) : Bool := match sc.scope.names.lookup n with | some .globalImplicit => true | _ => false
def ckN (sc : Sc) (i : Nat) (n : Str) : Bool := decide (sc.N[i]? = some n) && (visOk sc n && dbg n)
def ckC (G : Gs) (n : Str) (d : PyData) : Bool := match G.cons.lookup n with | some (.int i) => (match d with | .int j => decide (i = j) | _ => false) | some (.str a) => (match d with | .str b => decide (a = b) | _ => false) | _ => false
def ckK (k : Const) (d : PyData) : Bool := match k, d with
  | .none, .none => true
  | .bool a, .bool b => decide (a = b)
  | .int i, .int j => decide (i = j)
  | .str a, .str b => decide (a = b)
  | _, _ => false
def ckOp (op : Operator) (o : Op) : Bool := match op, o with | .Add, .add => true | .Sub, .sub => true | .Mult, .mul => true | .FloorDiv, .fdiv => true | .Mod, .mod => true | .Pow, .pow => true | _, _ => false
def ckCm (op : CmpOp) (o : Cm) : Bool := match op, o with | .Eq, .eq => true | .NotEq, .ne => true | .Lt, .lt => true | .LtE, .le => true | .Gt, .gt => true | .GtE, .ge => true | .Is, .is => true | .IsNot, .isnt => true | .In, .isin => true | .NotIn, .notin => true | _, _ => false
def is0 (x : EV.X) : Bool := match x with | .c (.int i) => decide (i = 0) | _ => false
def ckA (ce : Expr → EV.X → Bool) : List Expr → EV.X → Bool
  | [], .nil => true
  | e :: es, .cons x y => nst e && (ce e x && ckA ce es y)
  | _, _ => false
def ckGs (g : Expr → Pt → Bool) : List Expr → Pt → Bool
  | [], .nil => true
  | e :: es, .cons p q => nst e && (g e p && ckGs g es q)
  | _, _ => false
def ckO (ce : Expr → EV.X → Bool) (o : Option Expr) (x : EV.X) : Bool := match o with
  | none => (match x with | .c .none => true | _ => false)
  | some e => (match x with | .bin .add y z => is0 z && ce e y | _ => false)
def plainI (b : Expr) : Bool := match b with | .Slice .. => false | _ => true
def fsOk (e : Expr) : Bool := match e with | .Set .. => false | .List .. => false | _ => true
def blkS (sc : Sc) (scope : Scope) : Sc := ⟨sc.N, relS scope sc.scope, fun x => scope.names.lookup x == some .cell, sc.gen⟩
def gnS (sc : Sc) (scope : Scope) : Sc := ⟨sc.N, scope, fun _ => false, false⟩
def ownP (sc : Sc) (own : List Nat) : List (Str × Nat) := own.map fun i => (sc.N.getD i "", i)
def ckIfs (ct : Expr → EV.X → Bool) (ifs : List Expr) (x : EV.X) : Bool := match ifs with
  | [] => (match x with | .c (.bool true) => true | _ => false)
  | [e] => ct e x
  | _ => false
def ckL (c : Chk) (sc : Sc) (elt : Expr) (gs : List Comprehension) (scope : Scope) (p : Pt) (it cond y : EV.X) (own : List Nat) : Bool := match gs with
  | [⟨tg, iter, ifs, a⟩] => decide (a = 0) && (blkC sc.N sc.scope scope (ownP sc own) && (inP p own && (str y && (fsOk iter && (c.i sc iter it && (c.g (blkS sc scope) tg p && (ckIfs (c.t (blkS sc scope)) ifs cond && c.e (blkS sc scope) elt y)))))))
  | _ => false
def ckL2 (c : Chk) (sc : Sc) (elt : Expr) (gs : List Comprehension) (scope : Scope) (p : Pt) (it : EV.X) (q : Pt) (it2 cond y : EV.X) (own : List Nat) : Bool := match gs with
  | [⟨tg, iter, [], a⟩, ⟨tg1, iter1, ifs, a1⟩] => decide (a = 0) && (decide (a1 = 0) && (blkC sc.N sc.scope scope (ownP sc own) && (inP p own && ((slP q).all (fun i => own.contains i) && (strI it2 && (str y && (fsOk iter && (fsOk iter1 && (c.i sc iter it && (c.g (blkS sc scope) tg p && (c.i (blkS sc scope) iter1 it2 && (c.g (blkS sc scope) tg1 q && (ckIfs (c.t (blkS sc scope)) ifs cond && c.e (blkS sc scope) elt y)))))))))))))
  | _ => false
def nocell (scope : Scope) : Bool := scope.names.all fun y => match y.2 with | .cell => false | _ => true
def dot0 (scope : Scope) : Bool := decide (scope.names.lookup (".0" : Str) = some NameKind.local)
def ckGn (c : Chk) (sc : Sc) (elt : Expr) (gs : List Comprehension) (scope : Scope) (p : Pt) (it cond y : EV.X) (own : List Nat) : Bool := match gs with
  | [⟨tg, iter, ifs, a⟩] => decide (a = 0) && (blkC sc.N sc.scope scope (ownP sc own) && (inP p own && (fsOk iter && (c.i sc iter it && (c.g (gnS sc scope) tg p && (ckIfs (c.t (gnS sc scope)) ifs cond && (c.e (gnS sc scope) elt y && (!scope.isCoroutine && (nocell scope && dot0 scope)))))))))
  | _ => false
def bName (f : Bf) : Str := match f with | .len => "len" | .tuple => "tuple" | .list => "list" | .sum => "sum" | .int => "int" | .abs => "abs" | .min => "min" | .max => "max" | .sorted => "sorted" | .str => "str" | _ => ""
def bOk (f : Bf) : Bool := match f with | .len => true | .tuple => true | .list => true | .sum => true | .int => true | .abs => true | .min => true | .max => true | .sorted => true | .str => true | _ => false
def ckIsi (c : Chk) (sc : Sc) (n : Str) (es : List Expr) (T : Str) (a : EV.X) : Bool := match es, a with
  | [e, .Name m _], .cons y .nil => decide (n = "isinstance") && (decide (m = T) && (glOk sc n && (glOk sc m && (nst e && (str y && c.e sc e y)))))
  | _, _ => false
def stB (c : Chk) (sc : Sc) (n : Str) (es : List Expr) (kws : List Keyword) (f : Bf) (a : EV.X) : Bool := match f with
  | .isInt => kws.isEmpty && ckIsi c sc n es "int" a
  | .isTup => kws.isEmpty && ckIsi c sc n es "tuple" a
  | .isStr => kws.isEmpty && ckIsi c sc n es "str" a
  | .sortedRev => (match es, kws, a with
    | [e], [⟨some k, .Constant (.bool true) _ _, _⟩], .cons y .nil => decide (n = "sorted") && (decide (k = "reverse") && (glOk sc n && (nst e && c.e sc e y)))
    | _, _, _ => false)
  | .listRng => (match es, kws, a with
    | [.Call (.Name r _) [u] [] _], [], .cons (.rng p q) .nil => decide (n = "list") && (decide (r = "range") && (glOk sc n && (glOk sc r && (is0 p && (nst u && c.e sc u q)))))
    | [.Call (.Name r _) [u, w] [] _], [], .cons (.rng p q) .nil => decide (n = "list") && (decide (r = "range") && (glOk sc n && (glOk sc r && (nst u && (nst w && (c.e sc u p && c.e sc w q))))))
    | _, _, _ => false)
  | .listRev => (match es, kws, a with
    | [.Call (.Name r _) [u] [] _], [], .cons p .nil => decide (n = "list") && (decide (r = "reversed") && (glOk sc n && (glOk sc r && (nst u && c.e sc u p))))
    | _, _, _ => false)
  | .tupRev => (match es, kws, a with
    | [.Call (.Name r _) [u] [] _], [], .cons p .nil => decide (n = "tuple") && (decide (r = "reversed") && (glOk sc n && (glOk sc r && (nst u && c.e sc u p))))
    | _, _, _ => false)
  | f => bOk f && (kws.isEmpty && (decide (n = bName f) && (glOk sc n && (!es.isEmpty && ckA (c.e sc) es a))))
def stC (G : Gs) (c : Chk) (sc : Sc) (n : Str) (es : List Expr) (kws : List Keyword) (x : EV.X) : Bool := match x with
  | .call f a => (match G.fns[f]? with
    | some q => decide (n = q.1) && (glOk sc n && (dbg n && (ckA (c.e sc) es a && (strA a && (decide (es.length = q.2) && (!es.isEmpty && kws.isEmpty))))))
    | none => false)
  | .blt f a => stB c sc n es kws f a
  | .gen all p it cond y own => (match es with
    | [.GeneratorExp elt gs scope _] => decide (n = Str.ofString (fnG all)) && (glOk sc n && (sc.gen && (kws.isEmpty && ckGn c sc elt gs scope p it cond y own)))
    | _ => false)
  | _ => false
def attrOk (o : Expr) : Bool := match o with | .Call _ [] _ _ => false | _ => true
/-- methods: split, index -/
def stM (c : Chk) (sc : Sc) (o : Expr) (m : Str) (ap : Pos) (es : List Expr) (kws : List Keyword) (pos : Pos) (x : EV.X) : Bool := match es, kws with
  | [b], [] => (match x with
    | .spl p q => decide (m = "split") && (nst b && (attrOk o && ((ap.endLine == pos.line) && (c.e sc o p && c.e sc b q))))
    | .lix p q => decide (m = "index") && (nst b && (attrOk o && ((ap.endLine == pos.line) && (c.e sc o p && c.e sc b q))))
    | _ => false)
  | _, _ => false
def ckTab (G : Gs) (sc : Sc) (g : Str) (kvs : List (Str × Int)) : Bool := decide (G.tabs.lookup g = some kvs) && (glOk sc g && dbg g)
def ckKin (G : Gs) (c : Chk) (sc : Sc) (l : Expr) (op : CmpOp) (r : Expr) (neg : Bool) (kvs : List (Str × Int)) (p : EV.X) : Bool := (match neg, op with | true, .NotIn => true | false, .In => true | _, _ => false) && (!behindInMarks op r && ((match r with | .Name g _ => ckTab G sc g kvs | _ => false) && c.e sc l p))
def stE (G : Gs) (c : Chk) (sc : Sc) (e : Expr) (x : EV.X) : Bool := match e with
  | .BoolOp op es pos => (match es with
    | [a] => c.e sc a x
    | a :: b :: rest => (match op, x with
      | .And, .and p q => c.e sc a p && (str q && c.e sc (.BoolOp .And (b :: rest) pos) q)
      | .Or, .or p q => c.e sc a p && (str q && c.e sc (.BoolOp .Or (b :: rest) pos) q)
      | _, _ => false)
    | [] => false)
  | .Name n _ => (match x with | .v i => ckN sc i n | .pk i => ckN sc i n | .c d => glOk sc n && (dbg n && ckC G n d) | _ => false)
  | .Constant k _ _ => (match x with | .c d => ckK k d | _ => false)
  | .Tuple es _ _ => EV_isTup x && (ckA (c.e sc) es x && (strA x && len1 es))
  | .List es _ => (match x with | .lst a => ckA (c.e sc) es a && (strA a && len1 es) | _ => false)
  | .BinOp l op r _ => (match x with | .bin o p q => ckOp op o && (c.e sc l p && c.e sc r q) | .rep p q => ckOp op .mul && (frs p && (c.e sc l p && c.e sc r q)) | _ => false)
  | .UnaryOp op a _ => (match op, x with | .USub, .neg p => c.e sc a p | .Not, .no p => c.e sc a p | _, _ => false)
  | .Compare l ops rs _ => (match x, ops, rs with
    | .cmp o p q, [op], [r] => ckCm op o && (!behindInMarks op r && (c.e sc l p && c.e sc r q))
    | .chn o o2 p q s, [op, op2], [r, r2] => ckCm op o && (ckCm op2 o2 && (!lastMarks [op, op2] [r, r2] && (c.e sc l p && (c.e sc r q && c.e sc r2 s))))
    | .kin neg kvs p, [op], [r] => ckKin G c sc l op r neg kvs p
    | _, _, _ => false)
  | .IfExp t a b _ => (match x with | .ite p q r => c.t sc t p && (c.e sc a q && c.e sc b r) | _ => false)
  | .Subscript a s _ => (match x with
    | .ix p q => plainI s && (c.e sc a p && c.e sc s q)
    | .kget kvs q => (match a with | .Name g _ => ckTab G sc g kvs && (plainI s && c.e sc s q) | _ => false)
    | .sl p q r => (match s with | .Slice lo hi none _ => c.e sc a p && (ckO (c.e sc) lo q && ckO (c.e sc) hi r) | _ => false)
    | _ => false)
  | .ListComp elt gs scope _ => (match x with | .comp p it cond y own => ckL c sc elt gs scope p it cond y own | .comp2 p it q it2 cond y own => ckL2 c sc elt gs scope p it q it2 cond y own | _ => false)
  | .Call f es kws pos => (match f with | .Name n _ => stC G c sc n es kws x | .Attribute o m ap => stM c sc o m ap es kws pos x | _ => false)
  | _ => false
where EV_isTup := isTup
def stW (c : Chk) (sc : Sc) (e : Expr) (x : EV.X) : Bool := match e with
  | .BoolOp op es pos => (match es with
    | [a] => c.t sc a x
    | a :: b :: rest => (match op, x with
      | .And, .and p q => c.t sc a p && c.w sc (.BoolOp .And (b :: rest) pos) q
      | .Or, .or p q => c.t sc a p && c.w sc (.BoolOp .Or (b :: rest) pos) q
      | _, _ => false)
    | [] => false)
  | _ => false
def stT (G : Gs) (c : Chk) (sc : Sc) (e : Expr) (x : EV.X) : Bool := match e with
  | .BoolOp .. => c.w sc e x
  | .UnaryOp op a _ => (match op, x with | .Not, .no p => c.t sc a p | _, _ => false)
  | .Compare l ops rs _ => (match x, ops, rs with
    | .cmp o p q, [op], [r] => ckCm op o && (!behindInMarks op r && (c.e sc l p && c.e sc r q))
    | .chn o o2 p q s, [op, op2], [r, r2] => ckCm op o && (ckCm op2 o2 && (!lastMarks [op, op2] [r, r2] && (c.e sc l p && (c.e sc r q && c.e sc r2 s))))
    | .kin neg kvs p, [op], [r] => ckKin G c sc l op r neg kvs p
    | _, _, _ => false)
  | .IfExp q a b _ => (match x with | .ite u v w => c.t sc q u && (c.t sc a v && c.t sc b w) | _ => false)
  | _ => c.e sc e x
def stI (c : Chk) (sc : Sc) (e : Expr) (x : EV.X) : Bool := match x with
  | .rng p q => (match e with
    | .Call (.Name n _) [u] [] _ => decide (n = "range") && (glOk sc n && (is0 p && (nst u && c.e sc u q)))
    | .Call (.Name n _) [u, w] [] _ => decide (n = "range") && (glOk sc n && (nst u && (nst w && (c.e sc u p && c.e sc w q))))
    | _ => false)
  | .rev p => (match e with
    | .Call (.Name n _) [u] [] _ => decide (n = "reversed") && (glOk sc n && (nst u && c.e sc u p))
    | _ => false)
  | x => c.e sc e x
def stG (c : Chk) (sc : Sc) (e : Expr) (p : Pt) : Bool := match e with
  | .Name n _ => (match p with | .nm i => decide (sc.N[i]? = some n) && locOk sc n | _ => false)
  | .Tuple es _ _ => nstL es && ckGs (c.g sc) es p
  | _ => false
def chk0 : Chk := ⟨fun _ _ _ => false, fun _ _ _ => false, fun _ _ _ => false, fun _ _ _ => false, fun _ _ _ => false⟩
def step (G : Gs) (c : Chk) : Chk := ⟨stE G c, stT G c, stW c, stI c, stG c⟩
def chk (G : Gs) : Nat → Chk
  | 0 => chk0
  | n + 1 => step G (chk G n)

/-! ### soundness -/
def bNames : List Str := ["len", "tuple", "list", "sum", "int", "abs", "min", "max", "sorted", "isinstance", "range", "reversed", "any", "all", "str"]
structure Fct (Z : Wd) (G : Gs) (P : Program) (w : World) (K : PySem.W.Frag) (mg : Str → Option Value) (base : Heap) (k : Nat) : Prop where
  fn : ∀ i n np, G.fns[i]? = some (n, np) → ∃ f fd ps, FnOk P w K mg base (L2.CX P w) k f fd ps (spF Z K np i) ∧ mg n = some (.ref f) ∧ PySem.W.keepIn K (.ref f) = true ∧ L2.Binds K fd ps []
  conI : ∀ n i, G.cons.lookup n = some (.int i) → ∃ t, mg n = some (.int i t)
  conS : ∀ n i, G.cons.lookup n = some (.str i) → ∃ t, mg n = some (.str i t)
  blt : ∀ n ∈ bNames, mg n = none
  tab : ∀ g kvs, G.tabs.lookup g = some kvs → KTab mg K w g kvs
structure Fit (Z : Wd) (G : Gs) (k : Nat) (X : Cx) (sc : Sc) : Prop where
  F : Fct Z G X.prog X.w X.K X.mg X.base k
  N : X.N = sc.N
  nd : X.N.Nodup
  scope : X.env.scope = sc.scope
  calm : X.calm = true
  room : Room (k + (if sc.gen = true then 1 else 0)) X.A
  gen : sc.gen = true → ∃ c P, X.env.code = .ref c ∧ TabB X.base X.mg c P ∧ P ∈ Z.T
  fn : ∀ n, sc.fn n = true → X.fn n = true
structure Snd (Z : Wd) (G : Gs) (k : Nat) (c : Chk) : Prop where
  e : ∀ X sc e x, Fit Z G k X sc → c.e sc e x = true → SE Z X e x
  t : ∀ X sc e x, Fit Z G k X sc → c.t sc e x = true → STt Z X e x
  w : ∀ X sc e x, Fit Z G k X sc → c.w sc e x = true → SW Z X e x
  i : ∀ X sc tg e x, Fit Z G k X sc → c.i sc e x = true → SI Z X tg e x
  g : ∀ X sc e p, Fit Z G k X sc → c.g sc e p = true → SG Z X e p
section
variable {Z : Wd} {G : Gs} {k : Nat} {X : Cx} {sc : Sc} {c : Chk} {n : Str} {e : Expr} {es : List Expr} {x y : EV.X} {p : Pt}
theorem Fit.vis (f : Fit Z G k X sc) (h : visOk sc n = true) : Vis X.env.scope n := by
  unfold visOk at h
  rw [f.scope]
  split at h
  · exact .inl (by assumption)
  · exact .inr (.inl (by assumption))
  · exact .inr (.inr (by assumption))
  · cases h
theorem Fit.loc (f : Fit Z G k X sc) (h : locOk sc n = true) : Loc X.env.scope n ∧ (X.fn n = true ∨ X.env.scope.names.lookup n = some .local) := by
  unfold locOk at h
  rw [f.scope]
  split at h
  · rename_i e
    exact ⟨.inl e, .inr e⟩
  · rename_i e
    exact ⟨.inr e, .inl (f.fn n h)⟩
  · cases h
theorem Fit.gl (f : Fit Z G k X sc) (h : glOk sc n = true) : Gl X n := by
  unfold glOk at h
  show X.env.scope.names.lookup n = _
  rw [f.scope]
  split at h
  · assumption
  · cases h
theorem dbg_ok (h : dbg n = true) : (n == ("__debug__" : Str)) = false ∧ (n == ("__classdict__" : Str)) = false := by
  unfold dbg at h
  rw [Bool.and_eq_true,
      Bool.not_eq_true', Bool.not_eq_true'] at h
  exact h
theorem Fit.units (f : Fit Z G k X sc) : X.A.units + 64 < cLine := by have := f.room.un; omega
theorem Fit.units2 (f : Fit Z G k X sc) : X.A.units + 65 < cLine := by have := f.room.un; omega
theorem Fit.roomk (f : Fit Z G k X sc) : Room k X.A := by
  have h := f.room
  refine ⟨h.hd, ?_, ?_⟩
  · have := h.dp; omega
  · have := h.un; omega
theorem Fit.none (f : Fit Z G k X sc) (h : n ∈ bNames) : X.mg n = none := f.F.blt n h
theorem Fit.blk (f : Fit Z G k X sc) {s : Shared} {H : Hp} {C : Addr} {cl : List (Str × Addr)} {fp : List Addr} {scope : Scope} : Fit Z G k (X.blk s H scope (compEnvC scope cl C X.env) fp) (blkS sc scope) where
  F := f.F
  N := f.N
  nd := f.nd
  scope := by
    show relS scope X.env.scope = relS scope sc.scope
    rw [f.scope]
  calm := f.calm
  room := f.room
  gen := f.gen
  fn := fun n h => h
theorem Fit.gnx (f : Fit Z G k X sc) {A' : Around} {s : Shared} {H : Hp} {cenv : Env} {fp : List Addr} {scope : Scope} (r : Room k A') (e : cenv.scope = scope) : Fit Z G k (gnX X A' s H cenv fp) (gnS sc scope) where
  F := f.F
  N := f.N
  nd := f.nd
  scope := e
  calm := f.calm
  room := r
  gen := fun h => by cases h
  fn := fun n h => by cases h
theorem is0_ok (h : is0 x = true) : x = .c (.int 0) := by
  unfold is0 at h
  split at h
  · rw [of_decide_eq_true h]
  · cases h
theorem ckOp_ok {op : Operator} {o : Op} (h : ckOp op o = true) : op = opA o := by
  unfold ckOp at h
  split at h <;> first | rfl | cases h
theorem ckCm_ok {op : CmpOp} {o : Cm} (h : ckCm op o = true) : op = cmA o := by
  unfold ckCm at h
  split at h <;> first | rfl | cases h
theorem ckA_ok (s : Snd Z G k c) (f : Fit Z G k X sc) : ∀ {es : List Expr} {x : EV.X}, ckA (c.e sc) es x = true → SA Z X es x ∧ nstL es = true
  | [], x, h => by
    cases x with
    | nil => exact ⟨sa_nil, rfl⟩
    | _ => cases h
  | e :: es, x, h => by
    cases x with
    | cons a b =>
      have h : (nst e && (c.e sc e a && ckA (c.e sc) es b)) = true := h
      simp only [Bool.and_eq_true, and_true] at h
      obtain ⟨h1, h2⟩ := ckA_ok s f h.2.2
      exact ⟨sa_cons (s.e X sc e a f h.2.1) h1 h.1, by rw [nstL, h.1, h2]; rfl⟩
    | _ => cases h
theorem ckGs_ok (s : Snd Z G k c) (f : Fit Z G k X sc) : ∀ {es : List Expr} {p : Pt}, ckGs (c.g sc) es p = true → SGs Z X es p
  | [], p, h => by
    cases p with
    | nil => exact sgs_nil
    | _ => cases h
  | e :: es, p, h => by
    cases p with
    | cons a b =>
      have h : (nst e && (c.g sc e a && ckGs (c.g sc) es b)) = true := h
      simp only [Bool.and_eq_true, and_true] at h
      exact sgs_cons (s.g X sc e a f h.2.1) (ckGs_ok s f h.2.2) h.1
    | _ => cases h
theorem ckO_ok (s : Snd Z G k c) (f : Fit Z G k X sc) {o : Option Expr} (h : ckO (c.e sc) o x = true) : SO Z X o x := by
  cases o with
  | none =>
    show x = _
    unfold ckO at h
    dsimp only at h
    split at h
    · rfl
    · cases h
  | some e =>
    unfold ckO at h
    dsimp only at h
    split at h
    · rename_i y z
      rw [Bool.and_eq_true] at h
      exact ⟨y, by rw [is0_ok h.1], s.e X sc e y f h.2⟩
    · cases h
theorem ckIfs_ok (s : Snd Z G k c) (f : Fit Z G k X sc) {ifs : List Expr} (h : ckIfs (c.t sc) ifs x = true) : SC Z X ifs x := by
  unfold ckIfs at h
  split at h
  · split at h
    · exact sc_nil
    · cases h
  · exact sc_one (s.t X sc _ x f h)
  · cases h
theorem fs_ok {e : Expr} (h : fsOk e = true) (env : Env) (v : Value) : foldedSetIterable e env v = pure v ∧ genFold e env v = pure v := by
  cases e <;> first | exact ⟨rfl, rfl⟩ | cases h
theorem ownP_snd (own : List Nat) : (ownP sc own).map (·.2) = own := by
  unfold ownP
  rw [List.map_map]
  exact List.map_id _
theorem ckL_ok (s : Snd Z G k c) (f : Fit Z G k X sc) {elt : Expr} {gs : List Comprehension} {scope : Scope} {it cond : EV.X} {own : List Nat} {pos : Pos} (h : ckL c sc elt gs scope p it cond y own = true) : SE Z X (.ListComp elt gs scope pos) (.comp p it cond y own) := by
  unfold ckL at h
  split at h
  · rename_i tg iter ifs a
    simp only [Bool.and_eq_true,
        decide_eq_true_eq] at h
    obtain ⟨h0, h1, h2, h3, h4, h5, h6, h7, h8⟩ := h
    subst h0
    have ok := blkOk_by h1
    rw [← f.N, ← f.scope] at ok
    have := se_comp (Z := Z) (X := X) (pos := pos) (own := ownP sc own) f.calm f.nd (s.i X sc tg iter it f h5) ok (fun s' H C cl fp => s.g _ _ tg p f.blk h6) (fun s' H C cl fp => ckIfs_ok s f.blk h7) (fun s' H C cl fp => s.e _ _ elt y f.blk h8) (fun v => (fs_ok h4 _ v).1) (by rw [ownP_snd]; exact h2) h3
    rw [ownP_snd] at this
    exact this
  · cases h
theorem ckL2_ok (s : Snd Z G k c) (f : Fit Z G k X sc) {elt : Expr} {gs : List Comprehension} {scope : Scope} {q : Pt} {it it2 cond : EV.X} {own : List Nat} {pos : Pos} (h : ckL2 c sc elt gs scope p it q it2 cond y own = true) : SE Z X (.ListComp elt gs scope pos) (.comp2 p it q it2 cond y own) := by
  unfold ckL2 at h
  split at h
  · rename_i tg iter a tg1 iter1 ifs a1
    simp only [Bool.and_eq_true, decide_eq_true_eq, and_true] at h
    obtain ⟨h0, h00, h1, h2, h3, h4, h5, h6, h7, h8, h9, h10, h11, h12, h13⟩ := h
    subst h0 h00
    have ok := blkOk_by h1
    rw [← f.N, ← f.scope] at ok
    have := se_comp2 (Z := Z) (X := X) (pos := pos) (own := ownP sc own) f.calm f.nd (s.i X sc tg iter it f h8) ok (fun s' H C cl fp => s.g _ _ tg p f.blk h9) (fun s' H C cl fp => s.i _ _ tg1 iter1 it2 f.blk h10) (fun s' H C cl fp => s.g _ _ tg1 q f.blk h11) (fun s' H C cl fp => ckIfs_ok s f.blk h12) (fun s' H C cl fp => s.e _ _ elt y f.blk h13) (fun v => (fs_ok h6 _ v).1) (fun env v => (fs_ok h7 env v).1) (by rw [ownP_snd]; exact h2) (by
      rw [ownP_snd]
      intro i hi
      have := List.all_eq_true.mp h3 i hi
      exact List.contains_iff_mem.mp this) h4 h5
    rw [ownP_snd] at this
    exact this
  · cases h
theorem attr_ok {o : Expr} {m : Str} {env : Env} {wh : Sem Value} (h : attrOk o = true) : attributeBase o m env wh = wh := by
  cases o with
  | Call f es kws pos =>
    cases es with
    | nil => cases h
    | cons e r => cases f <;> rfl
  | _ => rfl
theorem stM_ok (s : Snd Z G k c) (f : Fit Z G k X sc) {o : Expr} {m : Str} {ap pos : Pos} {kws : List Keyword} (h : stM c sc o m ap es kws pos x = true) : SE Z X (.Call (.Attribute o m ap) es kws pos) x := by
  unfold stM at h
  split at h
  · split at h
    · simp only [Bool.and_eq_true, decide_eq_true_eq, and_true] at h
      obtain ⟨h1, h2, h3, h4, h5, h6⟩ := h
      exact se_spl h1 (s.e X sc _ _ f h5) (s.e X sc _ _ f h6) h2 (attr_ok h3) h4
    · simp only [Bool.and_eq_true, decide_eq_true_eq, and_true] at h
      obtain ⟨h1, h2, h3, h4, h5, h6⟩ := h
      exact se_lix h1 f.units2 (s.e X sc _ _ f h5) (s.e X sc _ _ f h6) h2 (attr_ok h3) h4
    · cases h
  · cases h
theorem ckTab_ok (f : Fit Z G k X sc) {g : Str} {kvs : List (Str × Int)} (h : ckTab G sc g kvs = true) : KTab X.mg X.K X.w g kvs ∧ Gl X g ∧ (g == ("__debug__" : Str)) = false := by
  unfold ckTab at h
  simp only [Bool.and_eq_true,
      decide_eq_true_eq] at h
  exact ⟨f.F.tab g kvs h.1, f.gl h.2.1, (dbg_ok h.2.2).1⟩
theorem ckKin_ok (s : Snd Z G k c) (f : Fit Z G k X sc) {l r : Expr} {op : CmpOp} {neg : Bool} {kvs : List (Str × Int)} {pos : Pos} (h : ckKin G c sc l op r neg kvs x = true) : SE Z X (.Compare l [op] [r] pos) (.kin neg kvs x) ∧ STt Z X (.Compare l [op] [r] pos) (.kin neg kvs x) := by
  unfold ckKin at h
  simp only [Bool.and_eq_true,
      Bool.not_eq_true'] at h
  obtain ⟨h1, h2, h3, h4⟩ := h
  split at h3
  · obtain ⟨kt, hg, hd⟩ := ckTab_ok f h3
    cases neg with
    | true =>
      cases op <;> first | (cases h1; done) | exact ⟨se_kin true kt hg hd (s.e X sc _ _ f h4) h2, st_kin true kt hg hd (s.e X sc _ _ f h4) h2⟩
    | false =>
      cases op <;> first | (cases h1; done) | exact ⟨se_kin false kt hg hd (s.e X sc _ _ f h4) h2, st_kin false kt hg hd (s.e X sc _ _ f h4) h2⟩
  · cases h3
theorem ckGn_ok (s : Snd Z G k c) (f : Fit Z G k X sc) {elt : Expr} {gs : List Comprehension} {scope : Scope} {it cond : EV.X} {own : List Nat} {p1 gpos pos : Pos} {all : Bool} (hg : glOk sc (Str.ofString (fnG all)) = true) (hsg : sc.gen = true) (h : ckGn c sc elt gs scope p it cond y own = true) :
    SE Z X (.Call (.Name (Str.ofString (fnG all)) p1) [.GeneratorExp elt gs scope gpos] [] pos) (.gen all p it cond y own) := by
  unfold ckGn at h
  split at h
  · rename_i tg iter ifs a
    simp only [Bool.and_eq_true, decide_eq_true_eq, Bool.not_eq_true'] at h
    obtain ⟨h0, h1, h2, h4, h5, h6, h7, h8, h9, h10, h11⟩ := h
    subst h0
    have ok := blkOk_by h1
    rw [← f.N, ← f.scope] at ok
    obtain ⟨cc, P, hcode, TB, hP⟩ := f.gen hsg
    have hr := f.room
    rw [if_pos hsg] at hr
    have := se_gn (Z := Z) (X := X) (pos := pos) (own := ownP sc own) (all := all) (gpos := gpos) (p1 := p1) hr f.calm f.nd (f.gl hg) (f.none (by cases all <;> decide)) TB hcode hP h9 (fun z hz e => by
        unfold nocell at h10
        rw [List.all_eq_true] at h10
        have := h10 z hz
        rw [e] at this
        cases this) (of_decide_eq_true h11) (s.i X sc tg iter it f h5) ok (fun A' s' H cenv fp r e => s.g _ _ tg p (f.gnx r e) h6) (fun A' s' H cenv fp r e => ckIfs_ok s (f.gnx r e) h7) (fun A' s' H cenv fp r e => s.e _ _ elt y (f.gnx r e) h8) (fun v => (fs_ok h4 _ v).2) (by rw [ownP_snd]; exact h2)
    rw [ownP_snd] at this
    exact this
  · cases h
end
end ES
end

set_option Elab.async false
set_option linter.all false
set_option autoImplicit false
set_option maxRecDepth 100000
set_option maxHeartbeats 4000007
/-! ES13: the expressions' check is sound. -/
noncomputable section
namespace ES
open PySem PySem.Spec PyProof.Rows L2 EV GxR

section
variable {Z : Wd} {G : Gs} {k : Nat} {X : Cx} {sc : Sc} {c : Chk} {n : Str} {e : Expr} {es : List Expr} {kws : List Keyword} {x y a : EV.X} {p : Pt} {pos p1 : Pos}
theorem isi_ok (s : Snd Z G k c) (f : Fit Z G k X sc) {T : Str} {Ts : String} {bf : Bf} (hT : Ts = "int" ∨ Ts = "tuple" ∨ Ts = "str") (hTs : T = Str.ofString Ts) (hbf : ∀ d, bltF bf [d] = rb (isD Ts d)) (h : ckIsi c sc n es T a = true) : SE Z X (.Call (.Name n p1) es [] pos) (.blt bf a) := by
  unfold ckIsi at h
  split at h
  · rename_i e m _ y
    simp only [Bool.and_eq_true,
        decide_eq_true_eq] at h
    obtain ⟨h1, h2, h3, h4, h5, h6, h7⟩ := h
    subst h1 h2 hTs
    have hb : Str.ofString Ts ∈ bNames := by rcases hT with rfl | rfl | rfl <;> decide
    exact se_isi hT hbf (f.gl h3) (f.none (by decide)) (f.gl h4) (f.none hb) (by rcases hT with rfl | rfl | rfl <;> decide +kernel) (by rcases hT with rfl | rfl | rfl <;> decide) (by rcases hT with rfl | rfl | rfl <;> decide) (s.e X sc e y f h7) h6 h5
  · cases h
theorem isE {es : List Expr} (h : (!es.isEmpty) = true) : ∃ e r, es = e :: r := by
  cases es with
  | nil => cases h
  | cons e r => exact ⟨e, r, rfl⟩
theorem kwE (h : kws.isEmpty = true) : kws = [] := List.isEmpty_iff.mp h
theorem stB_ok (s : Snd Z G k c) (f : Fit Z G k X sc) {bf : Bf} (h : stB c sc n es kws bf a = true) : SE Z X (.Call (.Name n p1) es kws pos) (.blt bf a) := by
  have plain : bOk bf = true → (kws.isEmpty && (decide (n = bName bf) && (glOk sc n && (!es.isEmpty && ckA (c.e sc) es a)))) = true → SE Z X (.Call (.Name n p1) es kws pos) (.blt bf a) := fun hb h => by
    simp only [Bool.and_eq_true,
        decide_eq_true_eq] at h
    obtain ⟨h1, h2, h3, h4, h5⟩ := h
    obtain ⟨e, r, rfl⟩ := isE h4
    have := kwE h1
    subst this
    obtain ⟨ha, hn⟩ := ckA_ok s f h5
    have hg := f.gl h3
    subst h2
    cases bf with
    | len => exact se_blt (blt_len (T := Z.T)) hg (f.none (by decide)) (by decide +kernel) ha (by decide) (by decide) hn
    | tuple => exact se_bltT (blt_tuple (T := Z.T)) hg (f.none (by decide)) (by decide +kernel) ha (by decide) (by decide) hn
    | list => exact se_bltT (blt_list (T := Z.T)) hg (f.none (by decide)) (by decide +kernel) ha (by decide) (by decide) hn
    | sum => exact se_blt (blt_sum (T := Z.T) f.calm) hg (f.none (by decide)) (by decide +kernel) ha (by decide) (by decide) hn
    | int => exact se_bltT (blt_int (T := Z.T)) hg (f.none (by decide)) (by decide +kernel) ha (by decide) (by decide) hn
    | abs => exact se_blt (blt_abs (T := Z.T)) hg (f.none (by decide)) (by decide +kernel) ha (by decide) (by decide) hn
    | min => exact se_blt (blt_min (T := Z.T) f.calm) hg (f.none (by decide)) (by decide +kernel) ha (by decide) (by decide) hn
    | max => exact se_blt (blt_max (T := Z.T) f.calm) hg (f.none (by decide)) (by decide +kernel) ha (by decide) (by decide) hn
    | sorted => exact se_blt (blt_sorted (T := Z.T) f.units) hg (f.none (by decide)) (by decide +kernel) ha (by decide) (by decide) hn
    | str => exact se_bltT (blt_str (T := Z.T)) hg (f.none (by decide)) (by decide +kernel) ha (by decide) (by decide) hn
    | _ => cases hb
  have pl : bOk bf = true → stB c sc n es kws bf a = true → SE Z X (.Call (.Name n p1) es kws pos) (.blt bf a) := fun hb h => by
    cases bf <;> first | (exact plain hb h) | cases hb
  cases bf with
  | isInt =>
    have h : (kws.isEmpty && ckIsi c sc n es "int" a) = true := h
    rw [Bool.and_eq_true] at h
    have := kwE h.1
    subst this
    exact isi_ok s f (.inl rfl) rfl (fun d => by cases d <;> rfl) h.2
  | isTup =>
    have h : (kws.isEmpty && ckIsi c sc n es "tuple" a) = true := h
    rw [Bool.and_eq_true] at h
    have := kwE h.1
    subst this
    exact isi_ok s f (.inr (.inl rfl)) rfl (fun d => by cases d <;> rfl) h.2
  | isStr =>
    have h : (kws.isEmpty && ckIsi c sc n es "str" a) = true := h
    rw [Bool.and_eq_true] at h
    have := kwE h.1
    subst this
    exact isi_ok s f (.inr (.inr rfl)) rfl (fun d => by cases d <;> rfl) h.2
  | sortedRev =>
    unfold stB at h
    dsimp only at h
    split at h
    · simp only [Bool.and_eq_true,
          decide_eq_true_eq] at h
      obtain ⟨h1, h2, h3, h4, h5⟩ := h
      subst h1 h2
      exact se_srev f.units (f.gl h3) (f.none (by decide)) (s.e X sc _ _ f h5) h4
    · cases h
  | listRng =>
    unfold stB at h
    dsimp only at h
    split at h
    · simp only [Bool.and_eq_true,
          decide_eq_true_eq] at h
      obtain ⟨h1, h2, h3, h4, h5, h6, h7⟩ := h
      subst h1 h2
      rw [is0_ok h5]
      exact se_lrng1 f.calm (f.gl h3) (f.none (by decide)) (f.gl h4) (f.none (by decide)) (s.e X sc _ _ f h7) h6
    · simp only [Bool.and_eq_true,
          decide_eq_true_eq] at h
      obtain ⟨h1, h2, h3, h4, h5, h6, h7, h8⟩ := h
      subst h1 h2
      exact se_lrng2 f.calm (f.gl h3) (f.none (by decide)) (f.gl h4) (f.none (by decide)) (s.e X sc _ _ f h7) (s.e X sc _ _ f h8) h5 h6
    · cases h
  | tupRev =>
    unfold stB at h
    dsimp only at h
    split at h
    · simp only [Bool.and_eq_true,
          decide_eq_true_eq] at h
      obtain ⟨h1, h2, h3, h4, h5, h6⟩ := h
      subst h1 h2
      exact se_tupRev f.calm (f.gl h3) (f.none (by decide)) (f.gl h4) (f.none (by decide)) (s.e X sc _ _ f h6) h5
    · cases h
  | listRev =>
    unfold stB at h
    dsimp only at h
    split at h
    · simp only [Bool.and_eq_true,
          decide_eq_true_eq] at h
      obtain ⟨h1, h2, h3, h4, h5, h6⟩ := h
      subst h1 h2
      exact se_listRev f.calm (f.gl h3) (f.none (by decide)) (f.gl h4) (f.none (by decide)) (s.e X sc _ _ f h6) h5
    · cases h
  | str => exact pl rfl h
  | len => exact pl rfl h
  | tuple => exact pl rfl h
  | list => exact pl rfl h
  | sum => exact pl rfl h
  | int => exact pl rfl h
  | abs => exact pl rfl h
  | min => exact pl rfl h
  | max => exact pl rfl h
  | sorted => exact pl rfl h
theorem stC_ok (s : Snd Z G k c) (f : Fit Z G k X sc) (h : stC G c sc n es kws x = true) : SE Z X (.Call (.Name n p1) es kws pos) x := by
  unfold stC at h
  split at h
  · rename_i i a
    split at h
    · rename_i q hq
      simp only [Bool.and_eq_true,
          decide_eq_true_eq] at h
      obtain ⟨h1, h2, h3, h4, h5, h6, h7, h8⟩ := h
      obtain ⟨e, r, rfl⟩ := isE h7
      have := kwE h8
      subst this
      obtain ⟨m, np⟩ := q
      have h1 : n = m := h1
      subst h1
      obtain ⟨fa, fd, ps, F, hm, hk, hb⟩ := f.F.fn i n np hq
      obtain ⟨ha, hn⟩ := ckA_ok s f h4
      exact se_call F f.roomk (f.gl h2) hm hk hb ha h5 h6 (dbg_ok h3).1 hn
    · cases h
  · exact stB_ok s f h
  · split at h
    · simp only [Bool.and_eq_true,
          decide_eq_true_eq] at h
      obtain ⟨h1, h2, h3, h4, h5⟩ := h
      have := kwE h4
      subst this
      subst h1
      exact ckGn_ok s f h2 h3 h5
    · cases h
  · cases h
theorem ckK_ok {kk : Const} {d : PyData} {j : Nat} (h : ckK kk d = true) : SE Z X (.Constant kk j pos) (.c d) := by
  unfold ckK at h
  split at h
  · exact se_tc pe_non fun _ _ => .non
  · rw [of_decide_eq_true h]; exact se_tc pe_bl fun _ _ => .bl _
  · rw [of_decide_eq_true h]; exact se_tc pe_int fun _ _ => .int _
  · rw [of_decide_eq_true h]; exact se_tc pe_str fun _ _ => .str _
  · cases h
theorem ckC_ok (f : Fit Z G k X sc) {d : PyData} (hg : glOk sc n = true) (hd : dbg n = true) (h : ckC G n d = true) : SE Z X (.Name n pos) (.c d) := by
  unfold ckC at h
  split at h
  · rename_i i ei
    split at h
    · rw [← of_decide_eq_true h]
      obtain ⟨t, et⟩ := f.F.conI n i ei
      exact se_tc (v := .int i) (pe_glob (f.gl hg) et ⟨t, rfl⟩ (dbg_ok hd).1) fun _ _ => .int _
    · cases h
  · rename_i i ei
    split at h
    · rw [← of_decide_eq_true h]
      obtain ⟨t, et⟩ := f.F.conS n i ei
      exact se_tc (v := .str i) (pe_glob (f.gl hg) et ⟨t, rfl⟩ (dbg_ok hd).1) fun _ _ => .str _
    · cases h
  · cases h
theorem plainI_ok {b : Expr} (h : plainI b = true) : PlainIx b := by
  intro o i
  cases b <;> first | rfl | cases h
theorem stE_ok (s : Snd Z G k c) (f : Fit Z G k X sc) (h : stE G c sc e x = true) : SE Z X e x := by
  unfold stE at h
  split at h
  · -- BoolOp
    split at h
    · exact se_one (s.e X sc _ x f h)
    · split at h
      · simp only [Bool.and_eq_true] at h
        exact se_and (s.e X sc _ _ f h.1) (s.e X sc _ _ f h.2.2) h.2.1
      · simp only [Bool.and_eq_true] at h
        exact se_or (s.e X sc _ _ f h.1) (s.e X sc _ _ f h.2.2) h.2.1
      · cases h
    · cases h
  · -- Name
    split at h
    · unfold ckN at h
      simp only [Bool.and_eq_true,
          decide_eq_true_eq] at h
      exact se_v (by rw [f.N]; exact h.1) (f.vis h.2.1) (dbg_ok h.2.2).1 (dbg_ok h.2.2).2
    · unfold ckN at h
      simp only [Bool.and_eq_true,
          decide_eq_true_eq] at h
      exact se_pk (by rw [f.N]; exact h.1) (f.vis h.2.1) (dbg_ok h.2.2).1 (dbg_ok h.2.2).2
    · simp only [Bool.and_eq_true] at h
      exact ckC_ok f h.1 h.2.1 h.2.2
    · cases h
  · split at h
    · exact ckK_ok h
    · cases h
  · simp only [Bool.and_eq_true] at h
    exact se_tup (ckA_ok s f h.2.1).1 h.2.2.1 h.2.2.2 h.1
  · split at h
    · simp only [Bool.and_eq_true] at h
      exact se_lst (ckA_ok s f h.1).1 h.2.1 h.2.2
    · cases h
  · split at h
    · simp only [Bool.and_eq_true] at h
      rw [ckOp_ok h.1]
      exact se_bin _ (s.e X sc _ _ f h.2.1) (s.e X sc _ _ f h.2.2)
    · simp only [Bool.and_eq_true] at h
      rw [ckOp_ok h.1]
      exact se_rep (s.e X sc _ _ f h.2.2.1) (s.e X sc _ _ f h.2.2.2) h.2.1
    · cases h
  · split at h
    · exact se_neg (s.e X sc _ _ f h)
    · exact se_no (s.e X sc _ _ f h)
    · cases h
  · split at h
    · simp only [Bool.and_eq_true, Bool.not_eq_true'] at h
      obtain ⟨h1, h2, h3, h4⟩ := h
      rw [ckCm_ok h1] at h2 ⊢
      exact se_cmp _ f.units (s.e X sc _ _ f h3) (s.e X sc _ _ f h4) h2
    · simp only [Bool.and_eq_true, Bool.not_eq_true'] at h
      obtain ⟨h1, h2, h3, h4, h5, h6⟩ := h
      rw [ckCm_ok h1, ckCm_ok h2] at h3 ⊢
      exact se_chn _ _ f.units (s.e X sc _ _ f h4) (s.e X sc _ _ f h5) (s.e X sc _ _ f h6) h3
    · exact (ckKin_ok s f h).1
    · cases h
  · split at h
    · simp only [Bool.and_eq_true] at h
      exact se_ite (s.t X sc _ _ f h.1) (s.e X sc _ _ f h.2.1) (s.e X sc _ _ f h.2.2)
    · cases h
  · split at h
    · simp only [Bool.and_eq_true] at h
      exact se_ix (s.e X sc _ _ f h.2.1) (s.e X sc _ _ f h.2.2) (plainI_ok h.1)
    · split at h
      · simp only [Bool.and_eq_true] at h
        obtain ⟨kt, hg, hd⟩ := ckTab_ok f h.1
        exact se_kget kt hg hd (s.e X sc _ _ f h.2.2) (plainI_ok h.2.1)
      · cases h
    · split at h
      · simp only [Bool.and_eq_true] at h
        exact se_sl (s.e X sc _ _ f h.1) (ckO_ok s f h.2.1) (ckO_ok s f h.2.2)
      · cases h
    · cases h
  · split at h
    · exact ckL_ok s f h
    · exact ckL2_ok s f h
    · cases h
  · split at h
    · exact stC_ok s f h
    · exact stM_ok s f h
    · cases h
  · cases h
theorem stW_ok (s : Snd Z G k c) (f : Fit Z G k X sc) (h : stW c sc e x = true) : SW Z X e x := by
  unfold stW at h
  split at h
  · split at h
    · rename_i op _ _ _
      cases op
      · exact sw_and1 (s.t X sc _ x f h)
      · exact sw_or1 (s.t X sc _ x f h)
    · split at h
      · simp only [Bool.and_eq_true] at h
        exact sw_and (s.t X sc _ _ f h.1) (s.w X sc _ _ f h.2)
      · simp only [Bool.and_eq_true] at h
        exact sw_or (s.t X sc _ _ f h.1) (s.w X sc _ _ f h.2)
      · cases h
    · cases h
  · cases h
theorem stT_ok (s : Snd Z G k c) (f : Fit Z G k X sc) (h : stT G c sc e x = true) : STt Z X e x := by
  cases e with
  | BoolOp op es pos => exact sw_st (s.w X sc _ x f h)
  | UnaryOp op a pos =>
    unfold stT at h
    dsimp only at h
    split at h
    · exact st_no (s.t X sc _ _ f h)
    · cases h
  | Compare l ops rs pos =>
    unfold stT at h
    dsimp only at h
    split at h
    · simp only [Bool.and_eq_true, Bool.not_eq_true'] at h
      obtain ⟨h1, h2, h3, h4⟩ := h
      rw [ckCm_ok h1] at h2 ⊢
      exact st_cmp _ f.units (s.e X sc _ _ f h3) (s.e X sc _ _ f h4) h2
    · simp only [Bool.and_eq_true, Bool.not_eq_true'] at h
      obtain ⟨h1, h2, h3, h4, h5, h6⟩ := h
      rw [ckCm_ok h1, ckCm_ok h2] at h3 ⊢
      exact st_chn _ _ f.units (s.e X sc _ _ f h4) (s.e X sc _ _ f h5) (s.e X sc _ _ f h6) h3
    · exact (ckKin_ok s f h).2
    · cases h
  | IfExp t a b pos =>
    unfold stT at h
    dsimp only at h
    split at h
    · simp only [Bool.and_eq_true] at h
      exact st_ite (s.t X sc _ _ f h.1) (s.t X sc _ _ f h.2.1) (s.t X sc _ _ f h.2.2)
    · cases h
  | _ => exact st_val (s.e X sc _ x f h) fun _ => rfl
theorem stI_ok (s : Snd Z G k c) (f : Fit Z G k X sc) {tg : Expr} (h : stI c sc e x = true) : SI Z X tg e x := by
  cases x with
  | rng p q =>
    unfold stI at h
    dsimp only at h
    split at h
    · simp only [Bool.and_eq_true,
          decide_eq_true_eq] at h
      obtain ⟨h1, h2, h3, h4, h5⟩ := h
      subst h1
      rw [is0_ok h3]
      exact si_rng1 (f.gl h2) (f.none (by decide)) (s.e X sc _ _ f h5) h4
    · simp only [Bool.and_eq_true,
          decide_eq_true_eq] at h
      obtain ⟨h1, h2, h3, h4, h5, h6⟩ := h
      subst h1
      exact si_rng2 (f.gl h2) (f.none (by decide)) (s.e X sc _ _ f h5) (s.e X sc _ _ f h6) h3 h4
    · cases h
  | rev p =>
    unfold stI at h
    dsimp only at h
    split at h
    · simp only [Bool.and_eq_true,
          decide_eq_true_eq] at h
      obtain ⟨h1, h2, h3, h4⟩ := h
      subst h1
      exact si_rev (f.gl h2) (f.none (by decide)) (s.e X sc _ _ f h4) h3
    · cases h
  | _ => exact si_seq (s.e X sc _ _ f h) rfl
theorem stG_ok (s : Snd Z G k c) (f : Fit Z G k X sc) (h : stG c sc e p = true) : SG Z X e p := by
  unfold stG at h
  split at h
  · split at h
    · simp only [Bool.and_eq_true,
          decide_eq_true_eq] at h
      exact sg_nm f.nd (by rw [f.N]; exact h.1) (f.loc h.2).1 (f.loc h.2).2
    · cases h
  · simp only [Bool.and_eq_true] at h
    exact sg_tup f.calm (ckGs_ok s f h.2) h.1
  · cases h
theorem chk_ok : ∀ m, Snd Z G k (chk G m)
  | 0 => ⟨fun _ _ _ _ _ h => absurd h Bool.false_ne_true, fun _ _ _ _ _ h => absurd h Bool.false_ne_true, fun _ _ _ _ _ h => absurd h Bool.false_ne_true, fun _ _ _ _ _ _ h => absurd h Bool.false_ne_true, fun _ _ _ _ _ h => absurd h Bool.false_ne_true⟩
  | m + 1 => ⟨fun _ _ _ _ f h => stE_ok (chk_ok m) f h, fun _ _ _ _ f h => stT_ok (chk_ok m) f h, fun _ _ _ _ f h => stW_ok (chk_ok m) f h, fun _ _ _ _ _ f h => stI_ok (chk_ok m) f h, fun _ _ _ _ f h => stG_ok (chk_ok m) f h⟩
end
end ES
end

set_option Elab.async false
set_option linter.all false
set_option autoImplicit false
set_option maxRecDepth 100000
set_option maxHeartbeats 4000007
/-! ES14b: a, b = x, y with names. -/
noncomputable section
namespace ES
open PySem PySem.Spec PyProof.Rows L2 EV GxR
def kindF (sc : Sc) : Bool := match sc.scope.kind with | .function => true | _ => false
def lclB (sc : Sc) (n : Str) : Bool := decide (sc.scope.names.lookup n = some .local)
section
variable {X : Cx} {sc : Sc} {x y z : Str} {px py pz pt pt2 : Pos} {kt k2 : Nat} {a b c : Expr}
theorem swp2 (hs : X.env.scope = sc.scope) (hk : kindF sc = true) (hx : lclB sc x = true) (hy : lclB sc y = true) (hlpy : (py.line == px.line) = true) (hd : decide ([x, y].eraseDups.length = 2) = true) (hn : nstL [a, b] = true) (h1 : ([a, b].all (foldedForSure 8)) = false) (h2 : ([a, b].all (constantsAlone 8)) = false) :
    swappedStores [.Tuple [.Name x px, .Name y py] kt pt] (.Tuple [a, b] k2 pt2) X.env = pure (some [x, y]) := by
  have ex : X.env.kindOf x = some .local := by show X.env.scope.names.lookup x = _; rw [hs]; exact of_decide_eq_true hx
  have ey : X.env.kindOf y = some .local := by show X.env.scope.names.lookup y = _; rw [hs]; exact of_decide_eq_true hy
  have bk : X.env.blockKind = .function := by
    unfold Env.blockKind
    rw [hs]
    unfold kindF at hk
    split at hk
    · rename_i e; rw [e]; rfl
    · cases hk
  simp only [nstL, Bool.and_eq_true] at hn
  obtain ⟨na, nb, _⟩ := hn
  have ll : (px.line == px.line) = true := by simp
  have ed := of_decide_eq_true hd
  unfold swappedStores
  simp only [bk, h1, h2, Expr.pos, ex, ey, List.filterMap_cons, List.filterMap_nil, List.head?_cons, Option.map_some, Option.getD_some, ll, hlpy, List.length_cons, List.length_nil, ed]
  simp (config := { decide := true }) [ed, h1, h2, ll, hlpy]
  intro h
  rcases h with h | h
  · cases a <;> first | (exact absurd h Bool.false_ne_true) | cases na
  · cases b <;> first | (exact absurd h Bool.false_ne_true) | cases nb
theorem swp3 (hs : X.env.scope = sc.scope) (hk : kindF sc = true) (hx : lclB sc x = true) (hy : lclB sc y = true) (hz : lclB sc z = true) (hlpy : (py.line == px.line) = true) (hlpz : (pz.line == px.line) = true) (hd : decide ([x, y, z].eraseDups.length = 3) = true) (hn : nstL [a, b, c] = true) (h1 : ([a, b, c].all (foldedForSure 8)) = false) (h2 : ([a, b, c].all (constantsAlone 8)) = false) :
    swappedStores [.Tuple [.Name x px, .Name y py, .Name z pz] kt pt] (.Tuple [a, b, c] k2 pt2) X.env = pure (some [x, y, z]) := by
  have ex : X.env.kindOf x = some .local := by show X.env.scope.names.lookup x = _; rw [hs]; exact of_decide_eq_true hx
  have ey : X.env.kindOf y = some .local := by show X.env.scope.names.lookup y = _; rw [hs]; exact of_decide_eq_true hy
  have ez : X.env.kindOf z = some .local := by show X.env.scope.names.lookup z = _; rw [hs]; exact of_decide_eq_true hz
  have bk : X.env.blockKind = .function := by
    unfold Env.blockKind
    rw [hs]
    unfold kindF at hk
    split at hk
    · rename_i e; rw [e]; rfl
    · cases hk
  simp only [nstL, Bool.and_eq_true] at hn
  obtain ⟨na, nb, nc, _⟩ := hn
  have ll : (px.line == px.line) = true := by simp
  have ed := of_decide_eq_true hd
  unfold swappedStores
  simp only [bk, h1, h2, Expr.pos, ex, ey, ez, List.filterMap_cons, List.filterMap_nil, List.head?_cons, Option.map_some, Option.getD_some, ll, hlpy, hlpz, List.length_cons, List.length_nil, ed]
  simp (config := { decide := true }) [ed, h1, h2, ll, hlpy, hlpz]
  intro h
  rcases h with h | h | h
  · cases a <;> first | (exact absurd h Bool.false_ne_true) | cases na
  · cases b <;> first | (exact absurd h Bool.false_ne_true) | cases nb
  · cases c <;> first | (exact absurd h Bool.false_ne_true) | cases nc

variable {Z : Wd} {ta tb tc : EV.X} {pos : Pos} {i j l : Nat} {W : WX}
theorem ps_p2 (hc : X.calm = true) (hN : X.N.Nodup) (hi : X.N[i]? = some x) (hj : X.N[j]? = some y) (hij : i ≠ j) (hx : X.env.scope.names.lookup x = some .local) (hy : X.env.scope.names.lookup y = some .local) {u : EV.X} (ha : SA Z X [a, b] u) (hs : strA u = true) (tk : Takes X W)
    (hw : swappedStores [.Tuple [.Name x px, .Name y py] kt pt] (.Tuple [a, b] k2 pt2) X.env = pure (some [x, y])) :
    PS X (.Assign [.Tuple [.Name x px, .Name y py] kt pt] (.Tuple [a, b] k2 pt2) pos) (tS Z X.K (.set (.cons (.nm i) (.cons (.nm j) .nil)) u) W) := by
  refine PS.of (ps_par hc hN hi hj hij hx hy (ha W tk) hw) fun D σ H ⟨B, H0, A, env, R0, rl, k0, h⟩ => ?_
  refine ⟨B, H0, A, env, rl, ?_⟩
  have h : SOk Z X.K B H0 W D R0 ((ev Z.C u env).st env fun d => optS (bindP (.cons (.nm i) (.cons (.nm j) .nil)) d env)) := h
  cases e : ev Z.C u env with
  | fail => rw [e] at h; exact h.elim
  | exc c =>
    rw [e] at h
    exact fun dd H' g => h dd A σ H' (rl.grow g) (keep_grow rl k0 g)
  | ok d =>
    rw [e] at h
    have h : SOk Z X.K B H0 W D R0 (optS (bindP (.cons (.nm i) (.cons (.nm j) .nil)) d env)) := h
    have hd : ∃ d1 d2, d = .tuple [d1, d2] := by
      cases d with
      | tuple ds =>
        match ds, h with
        | [], h => exact h.elim
        | [_], h => exact h.elim
        | [d1, d2], _ => exact ⟨d1, d2, rfl⟩
        | _ :: _ :: _ :: _, h => exact h.elim
      | _ => exact h.elim
    obtain ⟨d1, d2, rfl⟩ := hd
    refine ⟨[d1, d2], rfl, fun vs H1 g r rs hl => ?_⟩
    have rs := rs hs
    cases rs with
    | cons r1 rs =>
      cases rs with
      | cons r2 rs =>
        cases rs
        refine ⟨_, _, rfl, ?_⟩
        have b1 : ∀ a, Bt B A (setS env i (.val d1)) a → Bt B A env a := Bt.set fun ds z => by cases z
        have b2 : ∀ a, Bt B A (setS (setS env i (.val d1)) j (.val d2)) a → Bt B A (setS env i (.val d1)) a := Bt.set fun ds z => by cases z
        have rl1 := (rl.grow g).set (i := i) r1
        exact h A _ H1 (rl1.set (i := j) (r2.less b1)) fun v d r => ((keep_grow rl k0 g v d r).less b1).less b2
theorem ps_p3 (hc : X.calm = true) (hN : X.N.Nodup) (hi : X.N[i]? = some x) (hj : X.N[j]? = some y) (hl' : X.N[l]? = some z) (hij : i ≠ j) (hil : i ≠ l) (hjl : j ≠ l) (hx : X.env.scope.names.lookup x = some .local) (hy : X.env.scope.names.lookup y = some .local) (hz : X.env.scope.names.lookup z = some .local) {u : EV.X} (ha : SA Z X [a, b, c] u) (hs : strA u = true) (tk : Takes X W)
    (hw : swappedStores [.Tuple [.Name x px, .Name y py, .Name z pz] kt pt] (.Tuple [a, b, c] k2 pt2) X.env = pure (some [x, y, z])) :
    PS X (.Assign [.Tuple [.Name x px, .Name y py, .Name z pz] kt pt] (.Tuple [a, b, c] k2 pt2) pos) (tS Z X.K (.set (.cons (.nm i) (.cons (.nm j) (.cons (.nm l) .nil))) u) W) := by
  refine PS.of (ps_par3 hc hN hi hj hl' hij hil hjl hx hy hz (ha W tk) hw) fun D σ H ⟨B, H0, A, env, R0, rl, k0, h⟩ => ?_
  refine ⟨B, H0, A, env, rl, ?_⟩
  have h : SOk Z X.K B H0 W D R0 ((ev Z.C u env).st env fun d => optS (bindP (.cons (.nm i) (.cons (.nm j) (.cons (.nm l) .nil))) d env)) := h
  cases e : ev Z.C u env with
  | fail => rw [e] at h; exact h.elim
  | exc c =>
    rw [e] at h
    exact fun dd H' g => h dd A σ H' (rl.grow g) (keep_grow rl k0 g)
  | ok d =>
    rw [e] at h
    have h : SOk Z X.K B H0 W D R0 (optS (bindP (.cons (.nm i) (.cons (.nm j) (.cons (.nm l) .nil))) d env)) := h
    have hd : ∃ d1 d2 d3, d = .tuple [d1, d2, d3] := by
      cases d with
      | tuple ds =>
        match ds, h with
        | [], h => exact h.elim
        | [_], h => exact h.elim
        | [_, _], h => exact h.elim
        | [d1, d2, d3], _ => exact ⟨d1, d2, d3, rfl⟩
        | _ :: _ :: _ :: _ :: _, h => exact h.elim
      | _ => exact h.elim
    obtain ⟨d1, d2, d3, rfl⟩ := hd
    refine ⟨[d1, d2, d3], rfl, fun vs H1 g r rs hl => ?_⟩
    have rs := rs hs
    cases rs with
    | cons r1 rs =>
      cases rs with
      | cons r2 rs =>
        cases rs with
        | cons r3 rs =>
          cases rs
          refine ⟨_, _, _, rfl, ?_⟩
          have b1 : ∀ a, Bt B A (setS env i (.val d1)) a → Bt B A env a := Bt.set fun ds z => by cases z
          have b2 : ∀ a, Bt B A (setS (setS env i (.val d1)) j (.val d2)) a → Bt B A (setS env i (.val d1)) a := Bt.set fun ds z => by cases z
          have b3 : ∀ a, Bt B A (setS (setS (setS env i (.val d1)) j (.val d2)) l (.val d3)) a → Bt B A (setS (setS env i (.val d1)) j (.val d2)) a := Bt.set fun ds z => by cases z
          have rl1 := (rl.grow g).set (i := i) r1
          have rl2 := rl1.set (i := j) (r2.less b1)
          exact h A _ H1 (rl2.set (i := l) ((r3.less b1).less b2)) fun v d r => (((keep_grow rl k0 g v d r).less b1).less b2).less b3
/-- not all the targets are plain locals of one line: the tuple is made -/
def few (sc : Sc) (ts : List Expr) : Bool := decide ((ts.filterMap fun
    | .Name id pos => if sc.scope.names.lookup id == some .local && pos.line == (ts.head?.map (·.pos.line)).getD 0 then some id else none
    | _ => none).length ≠ ts.length)
theorem swp_few {ts vs : List Expr} (hs : X.env.scope = sc.scope) (h : few sc ts = true) : swappedStores [.Tuple ts kt pt] (.Tuple vs k2 pt2) X.env = pure none := by
  have h := of_decide_eq_true h
  have hk : ∀ id, X.env.kindOf id = sc.scope.names.lookup id := fun id => by show X.env.scope.names.lookup id = _; rw [hs]
  unfold swappedStores
  simp only [hk]
  by_cases q1 : (!(ts.length == 2 || ts.length == 3) || vs.length != ts.length || X.env.blockKind != .function) = true
  · rw [if_pos q1]
  · rw [if_neg q1]
    split
    · rfl
    · rw [if_pos]
      rw [Bool.or_eq_true]
      refine .inl ?_
      simp at h ⊢
      obtain ⟨t, ht, e⟩ := h
      exact ⟨t, ht, by cases t <;> exact e⟩
/-- the check -/
def ckPar (cc : Chk) (sc : Sc) (ts vs : List Expr) (p : Pt) (u : EV.X) : Bool := match ts, vs, p with
  | [.Name x px, .Name y py], [a, b], .cons (.nm i) (.cons (.nm j) .nil) => kindF sc && (lclB sc x && (lclB sc y && ((py.line == px.line) && (decide ([x, y].eraseDups.length = 2) && (!([a, b].all (foldedForSure 8)) && (!([a, b].all (constantsAlone 8)) &&
      (decide (sc.N[i]? = some x) && (decide (sc.N[j]? = some y) && (decide (i ≠ j) && (ckA (cc.e sc) [a, b] u && strA u))))))))))
  | [.Name x px, .Name y py, .Name z pz], [a, b, c], .cons (.nm i) (.cons (.nm j) (.cons (.nm l) .nil)) => kindF sc && (lclB sc x && (lclB sc y && (lclB sc z && ((py.line == px.line) && ((pz.line == px.line) && (decide ([x, y, z].eraseDups.length = 3) && (!([a, b, c].all (foldedForSure 8)) && (!([a, b, c].all (constantsAlone 8)) &&
      (decide (sc.N[i]? = some x) && (decide (sc.N[j]? = some y) && (decide (sc.N[l]? = some z) && (decide (i ≠ j) && (decide (i ≠ l) && (decide (j ≠ l) && (ckA (cc.e sc) [a, b, c] u && strA u)))))))))))))))
  | _, _, _ => false
theorem ckPar_ok {G : Gs} {k : Nat} {cc : Chk} {ts vs : List Expr} {p : Pt} {u : EV.X} (s : Snd Z G k cc) (f : Fit Z G k X sc) (h : ckPar cc sc ts vs p u = true) : SS Z X (.Assign [.Tuple ts kt pt] (.Tuple vs k2 pt2) pos) (.set p u) := fun W tk hp => by
  unfold ckPar at h
  split at h
  · simp only [Bool.and_eq_true, decide_eq_true_eq, Bool.not_eq_true'] at h
    obtain ⟨h1, h2, h3, h4, h5, h6, h7, h8, h9, h10, h11, h12⟩ := h
    obtain ⟨ha, hn⟩ := ckA_ok s f h11
    exact ps_p2 f.calm f.nd (by rw [f.N]; exact h8) (by rw [f.N]; exact h9) h10 (by rw [f.scope]; exact of_decide_eq_true h2) (by rw [f.scope]; exact of_decide_eq_true h3) ha h12 tk (swp2 f.scope h1 h2 h3 h4 (decide_eq_true h5) hn h6 h7)
  · simp only [Bool.and_eq_true, decide_eq_true_eq, Bool.not_eq_true'] at h
    obtain ⟨h1, h2, h3, h4, h5, h6, h7, h8, h9, h10, h11, h12, h13, h14, h15, h16, h17⟩ := h
    obtain ⟨ha, hn⟩ := ckA_ok s f h16
    exact ps_p3 f.calm f.nd (by rw [f.N]; exact h10) (by rw [f.N]; exact h11) (by rw [f.N]; exact h12) h13 h14 h15 (by rw [f.scope]; exact of_decide_eq_true h2) (by rw [f.scope]; exact of_decide_eq_true h3) (by rw [f.scope]; exact of_decide_eq_true h4) ha h17 tk (swp3 f.scope h1 h2 h3 h4 h5 h6 (decide_eq_true h7) hn h8 h9)
  · cases h
end
end ES
end

set_option Elab.async false
set_option linter.all false
set_option autoImplicit false
set_option maxRecDepth 100000
set_option maxHeartbeats 4000007
/-! ES14: the statements' check. -/
noncomputable section
namespace ES
open PySem PySem.Spec PyProof.Rows L2 EV GxR

structure ChkS where
  s : Sc → Stmt → EV.S → Bool
  ss : Sc → List Stmt → EV.S → Bool
def isLc (e : Expr) : Bool := match e with | .ListComp .. => true | .SetComp .. => true | .DictComp .. => true | _ => false
def isTp (e : Expr) : Bool := match e with | .Tuple .. => true | _ => false
/-- name = [..] on one line: the block is spliced in -/
def lcOk (sc : Sc) (n : Str) (pn : Pos) (e : Expr) : Bool := match e with
  | .ListComp _ _ scope pos => (match sc.scope.kind with | .function => true | _ => false) && (decide (sc.scope.names.lookup n = some .local) && ((pn.line == pos.line) && !(scope.names.any fun (m, k) => m == n && (k == .local || k == .cell))))
  | _ => false
def ckLc (c : Chk) (sc : Sc) (e : Expr) (x : EV.X) : Bool := match e with
  | .ListComp elt gs scope _ => (match x with | .comp p it cond y own => ckL c sc elt gs scope p it cond y own | .comp2 p it q it2 cond y own => ckL2 c sc elt gs scope p it q it2 cond y own | _ => false)
  | _ => false
/-- name = [[..] ..] -/
def ckLL (c : Chk) (sc : Sc) (n : Str) (pn : Pos) (e : Expr) (x : EV.X) : Bool := lcOk sc n pn e && (match e with
  | .ListComp elt gs scope _ => (match x with | .comp p it cond y own => frs y && ckL c sc elt gs scope p it cond y own | _ => false)
  | _ => false)
def ckV (c : Chk) (sc : Sc) (n : Str) (pn : Pos) (e : Expr) (x : EV.X) : Bool := match isLc e with
  | true => lcOk sc n pn e && ckLc c sc e x
  | false => c.e sc e x
def stSS (c : Chk) (d : ChkS) (sc : Sc) (ss : List Stmt) (s : EV.S) : Bool := match s with
  | .seq (.frz _) t => d.ss sc ss t
  | .skip => (match ss with | [] => true | [st] => d.s sc st .skip | _ => false)
  | s => (match ss with
    | [] => false
    | [st] => d.s sc st s
    | st :: r => (match s with | .seq a b => d.s sc st a && d.ss sc r b | _ => false))
def ckH (ss : List Stmt) (s : EV.S) : Bool := match ss, s with
  | [.Return (some (.Constant k _ _)) _], .ret (.c d) => ckK k d
  | [.Return none _], .ret (.c .none) => true
  | [.Pass _], .skip => true
  | [.Continue _], .cont => true
  | _, _ => false
def stS (G : Gs) (c : Chk) (d : ChkS) (sc : Sc) (st : Stmt) (s : EV.S) : Bool := match st with
  | .Pass _ => (match s with | .skip => true | _ => false)
  | .Break _ => (match s with | .brk => true | _ => false)
  | .Continue _ => (match s with | .cont => true | _ => false)
  | .Return v _ => (match v, s with
    | none, .ret (.c .none) => true
    | some e, .ret x => str x && c.e sc e x
    | _, _ => false)
  | .Expr e _ => (match s with
    | .expr x => !isLc e && c.e sc e x
    | .app i x => (match e with
      | .Call (.Attribute (.Name n _) m ap) [u] [] p2 => decide (m = "append") && (ckN sc i n && (str x && (nst u && ((ap.endLine == p2.line) && c.e sc u x))))
      | _ => false)
    | .appPop i j x => (match e with
      | .Call (.Attribute (.Name n _) m ap) [.Call (.Attribute (.Name n' _) m2 ap2) [u] [] p6] [] p2 => decide (m = "append") && (decide (m2 = "pop") && (ckN sc i n && (ckN sc j n' && (nst u && ((ap.endLine == p2.line) && ((ap2.endLine == p6.line) && c.e sc u x))))))
      | _ => false)
    | _ => false)
  | .If t a b _ => (match s with | .ifS x p q => c.t sc t x && (d.ss sc a p && d.ss sc b q) | _ => false)
  | .While t b [] _ => (match s with | .whl x p => c.t sc t x && d.ss sc b p | _ => false)
  | .For tg it b [] _ => (match s with | .for p x q => c.i sc it x && (strI x && (c.g sc tg p && (fsOk it && d.ss sc b q))) | _ => false)
  | .AugAssign (.Name n _) op e _ => (match s with
    | .aug i o x => (match o with | .add => true | .sub => true | _ => false) && (ckOp op o && (decide (sc.N[i]? = some n) && (locOk sc n && c.e sc e x)))
    | _ => false)
  | .Raise (some (.Call (.Name n _) [.Constant (.str _) _ _] [] _)) none _ => (match s with
    | .rse i => decide (G.excs[i]? = some n) && (glOk sc n && dbg n)
    | _ => false)
  | .Try b [.ExceptHandler (some (.Name n _)) none (h :: hs) _] [] [] _ => (match s with
    | .tryS p i nb q => decide (nb = G.excs.length) && (decide (G.excs[i]? = some n) && (glOk sc n && (dbg n && (ckH (h :: hs) q && d.ss sc b p))))
    | _ => false)
  | .Assign [tg] e _ => (match s with
    | .set p x => (match tg with
      | .Name n pn => (match p with | .nm i => str x && (decide (sc.N[i]? = some n) && (locOk sc n && ckV c sc n pn e x)) | _ => false)
      | .Tuple ts _ _ => (match e with
        | .Tuple vs _ _ => ckPar c sc ts vs p x || (few sc ts && (str x && (c.g sc tg p && c.e sc e x)))
        | _ => !isLc e && (!isTp e && (str x && (c.g sc tg p && c.e sc e x))))
      | _ => false)
    | .setO i x => (match tg with
      | .Name n pn => frs x && (decide (sc.N[i]? = some n) && (locOk sc n && ckV c sc n pn e x))
      | _ => false)
    | .setIx i a x => (match tg with
      | .Subscript (.Name n _) b _ => !isLc e && (ckN sc i n && (plainI b && (str x && (c.e sc b a && c.e sc e x))))
      | _ => false)
    | .setLL i x => (match tg with
      | .Name n pn => decide (sc.N[i]? = some n) && (locOk sc n && ckLL c sc n pn e x)
      | _ => false)
    | .set2 i a b x => (match tg with
      | .Subscript (.Subscript (.Name n _) ea _) eb _ => !isLc e && (ckN sc i n && (plainI ea && (plainI eb && (str x && (c.e sc ea a && (c.e sc eb b && c.e sc e x))))))
      | _ => false)
    | .swp i a b x y => (match tg, e with
      | .Tuple [.Subscript (.Name n p2) ea p3, .Subscript (.Name m p4) eb p5] _ _, .Tuple [u, w] _ _ => decide (n = m) && (few sc [.Subscript (.Name n p2) ea p3, .Subscript (.Name m p4) eb p5] && (ckN sc i n && (plainI ea && (plainI eb && (str x && (str y && (nst u && (nst w && (c.e sc ea a && (c.e sc eb b && (c.e sc u x && c.e sc w y)))))))))))
      | _, _ => false)
    | .pop p i => (match e with
      | .Call (.Attribute (.Name n _) m ap) [] [] p2 => decide (m = "pop") && (ckN sc i n && (nst tg && ((ap.endLine == p2.line) && c.g sc tg p)))
      | _ => false)
    | _ => false)
  | _ => false
def chkS (G : Gs) (c : Chk) : Nat → ChkS
  | 0 => ⟨fun _ _ _ => false, fun _ _ _ => false⟩
  | n + 1 => ⟨stS G c (chkS G c n), stSS c (chkS G c n)⟩

/-! ### soundness -/
/-- exceptions' classes -/
structure FctX (Z : Wd) (G : Gs) (K : PySem.W.Frag) (mg : Str → Option Value) : Prop where
  exc : ∀ i n, G.excs[i]? = some n → ∃ C Bs bmB newId initId, Z.xv i = .ref C ∧ ExcBaseFacts Bs newId initId bmB ∧ PySem.W.excIn K C bmB newId = true ∧ mg n = some (.ref C) ∧ PySem.W.keepIn K (.ref C) = true ∧
    PySem.W.subIn K (.ref C) (.type "BaseException") = some true ∧ PySem.W.typeIn K (.ref C) = some (.type "type")
  exm : ∀ i j, i < G.excs.length → j < G.excs.length → PySem.W.exmOne K (Z.xv j) (Z.xv i) = some (Nat.beq i j)
structure FitS (Z : Wd) (G : Gs) (k : Nat) (X : Cx) (sc : Sc) : Prop where
  fit : Fit Z G k X sc
  stk : X.stack = X.env :: X.outer
  fr : X.env.frame = some X.env.locals
  exc : FctX Z G X.K X.mg
structure SndS (Z : Wd) (G : Gs) (k : Nat) (d : ChkS) : Prop where
  s : ∀ X sc st s, FitS Z G k X sc → d.s sc st s = true → SS Z X st s
  ss : ∀ X sc ss s, FitS Z G k X sc → d.ss sc ss s = true → SSs Z X ss s
section
variable {Z : Wd} {G : Gs} {k : Nat} {X : Cx} {sc : Sc} {c : Chk} {d : ChkS} {n : Str} {e : Expr} {es : List Expr} {st : Stmt} {ss : List Stmt} {s t : EV.S} {x y a : EV.X} {p : Pt} {pos p1 : Pos}
theorem FitS.tr (f : FitS Z G k X sc) (pn : List (Addr × Obj)) (xe : Value → Shared → Prop) : FitS Z G k (X.tr pn xe) sc :=
  ⟨⟨f.fit.F, f.fit.N, f.fit.nd, f.fit.scope, f.fit.calm, f.fit.room, f.fit.gen, f.fit.fn⟩, f.stk, f.fr, f.exc⟩
theorem sw_no {tg : Option Expr} {l : Nat} {env : Env} (h : isLc e = false) : swapsWith e tg l env = pure false := by
  cases e <;> first | rfl | cases h
theorem sw_noS {tg : Expr} {l : Nat} {env : Env} (h : isLc e = false) : swapsWithSole [tg] e l env = pure false := sw_no h
theorem swp_no {tg : Expr} {env : Env} (h : isTp e = false) : swappedStores [tg] e env = pure none := by
  cases e <;> first | (cases h; done) | (cases tg <;> rfl)
theorem swp_name {nm : Str} {pn : Pos} {env : Env} : swappedStores [.Name nm pn] e env = pure none := by
  cases e <;> rfl
theorem swp_sub {o i : Expr} {pn : Pos} {env : Env} : swappedStores [.Subscript o i pn] e env = pure none := by
  cases e <;> rfl
end
end ES
end

set_option Elab.async false
set_option linter.all false
set_option autoImplicit false
set_option maxRecDepth 100000
set_option maxHeartbeats 4000007
/-! ES15: the statements' check is sound. -/
noncomputable section
namespace ES
open PySem PySem.Spec PyProof.Rows L2 EV GxR

section
variable {Z : Wd} {G : Gs} {k : Nat} {X : Cx} {sc : Sc} {c : Chk} {d : ChkS} {n : Str} {e : Expr} {es : List Expr} {st : Stmt} {ss : List Stmt} {s t : EV.S} {x y a : EV.X} {p : Pt} {pos p1 pn : Pos} {i : Nat}
theorem asgV (hs : Snd Z G k c) (f : Fit Z G k X sc) (hi : sc.N[i]? = some n) (hl : locOk sc n = true) (h : ckV c sc n pn e x = true) : ∀ W, Takes X W → PS X (.Assign [.Name n pn] e pos) (tAsg (tE Z X.K x W) (gName i)) := fun W tk => by
  have hi' : X.N[i]? = some n := by rw [f.N]; exact hi
  unfold ckV at h
  cases hc : isLc e with
  | false =>
    rw [hc] at h
    exact ps_set f.nd hi' (f.loc hl).1 (hs.e X sc e x f h W tk) (sw_no hc) (f.loc hl).2
  | true =>
    rw [hc] at h
    dsimp only at h
    rw [Bool.and_eq_true] at h
    obtain ⟨h1, h2⟩ := h
    unfold ckLc at h2
    split at h2
    · rename_i elt gs scope lpos
      split at h2
      · rename_i q it cond y own
        unfold ckL at h2
        split at h2
        · rename_i tg iter ifs a
          simp only [Bool.and_eq_true,
              decide_eq_true_eq] at h2
          obtain ⟨g0, g1, g2, g3, g4, g5, g6, g7, g8⟩ := h2
          subst g0
          unfold lcOk at h1
          simp only [Bool.and_eq_true, decide_eq_true_eq, Bool.not_eq_true'] at h1
          obtain ⟨k1, k2, k3, k4⟩ := h1
          have kf : X.env.scope.kind = .function := by
            rw [f.scope]
            split at k1
            · assumption
            · cases k1
          have kl : X.env.scope.names.lookup n = some .local := by rw [f.scope]; exact k2
          have ok := blkOk_by g1
          rw [← f.N, ← f.scope] at ok
          have := ps_setLc (X := X) (spos := pos) (pos := lpos) (own := ownP sc own) (g := tG Z X.K q) (tt := tT Z X.K cond fun _ _ _ _ => False) (te := tE Z X.K y fun _ _ _ _ => False) f.calm f.nd hi' kl (sw_true kf kl k3 k4) (hs.i X sc tg iter it f g5 W tk) ok (fun s' H C cl fp => hs.g _ _ tg q f.blk g6) (fun s' H C cl fp => ckIfs_ok hs f.blk g7) (fun s' H C cl fp => hs.e _ _ elt y f.blk g8 _ takes0) (fun v => (fs_ok g4 _ v).1)
          rw [ownP_snd] at this
          exact PS.of this fun D σ H q => lc_imp g2 g3 q
        · cases h2
      · rename_i q it q2 it2 cond y own
        unfold ckL2 at h2
        split at h2
        · rename_i tg iter a tg1 iter1 ifs a1
          simp only [Bool.and_eq_true, decide_eq_true_eq, and_true] at h2
          obtain ⟨g0, g00, g1, g2, g3, g4, g5, g6, g7, g8, g9, g10, g11, g12, g13⟩ := h2
          subst g0 g00
          unfold lcOk at h1
          simp only [Bool.and_eq_true, decide_eq_true_eq, Bool.not_eq_true'] at h1
          obtain ⟨k1, k2, k3, k4⟩ := h1
          have kf : X.env.scope.kind = .function := by
            rw [f.scope]
            split at k1
            · assumption
            · cases k1
          have kl : X.env.scope.names.lookup n = some .local := by rw [f.scope]; exact k2
          have ok := blkOk_by g1
          rw [← f.N, ← f.scope] at ok
          have := ps_setLc2 (X := X) (spos := pos) (pos := lpos) (own := ownP sc own) (vs1 := slP q2) (g := tG Z X.K q) (tt := tT Z X.K (.c (.bool true)) noW) (wi1 := tI Z X.K it2 noW) (g1 := tG Z X.K q2) (tt1 := tT Z X.K cond noW) (te := tE Z X.K y noW) f.calm f.nd hi' kl (sw_true kf kl k3 k4) (hs.i X sc tg iter it f g8 W tk) ok (by
            rw [ownP_snd]
            intro i hi
            exact List.contains_iff_mem.mp (List.all_eq_true.mp g3 i hi)) (fun s' H C cl fp => hs.g _ _ tg q f.blk g9) (fun s' H C cl fp => sc_nil) (fun s' H C cl fp => hs.i _ _ tg1 iter1 it2 f.blk g10 _ takes0) (fun s' H C cl fp => hs.g _ _ tg1 q2 f.blk g11) (fun s' H C cl fp => ckIfs_ok hs f.blk g12) (fun s' H C cl fp => hs.e _ _ elt y f.blk g13 _ takes0) (fun v => (fs_ok g6 _ v).1) (fun env v => (fs_ok g7 env v).1)
          rw [ownP_snd] at this
          exact PS.of this fun D σ H q => lc2_imp g2 g4 g5 q
        · cases h2
      · cases h2
    · cases h2
theorem asgLL (hs : Snd Z G k c) (f : Fit Z G k X sc) (hi : sc.N[i]? = some n) (hl : locOk sc n = true) (h : ckLL c sc n pn e x = true) : SS Z X (.Assign [.Name n pn] e pos) (.setLL i x) := by
  have hi' : X.N[i]? = some n := by rw [f.N]; exact hi
  unfold ckLL at h
  rw [Bool.and_eq_true] at h
  obtain ⟨h1, h2⟩ := h
  split at h2
  · rename_i elt gs scope lpos
    split at h2
    · rename_i q it cond y own
      rw [Bool.and_eq_true] at h2
      obtain ⟨hf, h2⟩ := h2
      unfold ckL at h2
      split at h2
      · rename_i tg iter ifs a
        simp only [Bool.and_eq_true,
            decide_eq_true_eq] at h2
        obtain ⟨g0, g1, g2, g3, g4, g5, g6, g7, g8⟩ := h2
        subst g0
        unfold lcOk at h1
        simp only [Bool.and_eq_true, decide_eq_true_eq, Bool.not_eq_true'] at h1
        obtain ⟨k1, k2, k3, k4⟩ := h1
        have kf : X.env.scope.kind = .function := by
          rw [f.scope]
          split at k1
          · assumption
          · cases k1
        have kl : X.env.scope.names.lookup n = some .local := by rw [f.scope]; exact k2
        have ok := blkOk_by g1
        rw [← f.N, ← f.scope] at ok
        refine ss_setLL (fun W tk => ?_) g2 hf
        have := ps_setLc (X := X) (spos := pos) (pos := lpos) (own := ownP sc own) (g := tG Z X.K q) (tt := tT Z X.K cond noW) (te := tE Z X.K y noW) f.calm f.nd hi' kl (sw_true kf kl k3 k4) (hs.i X sc tg iter it f g5 W tk) ok (fun s' H C cl fp => hs.g _ _ tg q f.blk g6) (fun s' H C cl fp => ckIfs_ok hs f.blk g7) (fun s' H C cl fp => hs.e _ _ elt y f.blk g8 _ takes0) (fun v => (fs_ok g4 _ v).1)
        rw [ownP_snd] at this
        exact this
      · cases h2
    · cases h2
  · cases h2
theorem subT_ok {o b : Expr} {q : Pos} (h : plainI b = true) : SubT X o b q := fun _ => by
  cases b <;> first | rfl | cases h
theorem ckH_ok {h₀ : Stmt} {hs : List Stmt} (h : ckH (h₀ :: hs) s = true) : SH Z X (h₀ :: hs) s ∧ ∀ env c e, ex Z.C Z.wf s env ≠ .exc c e := by
  unfold ckH at h
  split at h
  · rename_i kk j p1 p2 dd e1
    cases e1
    refine ⟨?_, fun env c e => by intro z; cases z⟩
    unfold ckK at h
    split at h
    · exact sh_retc (fun Y => pe_non) fun _ _ _ => .non
    · rw [of_decide_eq_true h]; exact sh_retc (fun Y => pe_bl) fun _ _ _ => .bl _
    · rw [of_decide_eq_true h]; exact sh_retc (fun Y => pe_int) fun _ _ _ => .int _
    · rw [of_decide_eq_true h]; exact sh_retc (fun Y => pe_str) fun _ _ _ => .str _
    · cases h
  · rename_i e1
    cases e1
    exact ⟨sh_retN, fun env c e => by intro z; cases z⟩
  · rename_i e1
    cases e1
    exact ⟨sh_pass, fun env c e => by intro z; cases z⟩
  · rename_i e1
    cases e1
    exact ⟨sh_cont, fun env c e => by intro z; cases z⟩
  · cases h
theorem stSS_ok (hd : SndS Z G k d) (f : FitS Z G k X sc) (h : stSS c d sc ss s = true) : SSs Z X ss s := by
  unfold stSS at h
  split at h
  · exact sss_frz (hd.ss X sc ss _ f h)
  · split at h
    · exact sss_nil
    · exact sss_one (hd.s X sc _ _ f h)
    · cases h
  · split at h
    · cases h
    · exact sss_one (hd.s X sc _ _ f h)
    · split at h
      · rw [Bool.and_eq_true] at h
        exact sss_cons (hd.s X sc _ _ f h.1) (hd.ss X sc _ _ f h.2)
      · cases h
theorem stS_ok (hs : Snd Z G k c) (hd : SndS Z G k d) (f : FitS Z G k X sc) (h : stS G c d sc st s = true) : SS Z X st s := by
  have F := f.fit
  unfold stS at h
  split at h
  · split at h
    · exact ss_pass
    · cases h
  · split at h
    · exact ss_brk
    · cases h
  · split at h
    · exact ss_cont
    · cases h
  · -- Return
    split at h
    · exact ss_retN
    · rw [Bool.and_eq_true] at h
      exact ss_ret (hs.e X sc _ _ F h.2) h.1
    · cases h
  · -- Expr
    split at h
    · rw [Bool.and_eq_true, Bool.not_eq_true'] at h
      exact ss_expr (hs.e X sc _ _ F h.2) (sw_no h.1)
    · split at h
      · simp only [Bool.and_eq_true,
            decide_eq_true_eq] at h
        obtain ⟨h1, h2, h3, h4, h5, h6⟩ := h
        unfold ckN at h2
        simp only [Bool.and_eq_true,
            decide_eq_true_eq] at h2
        exact ss_app h1 (by rw [F.N]; exact h2.1) (F.vis h2.2.1) (dbg_ok h2.2.2).1 (dbg_ok h2.2.2).2 (hs.e X sc _ _ F h6) h3 h4 h5
      · cases h
    · split at h
      · simp only [Bool.and_eq_true,
            decide_eq_true_eq] at h
        obtain ⟨h1, h2, h3, h4, h5, h6, h7, h8⟩ := h
        unfold ckN at h3 h4
        simp only [Bool.and_eq_true, decide_eq_true_eq] at h3 h4
        exact ss_appPop h1 h2 (by rw [F.N]; exact h3.1) (F.vis h3.2.1) (dbg_ok h3.2.2).1 (dbg_ok h3.2.2).2 (by rw [F.N]; exact h4.1) (F.vis h4.2.1) (dbg_ok h4.2.2).1 (dbg_ok h4.2.2).2 (hs.e X sc _ _ F h8) h5 h6 h7
      · cases h
    · cases h
  · split at h
    · simp only [Bool.and_eq_true] at h
      exact ss_if (hs.t X sc _ _ F h.1) (hd.ss X sc _ _ f h.2.1) (hd.ss X sc _ _ f h.2.2)
    · cases h
  · split at h
    · simp only [Bool.and_eq_true] at h
      exact ss_whl (hs.t X sc _ _ F h.1) (hd.ss X sc _ _ f h.2)
    · cases h
  · split at h
    · simp only [Bool.and_eq_true] at h
      obtain ⟨h1, h2, h3, h4, h5⟩ := h
      exact ss_for F.calm (hs.i X sc _ _ _ F h1) h2 (hs.g X sc _ _ F h3) (hd.ss X sc _ _ f h5) fun v => (fs_ok h4 _ v).1
    · cases h
  · split at h
    · simp only [Bool.and_eq_true,
          decide_eq_true_eq] at h
      obtain ⟨h1, h2, h3, h4, h5⟩ := h
      rename_i i o x
      rw [ckOp_ok h2]
      exact ss_aug (by cases o <;> first | exact .inl rfl | exact .inr rfl | cases h1) F.nd (by rw [F.N]; exact h3) (F.loc h4).1 (F.loc h4).2 (hs.e X sc _ _ F h5)
    · cases h
  · split at h
    · simp only [Bool.and_eq_true,
          decide_eq_true_eq] at h
      obtain ⟨h1, h2, h3⟩ := h
      obtain ⟨C, Bs, bmB, newId, initId, hx, FB, q, gC, kC, r1, r2⟩ := f.exc.exc _ _ h1
      exact ss_rse FB q gC kC (raises_own r1 r2) (F.gl h2) (dbg_ok h3).1 F.calm hx
    · cases h
  · split at h
    · simp only [Bool.and_eq_true,
          decide_eq_true_eq] at h
      obtain ⟨h0, h1, h2, h3, h4, h5⟩ := h
      rename_i pq i nb q
      subst h0
      have hi : i < G.excs.length := (List.getElem?_eq_some_iff.mp h1).1
      obtain ⟨C, Bs, bmB, newId, initId, hx, FB, q, gC, kC, r1, r2⟩ := f.exc.exc _ _ h1
      obtain ⟨k1, k2⟩ := ckH_ok (Z := Z) (X := X) h4
      exact ss_try f.stk f.fr ⟨F.gl h2, (dbg_ok h3).1, .inl (by rw [hx]; exact gC)⟩ (fun j hj => f.exc.exm i j hi hj) hi (fun pn xe => hd.ss _ sc _ _ (f.tr pn xe) h5) k1 k2
    · cases h
  · -- Assign
    split at h
    · split at h
      · split at h
        · simp only [Bool.and_eq_true,
              decide_eq_true_eq] at h
          obtain ⟨h1, h2, h3, h4⟩ := h
          exact ss_set (fun W tk => asg_name (asgV hs F h2 h3 h4 W tk) tE_mono) h1
        · cases h
      · split at h
        · rw [Bool.or_eq_true] at h
          rcases h with h | h
          · exact ckPar_ok hs F h
          · simp only [Bool.and_eq_true] at h
            obtain ⟨h1, h2, h3, h4⟩ := h
            exact ss_set (fun W tk => ps_asg (hs.e X sc _ _ F h4 W tk) (hs.g X sc _ _ F h3) rfl (swp_few F.scope h1) rfl) h2
        · simp only [Bool.and_eq_true, Bool.not_eq_true'] at h
          obtain ⟨h1, h2, h3, h4, h5⟩ := h
          exact ss_set (fun W tk => ps_asg (hs.e X sc _ _ F h5 W tk) (hs.g X sc _ _ F h4) (sw_noS h1) (swp_no h2) rfl) h3
      · cases h
    · split at h
      · simp only [Bool.and_eq_true,
            decide_eq_true_eq] at h
        obtain ⟨h1, h2, h3, h4⟩ := h
        exact ss_setO (asgV hs F h2 h3 h4) h1
      · cases h
    · split at h
      · simp only [Bool.and_eq_true, Bool.not_eq_true'] at h
        obtain ⟨h1, h2, h3, h4, h5, h6⟩ := h
        unfold ckN at h2
        simp only [Bool.and_eq_true,
            decide_eq_true_eq] at h2
        exact ss_setIx (by rw [F.N]; exact h2.1) (F.vis h2.2.1) (dbg_ok h2.2.2).1 (dbg_ok h2.2.2).2 (hs.e X sc _ _ F h5) (hs.e X sc _ _ F h6) h4 (fun _ => by
          rename_i b _ _
          cases b <;> first | rfl | cases h3) (sw_noS h1) swp_sub
      · cases h
    · split at h
      · simp only [Bool.and_eq_true,
            decide_eq_true_eq] at h
        obtain ⟨h1, h2, h3⟩ := h
        exact asgLL hs F h1 h2 h3
      · cases h
    · split at h
      · simp only [Bool.and_eq_true, Bool.not_eq_true'] at h
        obtain ⟨h1, h2, h3, h4, h5, h6, h7, h8⟩ := h
        unfold ckN at h2
        simp only [Bool.and_eq_true,
            decide_eq_true_eq] at h2
        exact ss_set2 (by rw [F.N]; exact h2.1) (F.vis h2.2.1) (dbg_ok h2.2.2).1 (dbg_ok h2.2.2).2 (hs.e X sc _ _ F h6) (hs.e X sc _ _ F h7) (hs.e X sc _ _ F h8) h5 (plainI_ok h3) (subT_ok h4) (sw_noS h1) swp_sub
      · cases h
    · split at h
      · simp only [Bool.and_eq_true,
            decide_eq_true_eq] at h
        obtain ⟨h1, h2, h3, h4, h5, h6, h7, h8, h9, h10, h11, h12, h13⟩ := h
        subst h1
        unfold ckN at h3
        simp only [Bool.and_eq_true,
            decide_eq_true_eq] at h3
        exact ss_swp F.calm (by rw [F.N]; exact h3.1) (F.vis h3.2.1) (dbg_ok h3.2.2).1 (dbg_ok h3.2.2).2 (hs.e X sc _ _ F h10) (hs.e X sc _ _ F h11) (hs.e X sc _ _ F h12) (hs.e X sc _ _ F h13) h6 h7 h8 h9 (subT_ok h4) (subT_ok h5) (swp_few F.scope h2)
      · cases h
    · split at h
      · simp only [Bool.and_eq_true,
            decide_eq_true_eq] at h
        obtain ⟨h1, h2, h3, h4, h5⟩ := h
        unfold ckN at h2
        simp only [Bool.and_eq_true,
            decide_eq_true_eq] at h2
        exact ss_pop h1 (by rw [F.N]; exact h2.1) (F.vis h2.2.1) (dbg_ok h2.2.2).1 (dbg_ok h2.2.2).2 (hs.g X sc _ _ F h5) h3 h4 (swp_no rfl)
      · cases h
    · cases h
  · cases h
theorem chkS_ok (hs : Snd Z G k c) : ∀ m, SndS Z G k (chkS G c m)
  | 0 => ⟨fun _ _ _ _ _ h => absurd h Bool.false_ne_true, fun _ _ _ _ _ h => absurd h Bool.false_ne_true⟩
  | m + 1 => ⟨fun _ _ _ _ f h => stS_ok hs (chkS_ok hs m) f h, fun _ _ _ _ f h => stSS_ok (c := c) (chkS_ok hs m) f h⟩
end
end ES
end

set_option Elab.async false
set_option linter.all false
set_option autoImplicit false
set_option maxRecDepth 100000
set_option maxHeartbeats 4000007
/-! ES16: the defs of a program keep EV's promises; a law's end. -/
noncomputable section
namespace ES
open PySem PySem.Spec PyProof.Rows L2 EV GxR

/-- a def of the program: where it stands, its slots, its parameters, whether it makes generators -/
structure Df where
  d : He.DefD
  N : List Str
  ps : List Str
  gen : Bool
def Df.sc (D : Df) : Sc := ⟨D.N, D.d.scope, fun _ => true, D.gen⟩
def scB (D : Df) : Bool := (match D.d.scope.kind with | .function => true | _ => false) && (!D.d.scope.isCoroutine && (!D.d.scope.isGenerator && (decide D.N.Nodup && (decide (D.N.take D.ps.length = D.ps) &&
  (D.ps.all (fun x => match D.d.scope.names.lookup x with | some .local => true | some .cell => true | _ => false) && D.d.scope.names.all fun y => match y.2 with | .free => false | _ => true)))))
theorem scB_ok {D : Df} (h : scB D = true) : FnScope D.N D.ps D.d.scope := by
  unfold scB at h
  simp only [Bool.and_eq_true, Bool.not_eq_true', decide_eq_true_eq, List.all_eq_true] at h
  obtain ⟨h1, h2, h3, h4, h5, h6, h7⟩ := h
  refine ⟨?_, h2, h3, h4, h5, fun x hx => ?_, fun y hy e => ?_⟩
  · split at h1
    · assumption
    · cases h1
  · have := h6 x hx
    split at this
    · exact .inl (by assumption)
    · exact .inr (by assumption)
    · cases this
  · have := h7 y hy
    rw [e] at this
    cases this
/-- whether def i of the table is F -/
def dfB (G : Gs) (m : Nat) (D : Df) (F : Fn) : Bool := scB D && (decide (D.ps.length = F.np) && (decide (D.N.length = F.ns) && (chkS G (chk G m) m).ss D.sc D.d.body F.body))
def allB (G : Gs) (m : Nat) (Tb : Nat → Option Fn) (Ds : List Df) (i : Nat) : Bool := match Ds[i]? with
  | some D => (match Tb i with | some F => dfB G m D F && decide (G.fns[i]? = some (D.d.name, F.np)) | none => false)
  | none => false
def wdAt (T : List Addr) (Tb : Nat → Option Fn) (xv : Nat → Value) (wf j : Nat) : Wd := ⟨T, callF Tb wf j, xv, wf⟩
section
variable {G : Gs} {m : Nat} {Tb : Nat → Option Fn} {Ds : List Df} {T : List Addr} {xv : Nat → Value} {wf : Nat} {P : Program} {w : World} {K : PySem.W.Frag} {mg : Str → Option Value} {base : Heap}

theorem argS_len (ds : List PyData) (n : Nat) : (argS ds n).length = ds.length + n := by
  induction ds with
  | nil =>
    induction n with
    | zero => rfl
    | succ n ih =>
      show (SV.non :: argS [] n).length = _
      rw [List.length_cons, ih]; simp
  | cons d ds ih =>
    show (SV.val d :: argS ds n).length = _
    rw [List.length_cons, ih, List.length_cons]; omega
theorem argS_nil : ∀ (n i : Nat), getS (argS [] n) i = .non
  | 0, i => rfl
  | n + 1, 0 => rfl
  | n + 1, i + 1 => argS_nil n i
theorem argS_get : ∀ (ds : List PyData) (n i : Nat) (x : SV), getS (argS ds n) i = x → x = .non ∨ ∃ d, ds[i]? = some d ∧ x = .val d
  | [], n, i, x, h => .inl (by rw [argS_nil] at h; exact h.symm)
  | d :: ds, n, 0, x, h => .inr ⟨d, rfl, h.symm⟩
  | d :: ds, n, i + 1, x, h => by
    have h : getS (argS ds n) i = x := h
    rcases argS_get ds n i x h with h | ⟨d', h1, h2⟩
    · exact .inl h
    · exact .inr ⟨d', by simpa using h1, h2⟩
theorem rl_start {T : List Addr} {B : Addr → Prop} {H : Hp} {vs : List V} {ds : List PyData} {N : List Str} {n : Nat} (pr : Pre T B H) (r : RpA K B H vs ds) (hn : N.length - vs.length = n) (hl : vs.length ≤ N.length) : Rl K T B H (fun _ => []) (argS ds n) (L2.start N vs) H where
  gr := Gr.refl
  tabs := pr.tabs
  dom := pr.dom
  len := by
    unfold L2.start
    rw [argS_len, List.length_append, List.length_map, List.length_replicate, r.length, ← hn, r.length]
  own := fun i es h => by
    rcases argS_get _ _ _ _ h with e | ⟨d, _, e⟩ <;> cases e
  inj := fun i j es fs h => by
    rcases argS_get _ _ _ _ h with e | ⟨d, _, e⟩ <;> cases e
  val := fun i d h => by
    rcases argS_get _ _ _ _ h with e | ⟨d', h1, e⟩
    · cases e
    · cases e
      obtain ⟨v, h2, h3⟩ := r.get h1
      refine ⟨v, ?_, h3.less fun a q => ?_⟩
      · unfold L2.start
        have hi : i < vs.length := (List.getElem?_eq_some_iff.mp h2).1
        rw [List.getElem?_append_left (by rw [List.length_map]; exact hi), List.getElem?_map, h2]; rfl
      · rcases q with q | ⟨j, es, q, _⟩
        · exact q
        · rcases argS_get _ _ _ _ q with e | ⟨d, _, e⟩ <;> cases e
/-- a def's body -/
theorem body_ok {j k : Nat} {D : Df} {F : Fn} {fa : Addr} {cdv : Value} {A : Around} {outer : List Env} {s : Shared} {H : Hp} {vs : List V} {Q : VK} {E : XK} (i : Nat) (hT : Tb i = some F) (hB : dfB G m D F = true)
    (Fc : Fct (wdAt T Tb xv wf j) G P w K mg base k) (Fx : FctX (wdAt T Tb xv wf j) G K mg) (hg : D.gen = true → ∃ c Pt, cdv = .ref c ∧ TabB base mg c Pt ∧ Pt ∈ T)
    (hr : Room (k + 1) (A.deeper (envOfC D.d.qual D.d.scope s.heap.objs.size fa cdv))) (h : spF (wdAt T Tb xv wf (j + 1)) K F.np i vs H Q E) :
    ∃ t, PSs (cxOf (L2.CX P w) P w K mg base D.N D.d.qual D.d.scope fa cdv A outer s H E) D.d.body t ∧ t { nx := fun _ H' => Q .non H', rt := Q } (L2.start D.N vs) H := by
  unfold dfB at hB
  simp only [Bool.and_eq_true, decide_eq_true_eq] at hB
  obtain ⟨b1, b2, b3, b4⟩ := hB
  have S := scB_ok b1
  have fit : FitS (wdAt T Tb xv wf j) G k (cxOf (L2.CX P w) P w K mg base D.N D.d.qual D.d.scope fa cdv A outer s H E) D.sc := by
    refine ⟨{ F := Fc, N := rfl, nd := S.nd, scope := rfl, calm := rfl, room := ?_, gen := fun hh => ?_, fn := fun _ _ => rfl }, rfl, rfl, Fx⟩
    · refine ⟨hr.hd, ?_, ?_⟩
      · have := hr.dp
        show (A.deeper (envOfC D.d.qual D.d.scope s.heap.objs.size fa cdv)).depth + 3 * (k + (if D.sc.gen = true then 1 else 0)) + 5 < _
        split <;> omega
      · have := hr.un
        show (A.deeper (envOfC D.d.qual D.d.scope s.heap.objs.size fa cdv)).units + 16 * (k + (if D.sc.gen = true then 1 else 0)) + 200 < _
        split <;> omega
    · obtain ⟨c, Pt, e1, e2, e3⟩ := hg hh
      exact ⟨c, Pt, e1, e2, e3⟩
  have ok := (chkS_ok (chk_ok (Z := wdAt T Tb xv wf j) (G := G) (k := k) m) m).ss _ D.sc D.d.body F.body fit b4
  refine ⟨_, ok (fun cls dd _ H' => E cls dd H') (takes_of rfl rfl rfl rfl) (passes_of rfl), ?_⟩
  obtain ⟨B, ds, pr, ra, hl, h⟩ := h
  have hnp : ds.length = F.np := by rw [← ra.length, hl]
  have h : OkR (match Tb i with
    | none => .fail
    | some F => match Nat.beq (lenF ds) F.np with
      | false => .fail
      | true => match ex (callF Tb wf j) wf F.body (argS ds (Nat.sub F.ns F.np)) with
        | .next _ => .ok .none
        | .ret d => .ok d
        | .exc c _ => .exc c
        | _ => .fail) _ _ := h
  rw [hT] at h
  dsimp only at h
  rw [lenF_eq, hnp, Nat.beq_refl] at h
  dsimp only at h
  have hvl : vs.length ≤ D.N.length := by
    have := congrArg List.length S.pre
    rw [List.length_take, b2] at this
    omega
  refine ⟨B, H, fun _ => [], argS ds (Nat.sub F.ns F.np), fun _ _ => False, rl_start pr ra (by rw [b3, hl]; rfl) hvl, fun _ _ z => z.elim, ?_⟩
  show SOk (wdAt T Tb xv wf j) K B H _ _ _ (ex (callF Tb wf j) wf F.body (argS ds (Nat.sub F.ns F.np)))
  cases er : ex (callF Tb wf j) wf F.body (argS ds (Nat.sub F.ns F.np)) with
  | next env => rw [er] at h; exact fun A' σ' H' rl' _ => h .non H' rl'.gr .non
  | ret d => rw [er] at h; exact fun v H' g r => h v H' g r
  | exc c env => rw [er] at h; exact fun dd A' σ' H' rl' _ => h dd H' rl'.gr
  | brk env => rw [er] at h; exact h.elim
  | cont env => rw [er] at h; exact h.elim
  | fail => rw [er] at h; exact h.elim
/-- what is known of the program's defs -/
structure Pg (G : Gs) (m : Nat) (Tb : Nat → Option Fn) (Ds : List Df) (T : List Addr) (xv : Nat → Value) (wf : Nat) (P : Program) (w : World) (K : PySem.W.Frag) (mg : Str → Option Value) (base : Heap) : Prop where
  df : ∀ i, i < G.fns.length → ∃ D F fa fd, Ds[i]? = some D ∧ Tb i = some F ∧ dfB G m D F = true ∧ G.fns[i]? = some (D.d.name, F.np) ∧ FunD K D.d.name D.d.qual D.d.params D.d.body D.d.scope [] [] fa fd ∧ mg D.d.name = some (.ref fa) ∧ L2.Binds K fd D.ps [] ∧
    (D.gen = true → ∃ c Pt, fd.code = .ref c ∧ TabB base mg c Pt ∧ Pt ∈ T)
  conI : ∀ n i, G.cons.lookup n = some (.int i) → ∃ t, mg n = some (.int i t)
  conS : ∀ n i, G.cons.lookup n = some (.str i) → ∃ t, mg n = some (.str i t)
  blt : ∀ n ∈ bNames, mg n = none
  exc : ∀ j, FctX (wdAt T Tb xv wf j) G K mg
  tab : ∀ g kvs, G.tabs.lookup g = some kvs → KTab mg K w g kvs
theorem all_ok (pg : Pg G m Tb Ds T xv wf P w K mg base) : ∀ (j i : Nat), i < G.fns.length → ∀ D fa fd F, Ds[i]? = some D → Tb i = some F → dfB G m D F = true → G.fns[i]? = some (D.d.name, F.np) → FunD K D.d.name D.d.qual D.d.params D.d.body D.d.scope [] [] fa fd → (D.gen = true → ∃ c Pt, fd.code = .ref c ∧ TabB base mg c Pt ∧ Pt ∈ T) →
    FnOk P w K mg base (L2.CX P w) (2 * j) fa fd D.ps (spF (wdAt T Tb xv wf j) K F.np i)
  | 0, i, hi, D, fa, fd, F, hD, hT, hB, hG, hF, hg => by
    refine ⟨fun vs H Q E h => ?_, fun A outer s H args us vs Q E _ _ _ _ h => ?_⟩
    · obtain ⟨B, ds, _, _, _, z⟩ := h
      exact z.elim
    · obtain ⟨B, ds, _, _, _, z⟩ := h
      exact z.elim
  | j + 1, i, hi, D, fa, fd, F, hD, hT, hB, hG, hF, hg => by
    have Fc : Fct (wdAt T Tb xv wf j) G P w K mg base (2 * j) := by
      refine ⟨fun i' n np e => ?_, pg.conI, pg.conS, pg.blt, pg.tab⟩
      have hi' : i' < G.fns.length := (List.getElem?_eq_some_iff.mp e).1
      obtain ⟨D', F', fa', fd', e1, e2, e3, e4, e5, e6, e7, e8⟩ := pg.df i' hi'
      rw [e] at e4
      cases e4
      exact ⟨fa', fd', D'.ps, all_ok pg j i' hi' D' fa' fd' F' e1 e2 e3 e e5 e8, e6, e5.kp, e7⟩
    have hB' := hB
    unfold dfB at hB'
    simp only [Bool.and_eq_true, decide_eq_true_eq] at hB'
    have hlen : ∀ vs H Q E, spF (wdAt T Tb xv wf (j + 1)) K F.np i vs H Q E → vs.length = D.ps.length := fun vs H Q E h => by
      obtain ⟨B, ds, _, _, hl, _⟩ := h
      rw [hl, hB'.2.1]
    obtain ⟨oc, od, dV, kV, doc, pm, an, cdv, ct, osl, rfl, lk, hcd, _, _⟩ := hF.ex
    have e2 : 2 * (j + 1) = 2 * j + 1 + 1 := by omega
    rw [e2]
    exact fn_of lk hcd (scB_ok hB'.1) hlen fun A outer s H vs Q E hr hsp => body_ok i hT hB Fc (pg.exc j) (fun h => hg h) hr hsp
end
end ES
end

set_option Elab.async false
set_option linter.all false
set_option autoImplicit false
set_option maxRecDepth 100000
set_option maxHeartbeats 4000007
/-! ES17: a law's end. -/
noncomputable section
namespace ES
open PySem PySem.Spec PyProof.Rows L2 EV GxR

def xvOf (G : Gs) (K : PySem.W.Frag) (i : Nat) : Value := match G.excs[i]? with | some n => .ref (He.ga K n) | none => .none
/-- a def stands at the top by its name, without defaults -/
def plainD (D : Df) : Bool := decide (D.d.at_ = (D.d.name, none)) && (D.d.dfl.isEmpty && D.d.kwd.isEmpty)
theorem mem_tab {K : PySem.W.Frag} {tf : List He.Defn} {p : He.Defn} (h : p ∈ tf) : He.cT K p ∈ tf.map (He.cT K) := List.mem_map.mpr ⟨p, h, rfl⟩
/-- what a law's proof gives -/
structure LawF (G : Gs) (m : Nat) (Tb : Nat → Option Fn) (Ds : List Df) (fa : List He.Fa) (fn : List He.DefD) (ts : List He.Tab) (tf : List He.Defn) (ex : PySem.W.Frag → Bool) (wf j li : Nat) (x : Str) (nm : Nat) : Prop where
  len : G.fns.length = Ds.length
  all : ∀ i, i < G.fns.length → allB G m Tb Ds i = true
  mem : ∀ D ∈ Ds, D.d ∈ fn ∧ He.Fa.glo D.d.name ∈ fa ∧ plainD D = true
  free : ∀ n ∈ bNames, He.Fa.free n ∈ fa
  con : ∀ n d, G.cons.lookup n = some d → (∃ i, d = .int i ∧ He.Fa.int n i ∈ fa) ∨ ∃ z, d = .str z ∧ He.Fa.str n z ∈ fa
  tabs : ∀ g kvs, G.tabs.lookup g = some kvs → He.Fa.glo g ∈ fa ∧ (∃ (i : Nat) (ks : List Str), ts[i]? = some ((fun K => He.ga K g), ks)) ∧ ∀ K, ex K = true → He.valsB K (He.ga K g) (kvs.map fun q => (q.1, .int q.2)) = true
  exc : ∀ n ∈ G.excs, He.Fa.exc n ∈ fa ∧ He.Fa.glo n ∈ fa
  exm : ∀ i j a b, G.excs[i]? = some a → G.excs[j]? = some b → He.Fa.exm b a (Nat.beq i j) ∈ fa
  gen : ∀ D ∈ Ds, D.gen = true → (D.d.name, none) ∈ tf
  bnd : ∀ D ∈ Ds, ∀ (kV doc pm : Value) (an : Option Addr) (cdv ct : Value) (us : List Value), us.length = D.ps.length → bindArgs (PySem.W.fnOf D.d.name D.d.qual D.d.params D.d.body D.d.scope .none kV doc pm an cdv ct) ⟨us, []⟩ = pure (D.ps.zip us)
  law : ∃ D, Ds[li]? = some D ∧ D.ps = [x]
  ev : ∀ ns : List Int, ns.length ≤ nm → (∀ z ∈ ns, Builtin.Int.intBits z ≤ 1048576) → callF Tb wf j li [.list (ns.map .int)] = .ok (.bool true)
theorem funD_plain {K : PySem.W.Frag} {D : Df} {fn : List He.DefD} {fa : List He.Fa} (c : He.SaysD fa fn K) (h : D.d ∈ fn) (hp : plainD D = true) : ∃ fd, FunD K D.d.name D.d.qual D.d.params D.d.body D.d.scope [] [] (He.ga K D.d.name) fd := by
  obtain ⟨fd, F⟩ := c.defs h
  unfold plainD at hp
  simp only [Bool.and_eq_true, decide_eq_true_eq, List.isEmpty_iff] at hp
  obtain ⟨h1, h2, h3⟩ := hp
  refine ⟨fd, ?_⟩
  have e1 : D.d.dvs K = [] := by unfold He.DefD.dvs; rw [h2]; rfl
  have e2 : D.d.kws K = [] := by unfold He.DefD.kws; rw [h3]; rfl
  have e3 : He.fAd K D.d.at_ = He.ga K D.d.name := by rw [h1]; rfl
  rw [e1, e2, e3] at F
  exact F
theorem law_at {l : PySem.W.OpenLaw} {G : Gs} {m : Nat} {Tb : Nat → Option Fn} {Ds : List Df} {fa : List He.Fa} {fn : List He.DefD} {ts : List He.Tab} {tf : List He.Defn} {ex : PySem.W.Frag → Bool} {wf j li nm : Nat} {x : Str} {w : World} {K : PySem.W.Frag} {h : Heap} {mg : Str → Option Value} {a : Addr}
    (L : LawF G m Tb Ds fa fn ts tf ex wf j li x nm) (KX : K.In h) (c : He.SaysX fa fn ts tf ex w h K) (G0 : h.Ns mainGlobals mg) (hmg : ∀ D, Ds[li]? = some D → mg D.d.name = some (.ref a)) : LamX.LawAtS l w K (L2.CX l.prog w) (2 * j) nm x mg a h := by
  have cd : He.SaysD fa fn K := c.t.d
  have ix : ∀ i, i < G.fns.length → ∃ D F fd, Ds[i]? = some D ∧ Tb i = some F ∧ dfB G m D F = true ∧ G.fns[i]? = some (D.d.name, F.np) ∧ FunD K D.d.name D.d.qual D.d.params D.d.body D.d.scope [] [] (He.ga K D.d.name) fd ∧ mg D.d.name = some (.ref (He.ga K D.d.name)) ∧ L2.Binds K fd D.ps [] ∧ D ∈ Ds := fun i hi => by
    have ha := L.all i hi
    unfold allB at ha
    split at ha
    · rename_i D hD
      split at ha
      · rename_i F hF
        rw [Bool.and_eq_true, decide_eq_true_eq] at ha
        have hm : D ∈ Ds := List.mem_of_getElem? hD
        obtain ⟨m1, m2, m3⟩ := L.mem D hm
        obtain ⟨fd, FD⟩ := funD_plain cd m1 m3
        exact ⟨D, F, fd, hD, hF, ha.1, ha.2, FD, He.glo_ok KX G0 (cd.facts m2), FD.bindsN (L.bnd D hm), hm⟩
      · cases ha
    · cases ha
  obtain ⟨DL, hDL, hps⟩ := L.law
  have hli : li < G.fns.length := by rw [L.len]; exact (List.getElem?_eq_some_iff.mp hDL).1
  obtain ⟨D, F, fd, e1, e2, e3, e4, e5, e6, e7, e8⟩ := ix li hli
  rw [hDL] at e1
  cases e1
  have ea : a = He.ga K DL.d.name := by
    have := hmg DL hDL
    rw [e6] at this
    exact (Value.ref.inj (Option.some.inj this)).symm
  refine ⟨fd, tf.map (He.cT K), spF (wdAt (tf.map fun p => (He.cT K p).2) Tb (xvOf G K) wf j) K F.np li, fun p hp => ?_, fun p hp => ?_, fun p hp => ?_, fun s u => ?_, fun H b ns hn hb hT hS => ?_, fun base KB GB TB => ?_⟩
  · obtain ⟨q, hq, e⟩ := List.mem_map.mp hp
    rw [← e]; exact c.empty q hq
  · obtain ⟨q, hq, e⟩ := List.mem_map.mp hp
    rw [← e]; exact c.out q hq
  · obtain ⟨q, hq, e⟩ := List.mem_map.mp hp
    rw [← e]; exact PySem.W.codeHd_of_K KX (c.hd q hq)
  · have := e5.bindsA (L.bnd DL e8) s [u] (by rw [hps]; rfl)
    rw [hps] at this
    exact this
  · have hnp : F.np = 1 := by
      unfold dfB at e3
      simp only [Bool.and_eq_true, decide_eq_true_eq] at e3
      rw [← e3.2.1, hps]; rfl
    refine ⟨fun _ => False, [.list (ns.map .int)], ⟨fun P hP => ?_, fun _ z => z.elim⟩, .cons ?_ .nil, by rw [hnp]; rfl, ?_⟩
    · obtain ⟨q, hq, e⟩ := List.mem_map.mp hP
      refine ⟨#[], ?_, True.intro⟩
      rw [← e]
      exact hT _ (mem_tab hq)
    · rcases hS with q | q
      · exact .lst q (fun z => z) (RpA.of_ints ns)
      · exact .lstK q (RpA.of_ints ns)
    · show OkR (callF Tb wf j li [.list (ns.map .int)]) _ _
      rw [L.ev ns hn hb]
      exact fun v H' _ r => r.bl_inv
  · have pg : Pg G m Tb Ds (tf.map fun p => (He.cT K p).2) (xvOf G K) wf l.prog w K mg base := by
      refine ⟨fun i hi => ?_, fun n i e => ?_, fun n i e => ?_, fun n hn => He.free_ok KX G0 (cd.facts (L.free n hn)), fun jj => ⟨fun i n e => ?_, fun i jx hi hj => ?_⟩, fun g kvs e => ?_⟩
      · obtain ⟨D', F', fd', f1, f2, f3, f4, f5, f6, f7, f8⟩ := ix i hi
        refine ⟨D', F', _, fd', f1, f2, f3, f4, f5, f6, f7, fun hg => ?_⟩
        have hin := L.gen D' f8 hg
        obtain ⟨oc, od, dV, kV, doc, pm, an, cdv, ct, osl, rfl, lk, hcd, _, _⟩ := f5.ex
        obtain ⟨cc, rfl⟩ := He.codeIn_ref hcd
        have ec : He.codeOf K (D'.d.name, none) = cc := He.codeOf_eq (p := (D'.d.name, none)) lk rfl
        refine ⟨cc, (He.cT K (D'.d.name, none)).2, rfl, ?_, List.mem_map.mpr ⟨_, hin, rfl⟩⟩
        have tb := TB _ (mem_tab (K := K) hin)
        have e9 : (He.cT K (D'.d.name, none)).1 = cc := ec
        rw [e9] at tb
        exact ⟨tb.code, tb.bm, tb.gP⟩
      · rcases L.con n _ e with ⟨i', ei, hi⟩ | ⟨i', ei, hi⟩
        · cases ei
          exact He.int_ok KX G0 (cd.facts hi)
        · cases ei
      · rcases L.con n _ e with ⟨i', ei, hi⟩ | ⟨i', ei, hi⟩
        · cases ei
        · cases ei
          exact He.str_ok KX G0 (cd.facts hi)
      · have hn : n ∈ G.excs := List.mem_of_getElem? e
        obtain ⟨x1, x2⟩ := L.exc n hn
        obtain ⟨y1, y2, y3, y4⟩ := He.exc_ok (cd.facts x1)
        refine ⟨He.ga K n, _, _, _, _, ?_, PySem.F.excBase_ValueError, y1, He.glo_ok KX G0 (cd.facts x2), y2, y3, y4⟩
        show xvOf G K i = _
        unfold xvOf
        rw [e]
      · have hi' : G.excs[i]? = some G.excs[i] := List.getElem?_eq_getElem hi
        have hj' : G.excs[jx]? = some G.excs[jx] := List.getElem?_eq_getElem hj
        have := He.exm_ok (cd.facts (L.exm i jx _ _ hi' hj'))
        show PySem.W.exmOne K (xvOf G K jx) (xvOf G K i) = _
        unfold xvOf
        rw [hi', hj']
        exact this
      · obtain ⟨h1, ⟨i, ks, h2⟩, h3⟩ := L.tabs g kvs e
        obtain ⟨es, n, KD⟩ := c.t.tab i h2
        refine ⟨He.ga K g, es, n, He.glo_ok KX G0 (cd.facts h1), KD, fun q hq => ?_⟩
        obtain ⟨u, e1, e2⟩ := He.valsB_ok (h3 K c.more) (q := (q.1, .int q.2)) (List.mem_map.mpr ⟨q, hq, rfl⟩)
        have e2 : RelV (.int q.2) u := e2
        obtain ⟨t, rfl⟩ := e2
        exact ⟨t, e1⟩
    rw [ea]
    have := all_ok pg j li hli DL (He.ga K DL.d.name) fd F hDL e2 e3 e4 e5 (fun hg => by
      obtain ⟨D', F', fa', fd', f1, f2, f3, f4, f5, f6, f7, f8⟩ := pg.df li hli
      rw [hDL] at f1
      cases f1
      have e9 : fa' = He.ga K DL.d.name := by
        rw [e6] at f6
        exact (Value.ref.inj (Option.some.inj f6)).symm
      subst e9
      obtain ⟨_, _, _, _, _, _, _, _, _, _, rfl, lk, _⟩ := f5.ex
      obtain ⟨_, _, _, _, _, _, _, _, _, _, rfl, lk', _⟩ := e5.ex
      rw [lk] at lk'
      cases lk'
      exact f8 hg)
    rw [hps] at this
    exact this
theorem cx_no {P : Program} {w : World} {outer : List Env} {H : Hp} {s : Shared} {e : Value} {s' : Shared} (h : L2.CX P w outer H s (fun _ _ _ => False) e s') : False := by
  obtain ⟨_, _, _, _, _, _, _, _, _, _, _, _, z⟩ :=
      h
  exact z
end ES
end

set_option Elab.async false
set_option linter.all false
set_option autoImplicit false
set_option maxRecDepth 100000
set_option maxHeartbeats 4000007
/-! EM: EV grows with what is known of calls and slots; slots that are not written stay. -/
noncomputable section
namespace EV
open PySem

def SLe (a b : SV) : Prop := a = b ∨ (a = .non ∧ ∀ ds, b ≠ .own ds)
structure ELe (e e' : List SV) : Prop where
  len : e.length = e'.length
  at_ : ∀ i, SLe (getS e i) (getS e' i)
def RLe (r r' : R) : Prop := r = .fail ∨ r' = r
def CLe (C C' : Nat → List PyData → R) : Prop := ∀ f ds, RLe (C f ds) (C' f ds)
theorem RLe.refl (r : R) : RLe r r := .inr rfl
theorem RLe.bind {a a' : R} {f f' : PyData → R} (h : RLe a a') (k : ∀ d, RLe (f d) (f' d)) : RLe (a.bind f) (a'.bind f') := by
  rcases h with h | h
  · subst h; exact .inl rfl
  · subst h
    cases a' with
    | ok d => exact k d
    | exc c => exact .inr rfl
    | fail => exact .inl rfl
theorem SLe.refl (a : SV) : SLe a a := .inl rfl
theorem ELe.refl (e : List SV) : ELe e e := ⟨rfl, fun i => .refl _⟩
theorem sl_len : ∀ (env : List SV) (i : Nat) (y : SV), (setS env i y).length = env.length
  | [], _, _ => rfl
  | _ :: _, 0, _ => rfl
  | x :: r, i + 1, y => congrArg Nat.succ (sl_len r i y)
theorem sl_same : ∀ {env : List SV} {i : Nat} {y : SV}, i < env.length → getS (setS env i y) i = y
  | [], _, _, h =>
      absurd h (Nat.not_lt_zero _)
  | _ :: _, 0, _, _ => rfl
  | _ :: r, i + 1, y, h => sl_same (env := r) (Nat.lt_of_succ_lt_succ h)
theorem sl_ne : ∀ {env : List SV} {i j : Nat} {y : SV}, i ≠ j → getS (setS env i y) j = getS env j
  | [], _, _, _, _ => rfl
  | _ :: _, 0, 0, _, h => absurd rfl h
  | _ :: _, 0, _ + 1, _, _ => rfl
  | _ :: _, _ + 1, 0, _, _ => rfl
  | _ :: r, i + 1, j + 1, y, h => sl_ne (env := r) fun e => h (congrArg Nat.succ e)
theorem sl_out : ∀ {env : List SV} {i : Nat}, ¬ i < env.length → getS env i = .non
  | [], _, _ => rfl
  | _ :: _, 0, h => absurd (Nat.succ_pos _) h
  | _ :: r, i + 1, h => sl_out (env := r) fun q => h (Nat.succ_lt_succ q)
theorem ELe.set {e e' : List SV} (h : ELe e e') (i : Nat) (y : SV) : ELe (setS e i y) (setS e' i y) := by
  refine ⟨by rw [sl_len, sl_len]; exact h.len, fun j => ?_⟩
  by_cases q : i = j
  · subst q
    by_cases l : i < e.length
    · rw [sl_same l, sl_same (by rw [← h.len]; exact l)]; exact .refl _
    · rw [sl_out (env := setS e i y) (by rw [sl_len]; exact l), sl_out (env := setS e' i y) (by rw [sl_len, ← h.len]; exact l)]; exact .refl _
  · rw [sl_ne q, sl_ne q]; exact h.at_ j
theorem ELe.wipe {e e' : List SV} (h : ELe e e') : ∀ vs, ELe (wipeS e vs) (wipeS e' vs)
  | [] => h
  | i :: vs => (ELe.wipe h vs).set i .non
theorem noOwn_le {e e' : List SV} (h : ELe e e') : ∀ {vs : List Nat}, noOwn e vs = true → noOwn e' vs = true
  | [], _ => rfl
  | i :: vs, q => by
    have q : (match getS e i with | .own _ => false | _ => noOwn e vs) = true := q
    show (match getS e' i with | .own _ => false | _ => noOwn e' vs) = true
    have hn : noOwn e vs = true → noOwn e' vs = true := noOwn_le h
    rcases h.at_ i with z | ⟨z, k⟩
    · rw [← z]
      split at q
      · cases q
      · exact hn q
    · rw [z] at q
      cases w : getS e' i with
      | own ds => exact absurd w (k ds)
      | val d => exact hn q
      | non => exact hn q
theorem bindP_le : ∀ (p : Pt) (d : PyData) {e e' e1 : List SV}, ELe e e' → bindP p d e = some e1 → ∃ e1', bindP p d e' = some e1' ∧ ELe e1 e1'
  | .nm i, d, e, e', e1, h, q => by
    have q : some (setS e i (.val d)) = some e1 := q
    cases q
    exact ⟨_, rfl, h.set i _⟩
  | .nil, d, e, e', e1, h, q => by
    cases d with
    | tuple ds =>
      cases ds with
      | nil => cases q; exact ⟨_, rfl, h⟩
      | cons x xs => cases q
    | _ => cases q
  | .cons a b, d, e, e', e1, h, q => by
    cases d with
    | tuple ds =>
      cases ds with
      | nil => cases q
      | cons x xs =>
        have q : (match bindP a x e with | some env1 => bindP b (.tuple xs) env1 | none => none) = some e1 := q
        cases ea : bindP a x e with
        | none => rw [ea] at q; cases q
        | some e2 =>
          rw [ea] at q
          obtain ⟨e2', h1, h2⟩ := bindP_le a x h ea
          obtain ⟨e1', h3, h4⟩ := bindP_le b (.tuple xs) h2 q
          refine ⟨e1', ?_, h4⟩
          show (match bindP a x e' with | some env1 => bindP b (.tuple xs) env1 | none => none) = some e1'
          rw [h1]; exact h3
    | _ => cases q
section
variable {bnd bnd' : PyData → Option (List SV)} {c c' y y' : List SV → R}
theorem compL_le (hb : ∀ d e, bnd d = some e → ∃ e', bnd' d = some e' ∧ ELe e e') (hc : ∀ e e', ELe e e' → RLe (c e) (c' e')) (hy : ∀ e e', ELe e e' → RLe (y e) (y' e')) : ∀ (xs : List PyData) (r : List PyData), compL bnd c y xs = some r → compL bnd' c' y' xs = some r
  | [], r, h => h
  | x :: xs, r, h => by
    have h : (match bnd x with
      | none => none
      | some env => match c env with
        | .ok (.bool true) => (match y env with | .ok z => (match compL bnd c y xs with | some r => some (z :: r) | none => none) | _ => none)
        | .ok (.bool false) => compL bnd c y xs
        | _ => none) = some r := h
    show (match bnd' x with
      | none => none
      | some env => match c' env with
        | .ok (.bool true) => (match y' env with | .ok z => (match compL bnd' c' y' xs with | some r => some (z :: r) | none => none) | _ => none)
        | .ok (.bool false) => compL bnd' c' y' xs
        | _ => none) = some r
    have ih := compL_le hb hc hy xs
    cases e1 : bnd x with
    | none => rw [e1] at h; cases h
    | some e =>
      rw [e1] at h
      obtain ⟨e', b1, b2⟩ := hb x e e1
      rw [b1]
      dsimp only at h ⊢
      rcases hc e e' b2 with z | z
      · rw [z] at h; cases h
      · rw [z]
        split at h
        · rcases hy e e' b2 with w | w
          · rw [w] at h; cases h
          · rw [w]
            split at h
            · split at h
              · rename_i r0 er
                cases h
                rw [ih _ er]
              · cases h
            · cases h
        · exact ih r h
        · cases h
theorem genL_le {all : Bool} (hb : ∀ d e, bnd d = some e → ∃ e', bnd' d = some e' ∧ ELe e e') (hc : ∀ e e', ELe e e' → RLe (c e) (c' e')) (hy : ∀ e e', ELe e e' → RLe (y e) (y' e')) : ∀ (xs : List PyData), RLe (genL all bnd c y xs) (genL all bnd' c' y' xs)
  | [] => .refl _
  | x :: xs => by
    have ih := genL_le (all := all) hb hc hy xs
    show RLe (match bnd x with
      | none => .fail
      | some env => match c env with
        | .ok (.bool true) => (match y env with
          | .ok (.bool true) => (match (generalizing := false) all with | true => genL all bnd c y xs | false => rb true)
          | .ok (.bool false) => (match (generalizing := false) all with | true => rb false | false => genL all bnd c y xs)
          | _ => .fail)
        | .ok (.bool false) => genL all bnd c y xs
        | _ => .fail) (match bnd' x with
      | none => .fail
      | some env => match c' env with
        | .ok (.bool true) => (match y' env with
          | .ok (.bool true) => (match (generalizing := false) all with | true => genL all bnd' c' y' xs | false => rb true)
          | .ok (.bool false) => (match (generalizing := false) all with | true => rb false | false => genL all bnd' c' y' xs)
          | _ => .fail)
        | .ok (.bool false) => genL all bnd' c' y' xs
        | _ => .fail)
    cases e1 : bnd x with
    | none => exact .inl rfl
    | some e =>
      obtain ⟨e', b1, b2⟩ := hb x e e1
      rw [b1]
      dsimp only
      rcases hc e e' b2 with z | z
      · rw [z]; exact .inl rfl
      · rw [z]
        split
        · rcases hy e e' b2 with w | w
          · rw [w]; exact .inl rfl
          · rw [w]
            split
            · cases all with
              | true => exact ih
              | false => exact .refl _
            · cases all with
              | true => exact .refl _
              | false => exact ih
            · exact .refl _
        · exact ih
        · exact .refl _
end
theorem comp2L_le {bnd bnd' : PyData → Option (List SV)} {c c' : List SV → Option (List PyData)} (hb : ∀ d e, bnd d = some e → ∃ e', bnd' d = some e' ∧ ELe e e') (hc : ∀ e e' ys, ELe e e' → c e = some ys → c' e' = some ys) : ∀ (xs : List PyData) (r : List PyData), comp2L bnd c xs = some r → comp2L bnd' c' xs = some r
  | [], r, h => h
  | x :: xs, r, h => by
    have h : (match bnd x with
      | none => none
      | some env => match c env with
        | some ys => (match comp2L bnd c xs with | some r => some (ys ++ r) | none => none)
        | none => none) = some r := h
    show (match bnd' x with
      | none => none
      | some env => match c' env with
        | some ys => (match comp2L bnd' c' xs with | some r => some (ys ++ r) | none => none)
        | none => none) = some r
    have ih := comp2L_le hb hc xs
    cases e1 : bnd x with
    | none => rw [e1] at h; cases h
    | some e =>
      rw [e1] at h
      obtain ⟨e', b1, b2⟩ := hb x e e1
      rw [b1]
      dsimp only at h ⊢
      cases e2 : c e with
      | none => rw [e2] at h; cases h
      | some ys =>
        rw [e2] at h
        rw [hc e e' ys b2 e2]
        dsimp only at h ⊢
        cases e3 : comp2L bnd c xs with
        | none => rw [e3] at h; cases h
        | some r' =>
          rw [e3] at h
          rw [ih r' e3]
          exact h
theorem ev_le {C C' : Nat → List PyData → R} (hC : CLe C C') (x : X) : ∀ {e e' : List SV}, ELe e e' → RLe (ev C x e) (ev C' x e') := by
  induction x with
  | v i =>
    intro e e' h
    show RLe (match getS e i with | .val d => .ok d | _ => .fail) (match getS e' i with | .val d => .ok d | _ => .fail)
    rcases h.at_ i with z | ⟨z, _⟩
    · rw [z]; exact .refl _
    · rw [z]; exact .inl rfl
  | pk i =>
    intro e e' h
    show RLe (match getS e i with | .val d => .ok d | .own (.lst ds) => .ok (.list ds) | _ => .fail) (match getS e' i with | .val d => .ok d | .own (.lst ds) => .ok (.list ds) | _ => .fail)
    rcases h.at_ i with z | ⟨z, _⟩
    · rw [z]; exact .refl _
    · rw [z]; exact .inl rfl
  | c d => intro e e' h; exact .refl _
  | nil => intro e e' h; exact .refl _
  | cons a b iha ihb => intro e e' h; exact (iha h).bind fun d => (ihb h).bind fun d' => .refl _
  | lst a iha => intro e e' h; exact (iha h).bind fun d => .refl _
  | bin o a b iha ihb => intro e e' h; exact (iha h).bind fun d => (ihb h).bind fun d' => .refl _
  | neg a iha => intro e e' h; exact (iha h).bind fun d => .refl _
  | no a iha => intro e e' h; exact (iha h).bind fun d => .refl _
  | and a b iha ihb =>
    intro e e' h
    refine (iha h).bind fun d => ?_
    cases d with
    | bool k => cases k <;> first | exact ihb h | exact .refl _
    | _ => exact .refl _
  | or a b iha ihb =>
    intro e e' h
    refine (iha h).bind fun d => ?_
    cases d with
    | bool k => cases k <;> first | exact ihb h | exact .refl _
    | _ => exact .refl _
  | cmp o a b iha ihb => intro e e' h; exact (iha h).bind fun d => (ihb h).bind fun d' => .refl _
  | chn o p a b c iha ihb ihc =>
    intro e e' h
    refine (iha h).bind fun d => (ihb h).bind fun d' => RLe.bind (.refl _) fun r => ?_
    cases r with
    | bool k => cases k <;> first | exact (ihc h).bind fun z => .refl _ | exact .refl _
    | _ => exact .refl _
  | ite c a b ihc iha ihb =>
    intro e e' h
    refine (ihc h).bind fun d => ?_
    cases d with
    | bool k =>
      cases k
      · exact ihb h
      · exact iha h
    | _ => exact .refl _
  | ix a b iha ihb => intro e e' h; exact (iha h).bind fun d => (ihb h).bind fun d' => .refl _
  | sl a lo hi iha ihl ihh => intro e e' h; exact (iha h).bind fun d => (ihl h).bind fun d' => (ihh h).bind fun d'' => .refl _
  | call f a iha =>
    intro e e' h
    refine (iha h).bind fun d => ?_
    cases d with
    | tuple xs => exact hC f xs
    | _ => exact .refl _
  | blt f a iha => intro e e' h; exact (iha h).bind fun d => .refl _
  | rng a b iha ihb => intro e e' h; exact (iha h).bind fun d => (ihb h).bind fun d' => .refl _
  | rev a iha => intro e e' h; exact (iha h).bind fun d => .refl _
  | comp p it cond elt own ihi ihc ihe =>
    intro e e' h
    refine (ihi h).bind fun d => ?_
    show RLe (match itemsF d with | some xs => (match fitN (lenF xs) && noOwn e own with | true => lstR (compL (fun d => bindP p d (wipeS e own)) (ev C cond) (ev C elt) xs) | false => .fail) | none => .fail)
      (match itemsF d with | some xs => (match fitN (lenF xs) && noOwn e' own with | true => lstR (compL (fun d => bindP p d (wipeS e' own)) (ev C' cond) (ev C' elt) xs) | false => .fail) | none => .fail)
    cases itemsF d with
    | none => exact .refl _
    | some xs =>
      dsimp only
      cases q : fitN (lenF xs) && noOwn e own with
      | false => exact .inl rfl
      | true =>
        rw [Bool.and_eq_true] at q
        rw [q.1, noOwn_le h q.2]
        dsimp only [Bool.and_self]
        cases r : compL (fun d => bindP p d (wipeS e own)) (ev C cond) (ev C elt) xs with
        | none => exact .inl rfl
        | some ys =>
          rw [compL_le (fun d e1 z => bindP_le p d (h.wipe own) z) (fun _ _ z => ihc z) (fun _ _ z => ihe z) xs ys r]
          exact .refl _
  | gen all p it cond elt own ihi ihc ihe =>
    intro e e' h
    refine (ihi h).bind fun d => ?_
    show RLe (match itemsF d with | some xs => (match fitN (lenF xs) && noOwn e own with | true => genL all (fun d => bindP p d (wipeS e own)) (ev C cond) (ev C elt) xs | false => .fail) | none => .fail)
      (match itemsF d with | some xs => (match fitN (lenF xs) && noOwn e' own with | true => genL all (fun d => bindP p d (wipeS e' own)) (ev C' cond) (ev C' elt) xs | false => .fail) | none => .fail)
    cases itemsF d with
    | none => exact .refl _
    | some xs =>
      dsimp only
      cases q : fitN (lenF xs) && noOwn e own with
      | false => exact .inl rfl
      | true =>
        rw [Bool.and_eq_true] at q
        rw [q.1, noOwn_le h q.2]
        exact genL_le (fun d e1 z => bindP_le p d (h.wipe own) z) (fun _ _ z => ihc z) (fun _ _ z => ihe z) xs
  | kin neg kvs a iha => intro e e' h; exact (iha h).bind fun d => .refl _
  | kget kvs a iha => intro e e' h; exact (iha h).bind fun d => .refl _
  | spl a b iha ihb =>
    intro e e' h
    refine (iha h).bind fun d => ?_
    cases d with
    | str z => exact (ihb h).bind fun y => .refl _
    | _ => exact .refl _
  | lix a b iha ihb =>
    intro e e' h
    refine (iha h).bind fun d => ?_
    cases d with
    | list z => exact (ihb h).bind fun y => .refl _
    | _ => exact .refl _
  | rep a b iha ihb => intro e e' h; exact (iha h).bind fun d => (ihb h).bind fun d' => .refl _
  | comp2 p it q it2 cond elt own ihi ihi2 ihc ihe =>
    intro e e' h
    refine (ihi h).bind fun d => ?_
    let inn : (Nat → List PyData → R) → List SV → Option (List PyData) := fun C env1 => match ev C it2 env1 with
          | .ok y => (match itemsF y with
            | some ys => (match noOwn env1 (slP q) with | true => compL (fun d => bindP q d (wipeS env1 (slP q))) (ev C cond) (ev C elt) ys | false => none)
            | none => none)
          | _ => none
    have hin : ∀ e e' ys, ELe e e' → inn C e = some ys → inn C' e' = some ys := fun e e' ys h q1 => by
      have q1 : (match ev C it2 e with
          | .ok y => (match itemsF y with
            | some ys => (match noOwn e (slP q) with | true => compL (fun d => bindP q d (wipeS e (slP q))) (ev C cond) (ev C elt) ys | false => none)
            | none => none)
          | _ => none) = some ys := q1
      show (match ev C' it2 e' with
          | .ok y => (match itemsF y with
            | some ys => (match noOwn e' (slP q) with | true => compL (fun d => bindP q d (wipeS e' (slP q))) (ev C' cond) (ev C' elt) ys | false => none)
            | none => none)
          | _ => none) = some ys
      rcases ihi2 h with w | w
      · rw [w] at q1; cases q1
      · rw [w]
        split at q1
        · split at q1
          · split at q1
            · rename_i hno
              rw [noOwn_le h hno]
              exact compL_le (fun d e1 z => bindP_le q d (h.wipe (slP q)) z) (fun _ _ z => ihc z) (fun _ _ z => ihe z) _ _ q1
            · cases q1
          · cases q1
        · cases q1
    show RLe (match itemsF d with
      | some xs => (match fitN (lenF xs) && noOwn e own with
        | true => (match comp2L (fun d => bindP p d (wipeS e own)) (inn C) xs with
          | some zs => (match fitN (lenF zs) with | true => .ok (.list zs) | false => .fail)
          | none => .fail)
        | false => .fail)
      | none => .fail) (match itemsF d with
      | some xs => (match fitN (lenF xs) && noOwn e' own with
        | true => (match comp2L (fun d => bindP p d (wipeS e' own)) (inn C') xs with
          | some zs => (match fitN (lenF zs) with | true => .ok (.list zs) | false => .fail)
          | none => .fail)
        | false => .fail)
      | none => .fail)
    cases itemsF d with
    | none => exact .refl _
    | some xs =>
      dsimp only
      cases q1 : fitN (lenF xs) && noOwn e own with
      | false => exact .inl rfl
      | true =>
        rw [Bool.and_eq_true] at q1
        rw [q1.1, noOwn_le h q1.2]
        dsimp only [Bool.and_self]
        cases r : comp2L (fun d => bindP p d (wipeS e own)) (inn C) xs with
        | none => exact .inl rfl
        | some ys =>
          rw [comp2L_le (fun d e1 z => bindP_le p d (h.wipe own) z) hin xs ys r]
          exact .refl _
/-! ### statements -/
def RSLe (r r' : RS) : Prop := match r with
  | .fail => True
  | .next e => ∃ e', r' = .next e' ∧ ELe e e'
  | .brk e => ∃ e', r' = .brk e' ∧ ELe e e'
  | .cont e => ∃ e', r' = .cont e' ∧ ELe e e'
  | .ret d => r' = .ret d
  | .exc c e => ∃ e', r' = .exc c e' ∧ ELe e e'
theorem RSLe.fail (r : RS) : RSLe .fail r := True.intro
theorem RLe.st {r r' : R} {e e' : List SV} {f f' : PyData → RS} (h : RLe r r') (he : ELe e e') (k : ∀ d, RSLe (f d) (f' d)) : RSLe (r.st e f) (r'.st e' f') := by
  rcases h with h | h
  · subst h; exact True.intro
  · subst h
    cases r' with
    | ok d => exact k d
    | exc c => exact ⟨e', rfl, he⟩
    | fail => exact True.intro
theorem opt_le {p : Pt} {d : PyData} {e e' : List SV} (h : ELe e e') : RSLe (optS (bindP p d e)) (optS (bindP p d e')) := by
  cases q : bindP p d e with
  | none => exact True.intro
  | some e1 =>
    obtain ⟨e1', h1, h2⟩ := bindP_le p d h q
    rw [h1]
    exact ⟨e1', rfl, h2⟩
theorem own_at {e e' : List SV} (h : ELe e e') {i : Nat} {xs : OV} (q : getS e i = .own xs) : getS e' i = .own xs := by
  rcases h.at_ i with z | ⟨z, _⟩
  · rw [← z]; exact q
  · rw [z] at q; cases q
theorem val_at {e e' : List SV} (h : ELe e e') {i : Nat} {d : PyData} (q : getS e i = .val d) : getS e' i = .val d := by
  rcases h.at_ i with z | ⟨z, _⟩
  · rw [← z]; exact q
  · rw [z] at q; cases q
theorem forL_le {p : Pt} {b b' : List SV → RS} (hb : ∀ e e', ELe e e' → RSLe (b e) (b' e')) : ∀ (xs : List PyData) {e e' : List SV}, ELe e e' → RSLe (forL p b xs e) (forL p b' xs e')
  | [], e, e', h => ⟨e', rfl, h⟩
  | x :: xs, e, e', h => by
    show RSLe (match bindP p x e with
      | none => .fail
      | some env1 => match b env1 with
        | .next env2 => forL p b xs env2
        | .cont env2 => forL p b xs env2
        | .brk env2 => .next env2
        | .ret d => .ret d
        | .exc c env2 => .exc c env2
        | .fail => .fail) (match bindP p x e' with
      | none => .fail
      | some env1 => match b' env1 with
        | .next env2 => forL p b' xs env2
        | .cont env2 => forL p b' xs env2
        | .brk env2 => .next env2
        | .ret d => .ret d
        | .exc c env2 => .exc c env2
        | .fail => .fail)
    cases q : bindP p x e with
    | none => exact True.intro
    | some e1 =>
      obtain ⟨e1', h1, h2⟩ := bindP_le p x h q
      rw [h1]
      dsimp only
      have k := hb e1 e1' h2
      cases r : b e1 with
      | fail => exact True.intro
      | next e2 =>
        rw [r] at k
        obtain ⟨e2', k1, k2⟩ := k
        rw [k1]; exact forL_le hb xs k2
      | cont e2 =>
        rw [r] at k
        obtain ⟨e2', k1, k2⟩ := k
        rw [k1]; exact forL_le hb xs k2
      | brk e2 =>
        rw [r] at k
        obtain ⟨e2', k1, k2⟩ := k
        rw [k1]; exact ⟨e2', rfl, k2⟩
      | ret d => rw [r] at k; have k : b' e1' = .ret d := k; rw [k]; exact rfl
      | exc c e2 =>
        rw [r] at k
        obtain ⟨e2', k1, k2⟩ := k
        rw [k1]; exact ⟨e2', rfl, k2⟩
theorem whlL_le {c c' : List SV → R} {b b' : List SV → RS} (hc : ∀ e e', ELe e e' → RLe (c e) (c' e')) (hb : ∀ e e', ELe e e' → RSLe (b e) (b' e')) : ∀ (n : Nat) {e e' : List SV}, ELe e e' → RSLe (whlL c b n e) (whlL c' b' n e')
  | 0, e, e', h => True.intro
  | n + 1, e, e', h => by
    refine (hc e e' h).st h fun d => ?_
    cases d with
    | bool k =>
      cases k with
      | false => exact ⟨e', rfl, h⟩
      | true =>
        have k := hb e e' h
        show RSLe (match b e with
          | .next env2 => whlL c b n env2
          | .cont env2 => whlL c b n env2
          | .brk env2 => .next env2
          | .ret d => .ret d
          | .exc c env2 => .exc c env2
          | .fail => .fail) (match b' e' with
          | .next env2 => whlL c' b' n env2
          | .cont env2 => whlL c' b' n env2
          | .brk env2 => .next env2
          | .ret d => .ret d
          | .exc c env2 => .exc c env2
          | .fail => .fail)
        cases r : b e with
        | fail => exact True.intro
        | next e2 =>
          rw [r] at k
          obtain ⟨e2', k1, k2⟩ := k
          rw [k1]; exact whlL_le hc hb n k2
        | cont e2 =>
          rw [r] at k
          obtain ⟨e2', k1, k2⟩ := k
          rw [k1]; exact whlL_le hc hb n k2
        | brk e2 =>
          rw [r] at k
          obtain ⟨e2', k1, k2⟩ := k
          rw [k1]; exact ⟨e2', rfl, k2⟩
        | ret d => rw [r] at k; have k : b' e' = .ret d := k; rw [k]; exact rfl
        | exc c e2 =>
          rw [r] at k
          obtain ⟨e2', k1, k2⟩ := k
          rw [k1]; exact ⟨e2', rfl, k2⟩
    | _ => exact True.intro
theorem ex_le {C C' : Nat → List PyData → R} (hC : CLe C C') (wf : Nat) (s : S) : ∀ {e e' : List SV}, ELe e e' → RSLe (ex C wf s e) (ex C' wf s e') := by
  induction s with
  | skip => intro e e' h; exact ⟨e', rfl, h⟩
  | seq a b iha ihb =>
    intro e e' h
    have k := iha h
    show RSLe (match ex C wf a e with
      | .next env1 => ex C wf b env1
      | .brk e => .brk e | .cont e => .cont e | .ret d => .ret d | .exc c e => .exc c e | .fail => .fail) (match ex C' wf a e' with
      | .next env1 => ex C' wf b env1
      | .brk e => .brk e | .cont e => .cont e | .ret d => .ret d | .exc c e => .exc c e | .fail => .fail)
    cases r : ex C wf a e with
    | fail => exact True.intro
    | next e2 =>
      rw [r] at k
      obtain ⟨e2', k1, k2⟩ := k
      rw [k1]; exact ihb k2
    | cont e2 =>
      rw [r] at k
      obtain ⟨e2', k1, k2⟩ := k
      rw [k1]; exact ⟨e2', rfl, k2⟩
    | brk e2 =>
      rw [r] at k
      obtain ⟨e2', k1, k2⟩ := k
      rw [k1]; exact ⟨e2', rfl, k2⟩
    | ret d => rw [r] at k; have k : ex C' wf a e' = .ret d := k; rw [k]; exact rfl
    | exc c e2 =>
      rw [r] at k
      obtain ⟨e2', k1, k2⟩ := k
      rw [k1]; exact ⟨e2', rfl, k2⟩
  | set p x => intro e e' h; exact (ev_le hC x h).st h fun d => opt_le h
  | setO i x =>
    intro e e' h
    refine (ev_le hC x h).st h fun d => ?_
    cases d with
    | list xs => exact ⟨_, rfl, h.set i _⟩
    | _ => exact True.intro
  | aug i o x =>
    intro e e' h
    show RSLe (match getS e i with
      | .val (.int a) => (ev C x e).st e fun y => (match y with | .int b => (binF o (.int a) (.int b)).st e fun z => .next (setS e i (.val z)) | _ => .fail)
      | _ => .fail) (match getS e' i with
      | .val (.int a) => (ev C' x e').st e' fun y => (match y with | .int b => (binF o (.int a) (.int b)).st e' fun z => .next (setS e' i (.val z)) | _ => .fail)
      | _ => .fail)
    cases q : getS e i with
    | val d =>
      rw [val_at h q]
      cases d with
      | int a =>
        refine (ev_le hC x h).st h fun y => ?_
        cases y with
        | int b => exact (RLe.refl _).st h fun z => ⟨_, rfl, h.set i _⟩
        | _ => exact True.intro
      | _ => exact True.intro
    | own ds => exact True.intro
    | non => exact True.intro
  | setIx i a x =>
    intro e e' h
    show RSLe (match getS e i with
      | .own (.lst xs) => (ev C x e).st e fun y => (ev C a e).st e fun k => (match k with
        | .int j => (match small j with | true => (match setL xs (ixI (lenF xs) j) y with | some ys => .next (setS e i (.own (.lst ys))) | none => .fail) | false => .fail)
        | _ => .fail)
      | _ => .fail) (match getS e' i with
      | .own (.lst xs) => (ev C' x e').st e' fun y => (ev C' a e').st e' fun k => (match k with
        | .int j => (match small j with | true => (match setL xs (ixI (lenF xs) j) y with | some ys => .next (setS e' i (.own (.lst ys))) | none => .fail) | false => .fail)
        | _ => .fail)
      | _ => .fail)
    cases q : getS e i with
    | own o =>
      rw [own_at h q]
      cases o with
      | ll dss => exact True.intro
      | lst xs =>
      refine (ev_le hC x h).st h fun y => (ev_le hC a h).st h fun k => ?_
      cases k with
      | int j =>
        dsimp only
        split
        · split
          · exact ⟨_, rfl, h.set i _⟩
          · exact True.intro
        · exact True.intro
      | _ => exact True.intro
    | val d => exact True.intro
    | non => exact True.intro
  | app i x =>
    intro e e' h
    show RSLe (match getS e i with
      | .own (.lst xs) => (ev C x e).st e fun y => (match fitN (lenF xs) with | true => .next (setS e i (.own (.lst (xs ++ [y])))) | false => .fail)
      | _ => .fail) (match getS e' i with
      | .own (.lst xs) => (ev C' x e').st e' fun y => (match fitN (lenF xs) with | true => .next (setS e' i (.own (.lst (xs ++ [y])))) | false => .fail)
      | _ => .fail)
    cases q : getS e i with
    | own o =>
      rw [own_at h q]
      cases o with
      | ll dss => exact True.intro
      | lst xs =>
      refine (ev_le hC x h).st h fun y => ?_
      split
      · exact ⟨_, rfl, h.set i _⟩
      · exact True.intro
    | val d => exact True.intro
    | non => exact True.intro
  | pop p i =>
    intro e e' h
    show RSLe (match getS e i with
      | .own (.lst xs) => (match popL xs with | some (ys, y) => optS (bindP p y (setS e i (.own (.lst ys)))) | none => .fail)
      | _ => .fail) (match getS e' i with
      | .own (.lst xs) => (match popL xs with | some (ys, y) => optS (bindP p y (setS e' i (.own (.lst ys)))) | none => .fail)
      | _ => .fail)
    cases q : getS e i with
    | own o =>
      rw [own_at h q]
      cases o with
      | ll dss => exact True.intro
      | lst xs =>
      dsimp only
      split
      · exact opt_le (h.set i _)
      · exact True.intro
    | val d => exact True.intro
    | non => exact True.intro
  | setLL i x =>
    intro e e' h
    refine (ev_le hC x h).st h fun d => ?_
    cases d with
    | list xs =>
      show RSLe (match lists xs with | some dss => .next (setS e i (.own (.ll dss))) | none => .fail) (match lists xs with | some dss => .next (setS e' i (.own (.ll dss))) | none => .fail)
      cases lists xs with
      | none => exact True.intro
      | some dss => exact ⟨_, rfl, h.set i _⟩
    | _ => exact True.intro
  | set2 i a b x =>
    intro e e' h
    show RSLe (match getS e i with
      | .own (.ll dss) => (ev C x e).st e fun y => (ev C a e).st e fun k => (match k with
        | .int k => (match small k with
          | true => (match nthLL dss (ixI (lenLL dss) k) with
            | some ds => (ev C b e).st e fun l => (match l with
              | .int l => (match small l with
                | true => (match setL ds (ixI (lenF ds) l) y with
                  | some ds' => .next (setS e i (.own (.ll (putLL dss (ixI (lenLL dss) k) ds'))))
                  | none => .fail)
                | false => .fail)
              | _ => .fail)
            | none => .fail)
          | false => .fail)
        | _ => .fail)
      | _ => .fail) (match getS e' i with
      | .own (.ll dss) => (ev C' x e').st e' fun y => (ev C' a e').st e' fun k => (match k with
        | .int k => (match small k with
          | true => (match nthLL dss (ixI (lenLL dss) k) with
            | some ds => (ev C' b e').st e' fun l => (match l with
              | .int l => (match small l with
                | true => (match setL ds (ixI (lenF ds) l) y with
                  | some ds' => .next (setS e' i (.own (.ll (putLL dss (ixI (lenLL dss) k) ds'))))
                  | none => .fail)
                | false => .fail)
              | _ => .fail)
            | none => .fail)
          | false => .fail)
        | _ => .fail)
      | _ => .fail)
    cases q : getS e i with
    | own o =>
      rw [own_at h q]
      cases o with
      | lst xs => exact True.intro
      | ll dss =>
        refine (ev_le hC x h).st h fun y => (ev_le hC a h).st h fun k => ?_
        cases k with
        | int k =>
          dsimp only
          split
          · split
            · refine (ev_le hC b h).st h fun l => ?_
              cases l with
              | int l =>
                dsimp only
                split
                · split
                  · exact ⟨_, rfl, h.set i _⟩
                  · exact True.intro
                · exact True.intro
              | _ => exact True.intro
            · exact True.intro
          · exact True.intro
        | _ => exact True.intro
    | val d => exact True.intro
    | non => exact True.intro
  | swp i a b x y =>
    intro e e' h
    refine (ev_le hC x h).st h fun u => (ev_le hC y h).st h fun w => ?_
    show RSLe (match getS e i with
      | .own (.lst xs) => (ev C a e).st e fun k => (match k with
        | .int k => (match small k with
          | true => (match setL xs (ixI (lenF xs) k) u with
            | some xs1 => (match ev C b (setS e i (.own (.lst xs1))) with
              | .ok (.int l) => (match small l with
                | true => (match setL xs1 (ixI (lenF xs1) l) w with
                  | some xs2 => .next (setS e i (.own (.lst xs2)))
                  | none => .fail)
                | false => .fail)
              | _ => .fail)
            | none => .fail)
          | false => .fail)
        | _ => .fail)
      | _ => .fail) (match getS e' i with
      | .own (.lst xs) => (ev C' a e').st e' fun k => (match k with
        | .int k => (match small k with
          | true => (match setL xs (ixI (lenF xs) k) u with
            | some xs1 => (match ev C' b (setS e' i (.own (.lst xs1))) with
              | .ok (.int l) => (match small l with
                | true => (match setL xs1 (ixI (lenF xs1) l) w with
                  | some xs2 => .next (setS e' i (.own (.lst xs2)))
                  | none => .fail)
                | false => .fail)
              | _ => .fail)
            | none => .fail)
          | false => .fail)
        | _ => .fail)
      | _ => .fail)
    cases q : getS e i with
    | own o =>
      rw [own_at h q]
      cases o with
      | ll dss => exact True.intro
      | lst xs =>
        refine (ev_le hC a h).st h fun k => ?_
        cases k with
        | int k =>
          dsimp only
          split
          · split
            · rename_i xs1 _
              rcases ev_le hC b (h.set i (.own (.lst xs1))) with z | z
              · rw [z]; exact True.intro
              · rw [z]
                split
                · split
                  · split
                    · exact ⟨_, rfl, h.set i _⟩
                    · exact True.intro
                  · exact True.intro
                · exact True.intro
            · exact True.intro
          · exact True.intro
        | _ => exact True.intro
    | val d => exact True.intro
    | non => exact True.intro
  | appPop i j x =>
    intro e e' h
    show RSLe (match getS e i, getS e j with
      | .own (.lst xs), .own (.lst ys) => (match Nat.beq i j with
        | true => .fail
        | false => (ev C x e).st e fun k => (match k with
          | .int k => (match small k && fitN (lenF xs) with | true => (match takeL ys (ixI (lenF ys) k) with | some (y, zs) => .next (setS (setS e j (.own (.lst zs))) i (.own (.lst (xs ++ [y])))) | none => .fail) | false => .fail)
          | _ => .fail))
      | _, _ => .fail) (match getS e' i, getS e' j with
      | .own (.lst xs), .own (.lst ys) => (match Nat.beq i j with
        | true => .fail
        | false => (ev C' x e').st e' fun k => (match k with
          | .int k => (match small k && fitN (lenF xs) with | true => (match takeL ys (ixI (lenF ys) k) with | some (y, zs) => .next (setS (setS e' j (.own (.lst zs))) i (.own (.lst (xs ++ [y])))) | none => .fail) | false => .fail)
          | _ => .fail))
      | _, _ => .fail)
    split
    · rename_i xs ys oi oj
      rw [own_at h oi, own_at h oj]
      dsimp only
      cases Nat.beq i j with
      | true => exact True.intro
      | false =>
        refine (ev_le hC x h).st h fun k => ?_
        cases k with
        | int k =>
          dsimp only
          split
          · split
            · exact ⟨_, rfl, (h.set j _).set i _⟩
            · exact True.intro
          · exact True.intro
        | _ => exact True.intro
    · exact True.intro
  | expr x => intro e e' h; exact (ev_le hC x h).st h fun d => ⟨_, rfl, h⟩
  | ifS c a b iha ihb =>
    intro e e' h
    refine (ev_le hC c h).st h fun d => ?_
    cases d with
    | bool k => cases k <;> first | exact iha h | exact ihb h
    | _ => exact True.intro
  | «for» p it b ihb =>
    intro e e' h
    refine (ev_le hC it h).st h fun d => ?_
    show RSLe (match itemsF d with | some xs => forL p (ex C wf b) xs e | none => .fail) (match itemsF d with | some xs => forL p (ex C' wf b) xs e' | none => .fail)
    cases itemsF d with
    | none => exact True.intro
    | some xs => exact forL_le (fun _ _ z => ihb z) xs h
  | whl c b ihb => intro e e' h; exact whlL_le (fun _ _ z => ev_le hC c z) (fun _ _ z => ihb z) wf h
  | brk => intro e e' h; exact ⟨_, rfl, h⟩
  | cont => intro e e' h; exact ⟨_, rfl, h⟩
  | ret x => intro e e' h; exact (ev_le hC x h).st h fun d => rfl
  | rse c => intro e e' h; exact ⟨_, rfl, h⟩
  | tryS b c n t ihb iht =>
    intro e e' h
    have k := ihb h
    show RSLe (match ex C wf b e with
      | .exc c' e => (match Nat.beq c c' with | true => ex C wf t e | false => (match Nat.blt c' n with | true => .exc c' e | false => .fail))
      | r => r) (match ex C' wf b e' with
      | .exc c' e => (match Nat.beq c c' with | true => ex C' wf t e | false => (match Nat.blt c' n with | true => .exc c' e | false => .fail))
      | r => r)
    cases r : ex C wf b e with
    | fail => exact True.intro
    | next e2 =>
      rw [r] at k
      obtain ⟨e2', k1, k2⟩ := k
      rw [k1]; exact ⟨e2', rfl, k2⟩
    | cont e2 =>
      rw [r] at k
      obtain ⟨e2', k1, k2⟩ := k
      rw [k1]; exact ⟨e2', rfl, k2⟩
    | brk e2 =>
      rw [r] at k
      obtain ⟨e2', k1, k2⟩ := k
      rw [k1]; exact ⟨e2', rfl, k2⟩
    | ret d => rw [r] at k; have k : ex C' wf b e' = .ret d := k; rw [k]; exact rfl
    | exc c' e2 =>
      rw [r] at k
      obtain ⟨e2', k1, k2⟩ := k
      rw [k1]
      dsimp only
      split
      · exact iht k2
      · split
        · exact ⟨e2', rfl, k2⟩
        · exact True.intro
  | frz i =>
    intro e e' h
    show RSLe (match getS e i with | .own (.lst xs) => .next (setS e i (.val (.list xs))) | .own (.ll xss) => .next (setS e i (.val (.list (xss.map .list)))) | _ => .next e) (match getS e' i with | .own (.lst xs) => .next (setS e' i (.val (.list xs))) | .own (.ll xss) => .next (setS e' i (.val (.list (xss.map .list)))) | _ => .next e')
    rcases h.at_ i with z | ⟨z, k⟩
    · rw [← z]
      split
      · exact ⟨_, rfl, h.set i _⟩
      · exact ⟨_, rfl, h.set i _⟩
      · exact ⟨_, rfl, h⟩
    · rw [z]
      cases q : getS e' i with
      | own ds => exact absurd q (k ds)
      | val d => exact ⟨_, rfl, h⟩
      | non => exact ⟨_, rfl, h⟩
/-- calls grow with what is known -/
theorem callF_le {T : Nat → Option Fn} {wf : Nat} : ∀ (k j : Nat), CLe (callF T wf k) (callF T wf (k + j))
  | 0, j => fun f ds => .inl rfl
  | k + 1, j => fun f ds => by
    have e : k + 1 + j = (k + j) + 1 := by omega
    rw [e]
    show RLe (match T f with
      | none => .fail
      | some F => match Nat.beq (lenF ds) F.np with
        | false => .fail
        | true => match ex (callF T wf k) wf F.body (argS ds (Nat.sub F.ns F.np)) with
          | .next _ => .ok .none
          | .ret d => .ok d
          | .exc c _ => .exc c
          | _ => .fail) (match T f with
      | none => .fail
      | some F => match Nat.beq (lenF ds) F.np with
        | false => .fail
        | true => match ex (callF T wf (k + j)) wf F.body (argS ds (Nat.sub F.ns F.np)) with
          | .next _ => .ok .none
          | .ret d => .ok d
          | .exc c _ => .exc c
          | _ => .fail)
    cases T f with
    | none => exact .refl _
    | some F =>
      dsimp only
      split
      · exact .refl _
      · have h := ex_le (callF_le (T := T) (wf := wf) k j) wf F.body (ELe.refl (argS ds (Nat.sub F.ns F.np)))
        cases r : ex (callF T wf k) wf F.body (argS ds (Nat.sub F.ns F.np)) with
        | fail => exact .inl rfl
        | next e2 =>
          rw [r] at h
          obtain ⟨e2', k1, k2⟩ := h
          rw [k1]; exact .refl _
        | cont e2 => exact .inl rfl
        | brk e2 => exact .inl rfl
        | ret d => rw [r] at h; have h : _ = RS.ret d := h; rw [h]; exact .refl _
        | exc c' e2 =>
          rw [r] at h
          obtain ⟨e2', k1, k2⟩ := h
          rw [k1]; exact .refl _
/-- calls with some answers known ahead -/
def orM (r s : R) : R := R.rec (fun d => .ok d) (fun c => .exc c) s r
def callM (M : Nat → List PyData → R) (T : Nat → Option Fn) (wf : Nat) (k : Nat) : Nat → List PyData → R := Nat.rec (motive := fun _ => Nat → List PyData → R)
  (fun f ds => M f ds)
  (fun _ ih f ds => orM (M f ds) (match T f with
    | none => .fail
    | some F => match Nat.beq (lenF ds) F.np with
      | false => .fail
      | true => match ex ih wf F.body (argS ds (Nat.sub F.ns F.np)) with
        | .next _ => .ok .none
        | .ret d => .ok d
        | .exc c _ => .exc c
        | _ => .fail)) k
theorem RLe.trans {a b c : R} (h : RLe a b) (k : RLe b c) : RLe a c := by
  rcases h with h | h
  · exact .inl h
  · subst h; exact k
theorem callM_le {M : Nat → List PyData → R} {T : Nat → Option Fn} {wf k0 : Nat} (hM : CLe M (callF T wf k0)) : ∀ k, CLe (callM M T wf k) (callF T wf (k0 + k))
  | 0 => fun f ds => hM f ds
  | k + 1 => fun f ds => by
    have up : RLe (M f ds) (callF T wf (k0 + (k + 1)) f ds) := (hM f ds).trans (callF_le k0 (k + 1) f ds)
    show RLe (orM (M f ds) (match T f with
      | none => .fail
      | some F => match Nat.beq (lenF ds) F.np with
        | false => .fail
        | true => match ex (callM M T wf k) wf F.body (argS ds (Nat.sub F.ns F.np)) with
          | .next _ => .ok .none
          | .ret d => .ok d
          | .exc c _ => .exc c
          | _ => .fail)) _
    cases e : M f ds with
    | ok d => rw [e] at up; exact up
    | exc c => rw [e] at up; exact up
    | fail =>
      show RLe (match T f with
        | none => .fail
        | some F => match Nat.beq (lenF ds) F.np with
          | false => .fail
          | true => match ex (callM M T wf k) wf F.body (argS ds (Nat.sub F.ns F.np)) with
            | .next _ => .ok .none
            | .ret d => .ok d
            | .exc c _ => .exc c
            | _ => .fail) (match T f with
        | none => .fail
        | some F => match Nat.beq (lenF ds) F.np with
          | false => .fail
          | true => match ex (callF T wf (k0 + k)) wf F.body (argS ds (Nat.sub F.ns F.np)) with
            | .next _ => .ok .none
            | .ret d => .ok d
            | .exc c _ => .exc c
            | _ => .fail)
      cases T f with
      | none => exact .refl _
      | some F =>
        dsimp only
        split
        · exact .refl _
        · have h := ex_le (callM_le (T := T) (wf := wf) hM k) wf F.body (ELe.refl (argS ds (Nat.sub F.ns F.np)))
          cases r : ex (callM M T wf k) wf F.body (argS ds (Nat.sub F.ns F.np)) with
          | fail => exact .inl rfl
          | next e2 =>
            rw [r] at h
            obtain ⟨e2', k1, k2⟩ := h
            rw [k1]; exact .refl _
          | cont e2 => exact .inl rfl
          | brk e2 => exact .inl rfl
          | ret d => rw [r] at h; have h : _ = RS.ret d := h; rw [h]; exact .refl _
          | exc c' e2 =>
            rw [r] at h
            obtain ⟨e2', k1, k2⟩ := h
            rw [k1]; exact .refl _
/-! ### known answers by tuples of small numbers -/
/-- rows of numbers, as data -/
def tupN (ns : List Nat) : PyData := .tuple (ns.map fun n => .int (.ofNat n))
def sameL (xs : List PyData) : List Nat → Bool := List.rec (motive := fun _ => List Nat → Bool)
  (fun ns => match ns with | [] => true | _ :: _ => false)
  (fun x _ ih ns => match ns with | [] => false | n :: ns => match x with | .int (.ofNat m) => (match Nat.beq m n with | true => ih ns | false => false) | _ => false) xs
def sameT (d : PyData) (ns : List Nat) : Bool := match d with | .tuple xs => sameL xs ns | _ => false
theorem sameL_ok : ∀ {xs : List PyData} {ns : List Nat}, sameL xs ns = true → xs = ns.map fun n => .int (.ofNat n)
  | [], [], _ => rfl
  | [], _ :: _, h => by cases h
  | x :: xs, [], h => by cases h
  | x :: xs, n :: ns, h => by
    have h : (match (generalizing := false) x with | .int (.ofNat m) => (match Nat.beq m n with | true => sameL xs ns | false => false) | _ => false) = true := h
    split at h
    · rename_i m
      split at h
      · rename_i e
        rw [Nat.eq_of_beq_eq_true e, sameL_ok h]; rfl
      · cases h
    · cases h
theorem sameT_ok {d : PyData} {ns : List Nat} (h : sameT d ns = true) : d = tupN ns := by
  unfold sameT at h
  split at h
  · rw [sameL_ok h]; rfl
  · cases h
def look1 {α : Type} (d : PyData) (l : List (List Nat × α)) : Option α := List.rec none (fun q _ ih => match sameT d q.1 with | true => some q.2 | false => ih) l
theorem look1_ok {α : Type} {d : PyData} : ∀ {l : List (List Nat × α)} {a : α}, look1 d l = some a → ∃ ns, (ns, a) ∈ l ∧ d = tupN ns
  | [], a, h => by cases h
  | q :: l, a, h => by
    have h : (match sameT d q.1 with | true => some q.2 | false => look1 d l) = some a := h
    split at h
    · rename_i e
      cases h
      exact ⟨q.1, List.mem_cons_self .., sameT_ok e⟩
    · obtain ⟨ns, h1, h2⟩ := look1_ok h
      exact ⟨ns, List.mem_cons_of_mem _ h1, h2⟩
/-! ### slots that are not written -/
def wrP : Pt → Nat → Bool
  | .nm j, i => Nat.beq j i
  | .nil, _ => false
  | .cons a b, i => wrP a i || wrP b i
def wr : S → Nat → Bool
  | .seq a b, i => wr a i || wr b i
  | .set p _, i => wrP p i
  | .setO j _, i => Nat.beq j i
  | .aug j _ _, i => Nat.beq j i
  | .setIx j _ _, i => Nat.beq j i
  | .app j _, i => Nat.beq j i
  | .pop p j, i => wrP p i || Nat.beq j i
  | .setLL j _, i => Nat.beq j i
  | .set2 j _ _ _, i => Nat.beq j i
  | .swp j _ _ _ _, i => Nat.beq j i
  | .appPop j l _, i => Nat.beq j i || Nat.beq l i
  | .ifS _ a b, i => wr a i || wr b i
  | .for p _ b, i => wrP p i || wr b i
  | .whl _ b, i => wr b i
  | .tryS b _ _ h, i => wr b i || wr h i
  | .frz j, i => Nat.beq j i
  | _, _ => false
def Kp (x : SV) (i : Nat) (r : RS) : Prop := match r with
  | .next e => getS e i = x
  | .brk e => getS e i = x
  | .cont e => getS e i = x
  | .exc _ e => getS e i = x
  | _ => True
theorem ne_of_beq {j i : Nat} (h : Nat.beq j i = false) : j ≠ i := fun e => by subst e; rw [Nat.beq_refl] at h; cases h
theorem kp_st {r : R} {e : List SV} {f : PyData → RS} {i : Nat} {x : SV} (he : getS e i = x) (k : ∀ d, Kp x i (f d)) : Kp x i (r.st e f) := by
  cases r with
  | ok d => exact k d
  | exc c => exact he
  | fail => exact True.intro
theorem kp_bind : ∀ (p : Pt) (d : PyData) {e e1 : List SV} {i : Nat}, wrP p i = false → bindP p d e = some e1 → getS e1 i = getS e i
  | .nm j, d, e, e1, i, h, q => by
    have q : some (setS e j (.val d)) = some e1 := q
    cases q
    exact sl_ne (ne_of_beq h)
  | .nil, d, e, e1, i, h, q => by
    cases d with
    | tuple ds =>
      cases ds with
      | nil => cases q; rfl
      | cons x xs => cases q
    | _ => cases q
  | .cons a b, d, e, e1, i, h, q => by
    have h : (wrP a i || wrP b i) = false := h
    rw [Bool.or_eq_false_iff] at h
    cases d with
    | tuple ds =>
      cases ds with
      | nil => cases q
      | cons x xs =>
        have q : (match bindP a x e with | some env1 => bindP b (.tuple xs) env1 | none => none) = some e1 := q
        cases ea : bindP a x e with
        | none => rw [ea] at q; cases q
        | some e2 =>
          rw [ea] at q
          rw [kp_bind b _ h.2 q, kp_bind a _ h.1 ea]
    | _ => cases q
theorem kp_opt {p : Pt} {d : PyData} {e : List SV} {i : Nat} {x : SV} (h : wrP p i = false) (he : getS e i = x) : Kp x i (optS (bindP p d e)) := by
  cases q : bindP p d e with
  | none => exact True.intro
  | some e1 => exact (kp_bind p d h q).trans he
theorem kp_for {p : Pt} {b : List SV → RS} {i : Nat} {x : SV} (hp : wrP p i = false) (hb : ∀ e, getS e i = x → Kp x i (b e)) : ∀ (xs : List PyData) (e : List SV), getS e i = x → Kp x i (forL p b xs e)
  | [], e, he => he
  | y :: ys, e, he => by
    show Kp x i (match bindP p y e with
      | none => .fail
      | some env1 => match b env1 with
        | .next env2 => forL p b ys env2
        | .cont env2 => forL p b ys env2
        | .brk env2 => .next env2
        | .ret d => .ret d
        | .exc c env2 => .exc c env2
        | .fail => .fail)
    cases q : bindP p y e with
    | none => exact True.intro
    | some e1 =>
      have k := hb e1 ((kp_bind p y hp q).trans he)
      dsimp only
      cases r : b e1 with
      | fail => exact True.intro
      | next e2 => rw [r] at k; exact kp_for hp hb ys e2 k
      | cont e2 => rw [r] at k; exact kp_for hp hb ys e2 k
      | brk e2 => rw [r] at k; exact k
      | ret d => exact True.intro
      | exc c e2 => rw [r] at k; exact k
theorem kp_whl {c : List SV → R} {b : List SV → RS} {i : Nat} {x : SV} (hb : ∀ e, getS e i = x → Kp x i (b e)) : ∀ (n : Nat) (e : List SV), getS e i = x → Kp x i (whlL c b n e)
  | 0, e, he => True.intro
  | n + 1, e, he => by
    refine kp_st he fun d => ?_
    cases d with
    | bool k =>
      cases k with
      | false => exact he
      | true =>
        have k := hb e he
        show Kp x i (match b e with
          | .next env2 => whlL c b n env2
          | .cont env2 => whlL c b n env2
          | .brk env2 => .next env2
          | .ret d => .ret d
          | .exc c env2 => .exc c env2
          | .fail => .fail)
        cases r : b e with
        | fail => exact True.intro
        | next e2 => rw [r] at k; exact kp_whl hb n e2 k
        | cont e2 => rw [r] at k; exact kp_whl hb n e2 k
        | brk e2 => rw [r] at k; exact k
        | ret d => exact True.intro
        | exc c e2 => rw [r] at k; exact k
    | _ => exact True.intro
theorem ex_kp {C : Nat → List PyData → R} {wf : Nat} {i : Nat} {x : SV} (s : S) : wr s i = false → ∀ e, getS e i = x → Kp x i (ex C wf s e) := by
  induction s with
  | skip => intro h e he; exact he
  | seq a b iha ihb =>
    intro h e he
    have h : (wr a i || wr b i) = false := h
    rw [Bool.or_eq_false_iff] at h
    have k := iha h.1 e he
    show Kp x i (match ex C wf a e with
      | .next env1 => ex C wf b env1
      | .brk e => .brk e | .cont e => .cont e | .ret d => .ret d | .exc c e => .exc c e | .fail => .fail)
    cases r : ex C wf a e with
    | fail => exact True.intro
    | next e2 => rw [r] at k; exact ihb h.2 e2 k
    | cont e2 => rw [r] at k; exact k
    | brk e2 => rw [r] at k; exact k
    | ret d => exact True.intro
    | exc c e2 => rw [r] at k; exact k
  | set p y => intro h e he; exact kp_st he fun d => kp_opt h he
  | setO j y =>
    intro h e he
    refine kp_st he fun d => ?_
    cases d with
    | list xs => exact (sl_ne (ne_of_beq h)).trans he
    | _ => exact True.intro
  | aug j o y =>
    intro h e he
    show Kp x i (match getS e j with
      | .val (.int a) => (ev C y e).st e fun y => (match y with | .int b => (binF o (.int a) (.int b)).st e fun z => .next (setS e j (.val z)) | _ => .fail)
      | _ => .fail)
    split
    · refine kp_st he fun d => ?_
      cases d with
      | int b => exact kp_st he fun z => (sl_ne (ne_of_beq h)).trans he
      | _ => exact True.intro
    · exact True.intro
  | setIx j a y =>
    intro h e he
    show Kp x i (match getS e j with
      | .own (.lst xs) => (ev C y e).st e fun y => (ev C a e).st e fun k => (match k with
        | .int m => (match small m with | true => (match setL xs (ixI (lenF xs) m) y with | some ys => .next (setS e j (.own (.lst ys))) | none => .fail) | false => .fail)
        | _ => .fail)
      | _ => .fail)
    split
    · refine kp_st he fun d => kp_st he fun k => ?_
      cases k with
      | int m =>
        dsimp only
        split
        · split
          · exact (sl_ne (ne_of_beq h)).trans he
          · exact True.intro
        · exact True.intro
      | _ => exact True.intro
    · exact True.intro
  | app j y =>
    intro h e he
    show Kp x i (match getS e j with
      | .own (.lst xs) => (ev C y e).st e fun y => (match fitN (lenF xs) with | true => .next (setS e j (.own (.lst (xs ++ [y])))) | false => .fail)
      | _ => .fail)
    split
    · refine kp_st he fun d => ?_
      split
      · exact (sl_ne (ne_of_beq h)).trans he
      · exact True.intro
    · exact True.intro
  | pop p j =>
    intro h e he
    have h : (wrP p i || Nat.beq j i) = false := h
    rw [Bool.or_eq_false_iff] at h
    show Kp x i (match getS e j with
      | .own (.lst xs) => (match popL xs with | some (ys, y) => optS (bindP p y (setS e j (.own (.lst ys)))) | none => .fail)
      | _ => .fail)
    split
    · split
      · exact kp_opt h.1 ((sl_ne (ne_of_beq h.2)).trans he)
      · exact True.intro
    · exact True.intro
  | setLL j y =>
    intro h e he
    refine kp_st he fun d => ?_
    cases d with
    | list xs =>
      show Kp x i (match lists xs with | some dss => .next (setS e j (.own (.ll dss))) | none => .fail)
      split
      · exact (sl_ne (ne_of_beq h)).trans he
      · exact True.intro
    | _ => exact True.intro
  | set2 j a b y =>
    intro h e he
    show Kp x i (match getS e j with
      | .own (.ll dss) => (ev C y e).st e fun y => (ev C a e).st e fun k => (match k with
        | .int k => (match small k with
          | true => (match nthLL dss (ixI (lenLL dss) k) with
            | some ds => (ev C b e).st e fun l => (match l with
              | .int l => (match small l with
                | true => (match setL ds (ixI (lenF ds) l) y with
                  | some ds' => .next (setS e j (.own (.ll (putLL dss (ixI (lenLL dss) k) ds'))))
                  | none => .fail)
                | false => .fail)
              | _ => .fail)
            | none => .fail)
          | false => .fail)
        | _ => .fail)
      | _ => .fail)
    split
    · refine kp_st he fun d => kp_st he fun k => ?_
      cases k with
      | int m =>
        dsimp only
        split
        · split
          · refine kp_st he fun l => ?_
            cases l with
            | int l =>
              dsimp only
              split
              · split
                · exact (sl_ne (ne_of_beq h)).trans he
                · exact True.intro
              · exact True.intro
            | _ => exact True.intro
          · exact True.intro
        · exact True.intro
      | _ => exact True.intro
    · exact True.intro
  | swp j a b u w =>
    intro h e he
    refine kp_st he fun u => kp_st he fun w => ?_
    show Kp x i (match getS e j with
      | .own (.lst xs) => (ev C a e).st e fun k => (match k with
        | .int k => (match small k with
          | true => (match setL xs (ixI (lenF xs) k) u with
            | some xs1 => (match ev C b (setS e j (.own (.lst xs1))) with
              | .ok (.int l) => (match small l with
                | true => (match setL xs1 (ixI (lenF xs1) l) w with
                  | some xs2 => .next (setS e j (.own (.lst xs2)))
                  | none => .fail)
                | false => .fail)
              | _ => .fail)
            | none => .fail)
          | false => .fail)
        | _ => .fail)
      | _ => .fail)
    split
    · refine kp_st he fun k => ?_
      cases k with
      | int m =>
        dsimp only
        split
        · split
          · split
            · split
              · split
                · exact (sl_ne (ne_of_beq h)).trans he
                · exact True.intro
              · exact True.intro
            · exact True.intro
          · exact True.intro
        · exact True.intro
      | _ => exact True.intro
    · exact True.intro
  | appPop j l y =>
    intro h e he
    have h : (Nat.beq j i || Nat.beq l i) = false := h
    rw [Bool.or_eq_false_iff] at h
    show Kp x i (match getS e j, getS e l with
      | .own (.lst xs), .own (.lst ys) => (match Nat.beq j l with
        | true => .fail
        | false => (ev C y e).st e fun k => (match k with
          | .int k => (match small k && fitN (lenF xs) with | true => (match takeL ys (ixI (lenF ys) k) with | some (y, zs) => .next (setS (setS e l (.own (.lst zs))) j (.own (.lst (xs ++ [y])))) | none => .fail) | false => .fail)
          | _ => .fail))
      | _, _ => .fail)
    split
    · split
      · exact True.intro
      · refine kp_st he fun k => ?_
        cases k with
        | int m =>
          dsimp only
          split
          · split
            · exact (sl_ne (ne_of_beq h.1)).trans ((sl_ne (ne_of_beq h.2)).trans he)
            · exact True.intro
          · exact True.intro
        | _ => exact True.intro
    · exact True.intro
  | expr y => intro h e he; exact kp_st he fun d => he
  | ifS c a b iha ihb =>
    intro h e he
    have h : (wr a i || wr b i) = false := h
    rw [Bool.or_eq_false_iff] at h
    refine kp_st he fun d => ?_
    cases d with
    | bool k => cases k <;> first | exact iha h.1 e he | exact ihb h.2 e he
    | _ => exact True.intro
  | «for» p it b ihb =>
    intro h e he
    have h : (wrP p i || wr b i) = false := h
    rw [Bool.or_eq_false_iff] at h
    refine kp_st he fun d => ?_
    show Kp x i (match itemsF d with | some xs => forL p (ex C wf b) xs e | none => .fail)
    cases itemsF d with
    | none => exact True.intro
    | some xs => exact kp_for h.1 (fun e he => ihb h.2 e he) xs e he
  | whl c b ihb => intro h e he; exact kp_whl (fun e he => ihb h e he) wf e he
  | brk => intro h e he; exact he
  | cont => intro h e he; exact he
  | ret y => intro h e he; exact kp_st he fun d => True.intro
  | rse c => intro h e he; exact he
  | tryS b c n t ihb iht =>
    intro h e he
    have h : (wr b i || wr t i) = false := h
    rw [Bool.or_eq_false_iff] at h
    have k := ihb h.1 e he
    show Kp x i (match ex C wf b e with
      | .exc c' e => (match Nat.beq c c' with | true => ex C wf t e | false => (match Nat.blt c' n with | true => .exc c' e | false => .fail))
      | r => r)
    cases r : ex C wf b e with
    | fail => exact True.intro
    | next e2 => rw [r] at k; exact k
    | cont e2 => rw [r] at k; exact k
    | brk e2 => rw [r] at k; exact k
    | ret d => exact True.intro
    | exc c' e2 =>
      rw [r] at k
      dsimp only
      split
      · exact iht h.2 e2 k
      · split
        · exact k
        · exact True.intro
  | frz j =>
    intro h e he
    show Kp x i (match getS e j with | .own (.lst xs) => .next (setS e j (.val (.list xs))) | .own (.ll xss) => .next (setS e j (.val (.list (xss.map .list)))) | _ => .next e)
    split
    · exact (sl_ne (ne_of_beq h)).trans he
    · exact (sl_ne (ne_of_beq h)).trans he
    · exact he
end EV
end

set_option Elab.async false
set_option linter.all false
set_option autoImplicit false
set_option maxRecDepth 100000
set_option maxHeartbeats 4000007
/-! ED: the draws of the laws. -/
noncomputable section
namespace EV
open PySem

def cellF : Fn := ⟨2, 2, .seq (.ifS (.cmp .lt (.v 1) (.blt .len (.cons (.v 0) (.nil)))) (.ret (.ix (.v 0) (.v 1))) (.skip)) (.ret (.c (.int 0)))⟩
def stepB : S := .seq (.set (.nm 5) (.bin .mod (.blt .int (.cons (.bin .add (.bin .add (.bin .mul (.v 0) (.c (.int 48271))) (.bin .mul (.v 4) (.c (.int 69621)))) (.c (.int 1))) (.nil))) (.c (.int 2147483647)))) (.ifS (.cmp .ge (.v 0) (.bin .pow (.c (.int 10)) (.c (.int 18)))) (.seq (.app 2 (.bin .mod (.v 3) (.c (.int 1009)))) (.set (.nm 3) (.bin .fdiv (.v 3) (.c (.int 1009))))) (.app 2 (.bin .fdiv (.bin .mod (.blt .int (.cons (.bin .add (.bin .mul (.v 5) (.v 5)) (.bin .mul (.v 5) (.c (.int 40692)))) (.nil))) (.c (.int 2147483399))) (.c (.int 7)))))
def drawF : Fn := ⟨2, 6, .seq (.setO 2 (.lst (.nil))) (.seq (.set (.nm 3) (.blt .int (.cons (.v 0) (.nil)))) (.seq (.for (.nm 4) (.rng (.c (.int 0)) (.v 1)) stepB) (.seq (.frz 2) (.ret (.v 2)))))⟩
theorem mul_r {a b : Int} (h : Nat.blt b.natAbs 18446744073709551616 = true) : binF .mul (.int a) (.int b) = .ok (.int (a * b)) := by
  show (match Nat.blt a.natAbs 18446744073709551616 || Nat.blt b.natAbs 18446744073709551616 with | true => R.ok (.int (Int.mul a b)) | false => .fail) = _
  rw [h, Bool.or_true]; rfl
theorem ex_seq {C : Nat → List PyData → R} {wf : Nat} {a b : S} {e e1 : List SV} (h : ex C wf a e = .next e1) : ex C wf (.seq a b) e = ex C wf b e1 := by
  show (match ex C wf a e with
    | .next env1 => ex C wf b env1
    | .brk e => RS.brk e | .cont e => .cont e | .ret d => .ret d | .exc c e => .exc c e | .fail => .fail) = _
  rw [h]
theorem ex_set {C : Nat → List PyData → R} {wf : Nat} {i : Nat} {x : X} {e : List SV} {d : PyData} (h : ev C x e = .ok d) : ex C wf (.set (.nm i) x) e = .next (setS e i (.val d)) := by
  show (ev C x e).st e (fun d => optS (bindP (.nm i) d e)) = _
  rw [h]; rfl
theorem ex_if {C : Nat → List PyData → R} {wf : Nat} {x : X} {a b : S} {e : List SV} {k : Bool} (h : ev C x e = .ok (.bool k)) : ex C wf (.ifS x a b) e = cond k (ex C wf a e) (ex C wf b e) := by
  show (ev C x e).st e (fun d => match d with | .bool true => ex C wf a e | .bool false => ex C wf b e | _ => .fail) = _
  rw [h]; cases k <;> rfl
theorem draw_step (C : Nat → List PyData → R) (wf : Nat) (w n rest k : Int) (L : List Int) (kk m : SV) (hL : L.length ≤ 1000) :
    ∃ x rest' m', 0 ≤ x ∧ ex C wf stepB [.val (.int w), .val (.int n), .own (.lst (L.map .int)), .val (.int rest), .val (.int k), m] = .next [.val (.int w), .val (.int n), .own (.lst ((L ++ [x]).map .int)), .val (.int rest'), .val (.int k), m'] := by
  have hfit : fitN (lenF (L.map PyData.int)) = true := by
    rw [ES.lenF_eq, List.length_map]
    unfold fitN
    rw [ES.nble, decide_eq_true_iff]; omega
  let M : Int := Int.fmod (Int.add (Int.add (w * 48271) (k * 69621)) 1) 2147483647
  have hM0 : 0 ≤ M := Int.fmod_nonneg_of_pos _ (by decide)
  have hM1 : M < 2147483647 := Int.fmod_lt_of_pos _ (by decide)
  have e1 : ev C (.bin .mod (.blt .int (.cons (.bin .add (.bin .add (.bin .mul (.v 0) (.c (.int 48271))) (.bin .mul (.v 4) (.c (.int 69621)))) (.c (.int 1))) (.nil))) (.c (.int 2147483647))) [.val (.int w), .val (.int n), .own (.lst (L.map .int)), .val (.int rest), .val (.int k), m] = .ok (.int M) := by
    show ((((((binF .mul (.int w) (.int 48271)).bind fun x => (binF .mul (.int k) (.int 69621)).bind fun y => binF .add x y).bind fun x => binF .add x (.int 1)).bind fun x => (R.ok (.tuple [])).bind fun y => match y with | .tuple ys => .ok (.tuple (x :: ys)) | _ => .fail).bind fun x => match x with | .tuple xs => bltF .int xs | _ => .fail).bind fun x => binF .mod x (.int 2147483647)) = _
    rw [mul_r (by decide), mul_r (by decide)]
    rfl
  have app : ∀ (x : X) (v : Int), ev C x [.val (.int w), .val (.int n), .own (.lst (L.map .int)), .val (.int rest), .val (.int k), .val (.int M)] = .ok (.int v) → ex C wf (.app 2 x) [.val (.int w), .val (.int n), .own (.lst (L.map .int)), .val (.int rest), .val (.int k), .val (.int M)] = .next [.val (.int w), .val (.int n), .own (.lst ((L ++ [v]).map .int)), .val (.int rest), .val (.int k), .val (.int M)] := fun x v hx => by
    show (ev C x [.val (.int w), .val (.int n), .own (.lst (L.map .int)), .val (.int rest), .val (.int k), .val (.int M)]).st _ (fun y => (match fitN (lenF (L.map PyData.int)) with | true => .next (setS [.val (.int w), .val (.int n), .own (.lst (L.map .int)), .val (.int rest), .val (.int k), .val (.int M)] 2 (.own (.lst (L.map .int ++ [y])))) | false => .fail)) = _
    rw [hx, hfit, List.map_append]
    rfl
  have hs : ∀ b : Bool, iLe 1000000000000000000 w = b → ex C wf stepB [.val (.int w), .val (.int n), .own (.lst (L.map .int)), .val (.int rest), .val (.int k), m] = cond b (ex C wf (.seq (.app 2 (.bin .mod (.v 3) (.c (.int 1009)))) (.set (.nm 3) (.bin .fdiv (.v 3) (.c (.int 1009))))) [.val (.int w), .val (.int n), .own (.lst (L.map .int)), .val (.int rest), .val (.int k), .val (.int M)]) (ex C wf (.app 2 (.bin .fdiv (.bin .mod (.blt .int (.cons (.bin .add (.bin .mul (.v 5) (.v 5)) (.bin .mul (.v 5) (.c (.int 40692)))) (.nil))) (.c (.int 2147483399))) (.c (.int 7)))) [.val (.int w), .val (.int n), .own (.lst (L.map .int)), .val (.int rest), .val (.int k), .val (.int M)]) := fun b hb => by
    unfold stepB
    rw [ex_seq (ex_set e1)]
    refine (ex_if (k := b) ?_).trans rfl
    show rb (iLe 1000000000000000000 w) = _
    rw [hb]; rfl
  cases hb : iLe 1000000000000000000 w with
  | true =>
    refine ⟨Int.fmod rest 1009, Int.fdiv rest 1009, .val (.int M), Int.fmod_nonneg_of_pos _ (by decide), ?_⟩
    rw [hs true hb]
    rw [cond_true, ex_seq (app _ (Int.fmod rest 1009) rfl), ex_set (d := .int (Int.fdiv rest 1009)) rfl]
    rfl
  | false =>
    refine ⟨Int.fdiv (Int.fmod (Int.add (M * M) (M * 40692)) 2147483399) 7, rest, .val (.int M), ?_, ?_⟩
    · exact Int.fdiv_nonneg (Int.fmod_nonneg_of_pos _ (by decide)) (by decide)
    · rw [hs false hb, cond_false]
      refine app _ _ ?_
      show (((((binF .mul (.int M) (.int M)).bind fun x => (binF .mul (.int M) (.int 40692)).bind fun y => binF .add x y).bind fun x => (R.ok (.tuple [])).bind fun y => match y with | .tuple ys => .ok (.tuple (x :: ys)) | _ => .fail).bind fun x => match x with | .tuple xs => bltF .int xs | _ => .fail).bind fun x => binF .mod x (.int 2147483399)).bind (fun x => binF .fdiv x (.int 7)) = _
      rw [mul_r (by rw [ES.nblt, decide_eq_true_iff]; omega), mul_r (by decide)]
      rfl
theorem draw_loop (C : Nat → List PyData → R) (wf : Nat) (w n : Int) : ∀ (j : Nat) (k rest : Int) (L : List Int) (kk m : SV), L.length + j ≤ 1000 → (∀ x ∈ L, 0 ≤ x) → ∃ (L' : List Int) (rest' : Int) (kk' m' : SV), L'.length = L.length + j ∧ (∀ x ∈ L', 0 ≤ x) ∧
    forL (.nm 4) (ex C wf stepB) (rngF j k) [.val (.int w), .val (.int n), .own (.lst (L.map .int)), .val (.int rest), kk, m] = .next [.val (.int w), .val (.int n), .own (.lst (L'.map .int)), .val (.int rest'), kk', m']
  | 0, k, rest, L, kk, m, hl, hp => ⟨L, rest, kk, m, rfl, hp, rfl⟩
  | j + 1, k, rest, L, kk, m, hl, hp => by
    obtain ⟨x, rest1, m1, hx, e1⟩ := draw_step C wf w n rest k L kk m (by omega)
    obtain ⟨L', rest', kk', m', h1, h2, h3⟩ := draw_loop C wf w n j (Int.add k 1) rest1 (L ++ [x]) (.val (.int k)) m1 (by rw [List.length_append]; simp; omega) (fun y hy => by
      rcases List.mem_append.mp hy with z | z
      · exact hp y z
      · have : y = x := by simpa using z
        rw [this]; exact hx)
    refine ⟨L', rest', kk', m', by rw [h1, List.length_append]; simp; omega, h2, ?_⟩
    rw [← h3]
    show (match ex C wf stepB [.val (.int w), .val (.int n), .own (.lst (L.map .int)), .val (.int rest), .val (.int k), m] with
        | .next env2 => forL (.nm 4) (ex C wf stepB) (rngF j (Int.add k 1)) env2
        | .cont env2 => forL (.nm 4) (ex C wf stepB) (rngF j (Int.add k 1)) env2
        | .brk env2 => .next env2
        | .ret d => RS.ret d
        | .exc c env2 => .exc c env2
        | .fail => .fail) = _
    rw [e1]
/-- the draws of a cell: count of them, none below 0 -/
theorem draws {T : Nat → Option Fn} {wf k f : Nat} (hf : T f = some drawF) (w : Int) (n : Nat) (hn : n ≤ 1000) : ∃ L : List Int, L.length = n ∧ (∀ x ∈ L, 0 ≤ x) ∧ callF T wf (k + 1) f [.int w, .int n] = .ok (.list (L.map .int)) := by
  obtain ⟨L, rest, kk, m, h1, h2, h3⟩ := draw_loop (callF T wf k) wf w n n 0 w [] .non .non (by simpa using hn) (fun _ h => by cases h)
  refine ⟨L, by simpa using h1, h2, ?_⟩
  have hsm : small (n : Int) = true := by unfold small; rw [ES.nblt, decide_eq_true_iff]; omega
  have hr : rngR (.int 0) (.int (n : Int)) = .ok (.list (rngF n 0)) := by
    show (match small 0 && small (n : Int) with | true => R.ok (.list (rngF (Int.sub (n : Int) 0).toNat 0)) | false => .fail) = _
    rw [hsm]
    have : (Int.sub (n : Int) 0).toNat = n := by show ((n : Int) - 0).toNat = n; omega
    rw [this]; rfl
  have body : ex (callF T wf k) wf drawF.body (argS [.int w, .int (n : Int)] 4) = .ret (.list (L.map .int)) := by
    show ex (callF T wf k) wf (.seq (.setO 2 (.lst (.nil))) _) [.val (.int w), .val (.int (n : Int)), .non, .non, .non, .non] = _
    rw [ex_seq (e1 := [.val (.int w), .val (.int (n : Int)), .own (.lst []), .non, .non, .non]) rfl, ex_seq (e1 := [.val (.int w), .val (.int (n : Int)), .own (.lst []), .val (.int w), .non, .non]) rfl]
    rw [ex_seq (e1 := [.val (.int w), .val (.int (n : Int)), .own (.lst (L.map .int)), .val (.int rest), kk, m]) ?_]
    · rfl
    · rw [← h3]
      show (rngR (.int 0) (.int (n : Int))).st _ (fun d => match itemsF d with | some xs => forL (.nm 4) (ex (callF T wf k) wf stepB) xs _ | none => .fail) = _
      rw [hr]; rfl
  show (match T f with
      | none => R.fail
      | some F => match Nat.beq (lenF [PyData.int w, .int (n : Int)]) F.np with
        | false => .fail
        | true => match ex (callF T wf k) wf F.body (argS [.int w, .int (n : Int)] (Nat.sub F.ns F.np)) with
          | .next _ => .ok .none
          | .ret d => .ok d
          | .exc c _ => .exc c
          | _ => .fail) = _
  rw [hf]
  show (match ex (callF T wf k) wf drawF.body (argS [.int w, .int (n : Int)] 4) with
          | .next _ => R.ok .none
          | .ret d => R.ok d
          | .exc c _ => R.exc c
          | _ => R.fail) = _
  rw [body]
/-- the first cell of a script, or 0 -/
theorem cell0 {T : Nat → Option Fn} {wf k f : Nat} (hf : T f = some cellF) (ns : List Int) : ∃ w : Int, callF T wf (k + 1) f [.list (ns.map .int), .int 0] = .ok (.int w) := by
  have go : ∀ d, ex (callF T wf k) wf cellF.body (argS [.list (ns.map .int), .int 0] 0) = .ret d → callF T wf (k + 1) f [.list (ns.map .int), .int 0] = .ok d := fun d h => by
    show (match T f with
      | none => R.fail
      | some F => match Nat.beq (lenF [PyData.list (ns.map .int), .int 0]) F.np with
        | false => .fail
        | true => match ex (callF T wf k) wf F.body (argS [.list (ns.map .int), .int 0] (Nat.sub F.ns F.np)) with
          | .next _ => .ok .none
          | .ret d => .ok d
          | .exc c _ => .exc c
          | _ => .fail) = _
    rw [hf]
    show (match ex (callF T wf k) wf cellF.body (argS [.list (ns.map .int), .int 0] 0) with
          | .next _ => R.ok .none
          | .ret d => R.ok d
          | .exc c _ => R.exc c
          | _ => R.fail) = _
    rw [h]
  cases ns with
  | nil => exact ⟨0, go _ rfl⟩
  | cons x xs => exact ⟨x, go _ rfl⟩
end EV
end

set_option Elab.async false
set_option linter.all false
set_option autoImplicit false
set_option maxRecDepth 100000
set_option maxHeartbeats 4000007
/-! EP: a law's statements in groups, over slots known; draws as choices. -/
noncomputable section
namespace EV
open PySem

/-- n slots, no own lists -/
structure Fi (n : Nat) (e : List SV) : Prop where
  len : e.length = n
  no : ∀ i ds, getS e i ≠ .own ds
def fine (vs : List Nat) (e : List SV) : Bool := noOwn e vs && Nat.beq (lenS e) vs.length
where lenS (e : List SV) : Nat := List.rec 0 (fun _ _ ih => Nat.succ ih) e
theorem lenS_eq : ∀ e : List SV, fine.lenS e = e.length
  | [] => rfl
  | _ :: r => congrArg Nat.succ (lenS_eq r)
theorem noOwn_all {e : List SV} : ∀ {vs : List Nat}, noOwn e vs = true → ∀ {i : Nat} {ds : OV}, i ∈ vs → getS e i ≠ .own ds
  | [], _, _, _, h =>
      by cases h
  | j :: vs, h, i, ds, hi => by
    have h : (match getS e j with | .own _ => false | _ => noOwn e vs) = true := h
    intro k
    rcases List.mem_cons.mp hi with z | z
    · subst z; rw [k] at h; cases h
    · refine noOwn_all (vs := vs) ?_ z k
      split at h
      · cases h
      · exact h
theorem fi_of {n : Nat} {e : List SV} (h : fine (List.range n) e = true) : Fi n e := by
  unfold fine at h
  rw [Bool.and_eq_true] at h
  have hl : e.length = n := by
    have := Nat.eq_of_beq_eq_true h.2
    rw [lenS_eq, List.length_range] at this
    exact this
  refine ⟨hl, fun i ds => ?_⟩
  by_cases q : i < n
  · exact noOwn_all h.1 (List.mem_range.mpr q)
  · rw [sl_out (by rw [hl]; exact q)]; intro z; cases z
theorem fi_le {n : Nat} {e e' : List SV} (h : ELe e e') (f : Fi n e) : Fi n e' := ⟨h.len ▸ f.len, fun i ds q => by
  rcases h.at_ i with z | ⟨_, k⟩
  · exact f.no i ds (z.trans q)
  · exact k ds q⟩
theorem fi_set {n : Nat} {e : List SV} (f : Fi n e) (i : Nat) (d : PyData) : Fi n (setS e i (.val d)) := ⟨by rw [sl_len]; exact f.len, fun j ds q => by
  by_cases z : i = j
  · subst z
    by_cases l : i < e.length
    · rw [sl_same l] at q; cases q
    · rw [sl_out (by rw [sl_len]; exact l)] at q; cases q
  · rw [sl_ne z] at q; exact f.no j ds q⟩
/-- what is known of some slots -/
def kn (n : Nat) (ks : List (Nat × PyData)) : List SV := List.rec (argS [] n) (fun q _ ih => setS ih q.1 (.val q.2)) ks
theorem argS_non : ∀ (n i : Nat), getS (argS [] n) i = .non
  | 0, i => rfl
  | n + 1, 0 => rfl
  | n + 1, i + 1 => argS_non n i
theorem argS_len0 : ∀ n, (argS [] n).length = n
  | 0 => rfl
  | n + 1 => congrArg Nat.succ (argS_len0 n)
theorem kn_len (n : Nat) : ∀ ks, (kn n ks).length = n
  | [] => argS_len0 n
  | q :: ks => by show (setS (kn n ks) q.1 (.val q.2)).length = n; rw [sl_len]; exact kn_len n ks
theorem kn_le {n : Nat} {e : List SV} (f : Fi n e) : ∀ {ks : List (Nat × PyData)}, (∀ q ∈ ks, getS e q.1 = .val q.2) → ∀ j, getS (kn n ks) j = .non ∨ getS (kn n ks) j = getS e j
  | [], _, j => .inl (argS_non n j)
  | q :: ks, h, j => by
    show getS (setS (kn n ks) q.1 (.val q.2)) j = .non ∨ getS (setS (kn n ks) q.1 (.val q.2)) j = getS e j
    by_cases z : q.1 = j
    · by_cases l : q.1 < (kn n ks).length
      · subst z
        rw [sl_same l]
        exact .inr (h q (List.mem_cons_self ..)).symm
      · subst z
        exact .inl (sl_out (by rw [sl_len]; exact l))
    · rw [sl_ne z]
      exact kn_le f (fun q' m => h q' (List.mem_cons_of_mem _ m)) j
theorem kn_ok {n : Nat} {e : List SV} (f : Fi n e) {ks : List (Nat × PyData)} (h : ∀ q ∈ ks, getS e q.1 = .val q.2) : ELe (kn n ks) e := ⟨(kn_len n ks).trans f.len.symm, fun i => by
  rcases kn_le f h i with z | z
  · exact .inr ⟨z, fun ds => f.no i ds⟩
  · exact .inl z⟩
def isN (vs : List Nat) (r : RS) : Bool := match r with | .next e => fine vs e | _ => false
def isT (r : RS) : Bool := match r with | .ret (.bool true) => true | _ => false
section
variable {CB C : Nat → List PyData → R} {wf n : Nat} {s : S} {p e : List SV}
/-- a group of statements -/
theorem grp (hC : CLe CB C) (hle : ELe p e) (h : isN (List.range n) (ex CB wf s p) = true) : ∃ p' e', ex CB wf s p = .next p' ∧ ex C wf s e = .next e' ∧ ELe p' e' ∧ Fi n e' := by
  have m := ex_le hC wf s hle
  cases r : ex CB wf s p with
  | next e1 =>
    rw [r] at m h
    obtain ⟨e', h1, h2⟩ := m
    exact ⟨e1, e', rfl, h1, h2, fi_le h2 (fi_of h)⟩
  | _ => rw [r] at h; cases h
/-- .. at the end -/
theorem grpT (hC : CLe CB C) (hle : ELe p e) (h : isT (ex CB wf s p) = true) : ex C wf s e = .ret (.bool true) := by
  have m := ex_le hC wf s hle
  cases r : ex CB wf s p with
  | ret d =>
    rw [r] at m h
    have m : ex C wf s e = .ret d := m
    rw [m]
    cases d with
    | bool b =>
      cases b with
      | true => rfl
      | false => cases h
    | _ => cases h
  | _ => rw [r] at h; cases h
theorem ele_val {p e : List SV} (h : ELe p e) {i : Nat} {d : PyData} (q : getS p i = .val d) : getS e i = .val d := val_at h q
/-- what s leaves alone -/
theorem kept {e e' : List SV} {i : Nat} (h : ex C wf s e = .next e') (hw : wr s i = false) : getS e' i = getS e i := by
  have := ex_kp (C := C) (wf := wf) (i := i) s hw e rfl
  rw [h] at this
  exact this
end
/-! ### the law's statements in a row -/
/-- the first n of a row of statements, then the rest -/
def tke : Nat → S → S
  | 0, _ => .skip
  | n + 1, .seq a b => .seq a (tke n b)
  | _ + 1, s => s
def drp : Nat → S → S
  | 0, s => s
  | n + 1, .seq _ b => drp n b
  | _ + 1, s => s
/-- n statements, one behind the other, and more -/
def rowS : Nat → S → Bool
  | 0, _ => true
  | n + 1, .seq _ b => rowS n b
  | _ + 1, _ => false
theorem tke_drp {C : Nat → List PyData → R} {wf : Nat} : ∀ (n : Nat) (s : S) {e e' : List SV}, rowS n s = true → ex C wf (tke n s) e = .next e' → ex C wf s e = ex C wf (drp n s) e'
  | 0, s, e, e', _, h => by
    have h : RS.next e = .next e' := h
    cases h; rfl
  | n + 1, s, e, e', k, h => by
    cases s with
    | seq a b =>
      have h : (match ex C wf a e with
        | .next env1 => ex C wf (tke n b) env1
        | .brk e => RS.brk e | .cont e => .cont e | .ret d => .ret d | .exc c e => .exc c e | .fail => .fail) = .next e' := h
      cases r : ex C wf a e with
      | next e1 =>
        rw [r] at h
        rw [ex_seq r]
        exact tke_drp n b k h
      | _ => rw [r] at h; cases h
    | _ => cases k
/-! ### places in an expression -/
inductive Ct
  | h | bl (o : Op) (c : Ct) (b : X) | br (o : Op) (a : X) (c : Ct) | il (c : Ct) (b : X) | ir (a : X) (c : Ct) | cl (c : Ct) (b : X) | cr (a : X) (c : Ct) | ca (f : Nat) (c : Ct) | bt (f : Bf) (c : Ct) | ml (o : Cm) (c : Ct) (b : X) | mr (o : Cm) (a : X) (c : Ct) | ls (c : Ct) | nt (c : Ct)
def fil : Ct → X → X
  | .h, x => x
  | .bl o c b, x => .bin o (fil c x) b
  | .br o a c, x => .bin o a (fil c x)
  | .il c b, x => .ix (fil c x) b
  | .ir a c, x => .ix a (fil c x)
  | .cl c b, x => .cons (fil c x) b
  | .cr a c, x => .cons a (fil c x)
  | .ca f c, x => .call f (fil c x)
  | .bt f c, x => .blt f (fil c x)
  | .ml o c b, x => .cmp o (fil c x) b
  | .mr o a c, x => .cmp o a (fil c x)
  | .ls c, x => .lst (fil c x)
  | .nt c, x => .no (fil c x)
theorem fil_eq {C : Nat → List PyData → R} {e : List SV} {x y : X} (h : ev C x e = ev C y e) : ∀ c : Ct, ev C (fil c x) e = ev C (fil c y) e
  | .h => h
  | .bl o c b => by show (ev C (fil c x) e).bind _ = (ev C (fil c y) e).bind _; rw [fil_eq h c]
  | .br o a c => by show (ev C a e).bind (fun u => (ev C (fil c x) e).bind _) = (ev C a e).bind (fun u => (ev C (fil c y) e).bind _); rw [fil_eq h c]
  | .il c b => by show (ev C (fil c x) e).bind _ = (ev C (fil c y) e).bind _; rw [fil_eq h c]
  | .ir a c => by show (ev C a e).bind (fun u => (ev C (fil c x) e).bind _) = (ev C a e).bind (fun u => (ev C (fil c y) e).bind _); rw [fil_eq h c]
  | .cl c b => by show (ev C (fil c x) e).bind _ = (ev C (fil c y) e).bind _; rw [fil_eq h c]
  | .cr a c => by show (ev C a e).bind (fun u => (ev C (fil c x) e).bind _) = (ev C a e).bind (fun u => (ev C (fil c y) e).bind _); rw [fil_eq h c]
  | .ca f c => by show (ev C (fil c x) e).bind _ = (ev C (fil c y) e).bind _; rw [fil_eq h c]
  | .bt f c => by show (ev C (fil c x) e).bind _ = (ev C (fil c y) e).bind _; rw [fil_eq h c]
  | .ml o c b => by show (ev C (fil c x) e).bind _ = (ev C (fil c y) e).bind _; rw [fil_eq h c]
  | .mr o a c => by show (ev C a e).bind (fun u => (ev C (fil c x) e).bind _) = (ev C a e).bind (fun u => (ev C (fil c y) e).bind _); rw [fil_eq h c]
  | .ls c => by show (ev C (fil c x) e).bind _ = (ev C (fil c y) e).bind _; rw [fil_eq h c]
  | .nt c => by show (ev C (fil c x) e).bind _ = (ev C (fil c y) e).bind _; rw [fil_eq h c]
/-! ### draws -/
section
variable {C : Nat → List PyData → R} {wf : Nat} {e : List SV} {L : List Int}
theorem nth_get : ∀ {xs : List PyData} {k : Nat} {x : PyData}, xs[k]? = some x → nthF xs k = .ok x
  | [], k, x, h => by simp at h
  | y :: ys, 0, x, h => by
    have h : some y = some x := by simpa using h
    cases h; rfl
  | y :: ys, k + 1, x, h => nth_get (xs := ys) (k := k) (by simpa using h)
theorem ev_v {i : Nat} {d : PyData} (h : getS e i = .val d) : ev C (.v i) e = .ok d := by
  show (match getS e i with | .val d => R.ok d | _ => .fail) = _
  rw [h]
theorem ev_ix {a b : X} {d : PyData} {i : Int} (ha : ev C a e = .ok d) (hb : ev C b e = .ok (.int i)) : ev C (.ix a b) e = ixF d (.int i) := by
  show (ev C a e).bind (fun x => (ev C b e).bind fun y => ixF x y) = _
  rw [ha, hb]; rfl
theorem ev_bin {o : Op} {a b : X} {x y : PyData} (ha : ev C a e = .ok x) (hb : ev C b e = .ok y) : ev C (.bin o a b) e = binF o x y := by
  show (ev C a e).bind (fun x => (ev C b e).bind fun y => binF o x y) = _
  rw [ha, hb]; rfl
theorem small_nat {k : Nat} (h : k < 1000000) : small (Int.ofNat k) = true := by
  unfold small
  rw [ES.nblt, decide_eq_true_iff]
  show k < _
  omega
theorem ixl {xs : List PyData} {k : Nat} {x : PyData} (hk : k < 1000000) (h : xs[k]? = some x) : ixF (.list xs) (.int (.ofNat k)) = .ok x ∧ ixF (.tuple xs) (.int (.ofNat k)) = .ok x := by
  constructor
  · show (match small (.ofNat k) with | true => nthF xs (ixI (lenF xs) (.ofNat k)) | false => .fail) = _
    rw [small_nat hk]; exact nth_get h
  · show (match small (.ofNat k) with | true => nthF xs (ixI (lenF xs) (.ofNat k)) | false => .fail) = _
    rw [small_nat hk]; exact nth_get h
/-- the k-th draw -/
theorem ev_draw {a : X} {k : Nat} (h1 : getS e 1 = .val (.list (L.map .int))) (ha : ev C a e = .ok (.int (.ofNat k))) (hk : k < L.length) (hs : k < 1000000) : ∃ z, ev C (.ix (.v 1) a) e = .ok (.int z) := by
  refine ⟨L[k], ?_⟩
  rw [ev_ix (ev_v h1) ha]
  exact (ixl hs (by rw [List.getElem?_map, List.getElem?_eq_getElem hk]; rfl)).1
theorem ev_mul {a : X} {z : Int} {m : Nat} (ha : ev C a e = .ok (.int z)) (hm : m < 1000000) : ∃ z', ev C (.bin .mul a (.c (.int (.ofNat m)))) e = .ok (.int z') := by
  refine ⟨Int.mul z (Int.ofNat m), (ev_bin ha (b := .c (.int (.ofNat m))) (y := .int (.ofNat m)) rfl).trans ?_⟩
  show (match Nat.blt z.natAbs 18446744073709551616 || Nat.blt m 18446744073709551616 with | true => R.ok (.int (Int.mul z (Int.ofNat m))) | false => .fail) = _
  have : Nat.blt m 18446744073709551616 = true := by rw [ES.nblt, decide_eq_true_iff]; omega
  rw [this, Bool.or_true]
theorem mod_nat {n : Int} {m : Nat} (hm : 0 < m) : ∃ r : Nat, r < m ∧ Int.fmod n (Int.ofNat m) = Int.ofNat r := by
  have h0 : 0 ≤ Int.fmod n (m : Int) := Int.fmod_nonneg_of_pos _ (by omega)
  have h1 : Int.fmod n (m : Int) < m := Int.fmod_lt_of_pos _ (by omega)
  refine ⟨(Int.fmod n (m : Int)).toNat, by omega, ?_⟩
  show Int.fmod n (m : Int) = ((Int.fmod n (m : Int)).toNat : Int)
  omega
/-- a draw's rest by m is one of 0 .. m - 1 -/
theorem ev_rest {a b : X} {z : Int} {m : Nat} (ha : ev C a e = .ok (.int z)) (hb : ev C b e = .ok (.int (.ofNat m))) (hm : 0 < m) : ∃ r, r < m ∧ ev C (.bin .mod a b) e = ev C (.c (.int (.ofNat r))) e := by
  obtain ⟨r, hr, h⟩ := mod_nat (n := z) hm
  refine ⟨r, hr, ?_⟩
  rw [ev_bin ha hb]
  show (match Nat.blt 0 (Int.ofNat m).natAbs with | true => R.ok (.int (Int.fmod z (Int.ofNat m))) | false => .fail) = R.ok (.int (.ofNat r))
  have : Nat.blt 0 (Int.ofNat m).natAbs = true := by rw [ES.nblt, decide_eq_true_iff]; exact hm
  rw [this, h]
theorem set_fil {q : Pt} {c : Ct} {x y : X} (h : ev C x e = ev C y e) : ex C wf (.set q (fil c x)) e = ex C wf (.set q (fil c y)) e := by
  show (ev C (fil c x) e).st e _ = (ev C (fil c y) e).st e _
  rw [fil_eq h c]
theorem ret_fil {c : Ct} {x y : X} (h : ev C x e = ev C y e) : ex C wf (.ret (fil c x)) e = ex C wf (.ret (fil c y)) e := by
  show (ev C (fil c x) e).st e _ = (ev C (fil c y) e).st e _
  rw [fil_eq h c]
theorem seq_eq {a a' b : S} (h : ex C wf a e = ex C wf a' e) : ex C wf (.seq a b) e = ex C wf (.seq a' b) e := by
  show (match ex C wf a e with
    | .next env1 => ex C wf b env1
    | .brk e => RS.brk e | .cont e => .cont e | .ret d => .ret d | .exc c e => .exc c e | .fail => .fail) = (match ex C wf a' e with
    | .next env1 => ex C wf b env1
    | .brk e => RS.brk e | .cont e => .cont e | .ret d => .ret d | .exc c e => .exc c e | .fail => .fail)
  rw [h]
end
end EV
end

set_option Elab.async false
set_option linter.all false
set_option autoImplicit false
set_option maxRecDepth 100000
set_option maxHeartbeats 4000007
/-! EW: words of any length: a look at a word, a weight turned by its letters, a row of things changed by its letters. -/
noncomputable section
namespace EV
open PySem

def nat (a : Nat) : PyData := .int (.ofNat a)
def nats (r : List Nat) : List PyData := r.map nat
theorem nats_cons (a : Nat) (r : List Nat) : nats (a :: r) = nat a :: nats r := rfl
theorem tupN_eq (r : List Nat) : tupN r = .tuple (nats r) := rfl
theorem lenF_nats (r : List Nat) : lenF (nats r) = r.length := by rw [ES.lenF_eq]; exact List.length_map ..
/-- a def's call -/
theorem call_eq {T : Nat → Option Fn} {wf k f : Nat} {F : Fn} {ds : List PyData} (hT : T f = some F) (hl : lenF ds = F.np) : callF T wf (k + 1) f ds = (match ex (callF T wf k) wf F.body (argS ds (Nat.sub F.ns F.np)) with
      | .next _ => .ok .none
      | .ret d => .ok d
      | .exc c _ => .exc c
      | _ => .fail) := by
  show (match T f with
    | none => R.fail
    | some F => match Nat.beq (lenF ds) F.np with
      | false => .fail
      | true => match ex (callF T wf k) wf F.body (argS ds (Nat.sub F.ns F.np)) with
        | .next _ => .ok .none
        | .ret d => .ok d
        | .exc c _ => .exc c
        | _ => .fail) = _
  rw [hT]
  dsimp only
  rw [hl, Nat.beq_refl]
theorem call_ret {T : Nat → Option Fn} {wf k f : Nat} {F : Fn} {ds : List PyData} {d : PyData} (hT : T f = some F) (hl : lenF ds = F.np) (h : ex (callF T wf k) wf F.body (argS ds (Nat.sub F.ns F.np)) = .ret d) : callF T wf (k + 1) f ds = .ok d := by
  rw [call_eq hT hl, h]
theorem call_next {T : Nat → Option Fn} {wf k f : Nat} {F : Fn} {ds : List PyData} {e : List SV} (hT : T f = some F) (hl : lenF ds = F.np) (h : ex (callF T wf k) wf F.body (argS ds (Nat.sub F.ns F.np)) = .next e) : callF T wf (k + 1) f ds = .ok .none := by
  rw [call_eq hT hl, h]
section
variable {C : Nat → List PyData → R} {wf : Nat}
theorem ev_call1 {f : Nat} {a : X} {e : List SV} {x : PyData} (ha : ev C a e = .ok x) : ev C (.call f (.cons a .nil)) e = C f [x] := by
  show (((ev C a e).bind fun u => (R.ok (.tuple [])).bind fun y => match y with | .tuple ys => .ok (.tuple (u :: ys)) | _ => .fail).bind fun x => match x with | .tuple xs => C f xs | _ => .fail) = _
  rw [ha]; rfl
theorem ev_call2 {f : Nat} {a b : X} {e : List SV} {x y : PyData} (ha : ev C a e = .ok x) (hb : ev C b e = .ok y) : ev C (.call f (.cons a (.cons b .nil))) e = C f [x, y] := by
  show (((ev C a e).bind fun u => ((ev C b e).bind fun v => (R.ok (.tuple [])).bind fun y => match y with | .tuple ys => .ok (.tuple (v :: ys)) | _ => .fail).bind fun y => match y with | .tuple ys => .ok (.tuple (u :: ys)) | _ => .fail).bind fun x => match x with | .tuple xs => C f xs | _ => .fail) = _
  rw [ha, hb]; rfl
theorem ev_call3 {f : Nat} {a b c : X} {e : List SV} {x y z : PyData} (ha : ev C a e = .ok x) (hb : ev C b e = .ok y) (hc : ev C c e = .ok z) : ev C (.call f (.cons a (.cons b (.cons c .nil)))) e = C f [x, y, z] := by
  show (((ev C a e).bind fun u => ((ev C b e).bind fun v => ((ev C c e).bind fun w => (R.ok (.tuple [])).bind fun y => match y with | .tuple ys => .ok (.tuple (w :: ys)) | _ => .fail).bind fun y => match y with | .tuple ys => .ok (.tuple (v :: ys)) | _ => .fail).bind fun y => match y with | .tuple ys => .ok (.tuple (u :: ys)) | _ => .fail).bind fun x => match x with | .tuple xs => C f xs | _ => .fail) = _
  rw [ha, hb, hc]; rfl
theorem ev_blt1 {f : Bf} {a : X} {e : List SV} {x : PyData} (ha : ev C a e = .ok x) : ev C (.blt f (.cons a .nil)) e = bltF f [x] := by
  show (((ev C a e).bind fun u => (R.ok (.tuple [])).bind fun y => match y with | .tuple ys => .ok (.tuple (u :: ys)) | _ => .fail).bind fun x => match x with | .tuple xs => bltF f xs | _ => .fail) = _
  rw [ha]; rfl
theorem ev_cmp {o : Cm} {a b : X} {e : List SV} {x y : PyData} (ha : ev C a e = .ok x) (hb : ev C b e = .ok y) : ev C (.cmp o a b) e = cmpF o x y := by
  show (ev C a e).bind (fun x => (ev C b e).bind fun y => cmpF o x y) = _
  rw [ha, hb]; rfl
theorem ex_expr {x : X} {e : List SV} {d : PyData} (h : ev C x e = .ok d) : ex C wf (.expr x) e = .next e := by
  show (ev C x e).st e (fun _ => .next e) = _
  rw [h]; rfl
theorem ex_ret {x : X} {e : List SV} {d : PyData} (h : ev C x e = .ok d) : ex C wf (.ret x) e = .ret d := by
  show (ev C x e).st e (fun d => .ret d) = _
  rw [h]; rfl
/-! ### all of a row -/
theorem gen_all {bnd : PyData → Option (List SV)} {c y : List SV → R} : ∀ (w : List PyData), (∀ a ∈ w, ∃ e, bnd a = some e ∧ c e = .ok (.bool true) ∧ y e = .ok (.bool true)) → genL true bnd c y w = rb true
  | [], _ => rfl
  | x :: xs, h => by
    obtain ⟨e, h1, h2, h3⟩ := h x (List.mem_cons_self ..)
    show (match bnd x with
      | none => R.fail
      | some env => match c env with
        | .ok (.bool true) => (match y env with
          | .ok (.bool true) => (match (generalizing := false) true with | true => genL true bnd c y xs | false => rb true)
          | .ok (.bool false) => (match (generalizing := false) true with | true => rb false | false => genL true bnd c y xs)
          | _ => .fail)
        | .ok (.bool false) => genL true bnd c y xs
        | _ => .fail) = _
    rw [h1]
    dsimp only
    rw [h2]
    dsimp only
    rw [h3]
    exact gen_all xs fun a m => h a (List.mem_cons_of_mem _ m)
/-! ### a look at a word -/
/-- check_word's body -/
def cwB (iT iN x : Nat) : S := .seq (.expr (.call iT (.cons (.v 0) (.nil)))) (.ifS (.or (.no (.blt .isTup (.cons (.v 1) (.nil)))) (.no (.gen true (.nm 2) (.v 1) (.c (.bool true)) (.and (.call iN (.cons (.v 2) (.nil))) (.chn .le .lt (.c (.int 0)) (.v 2) (.blt .len (.cons (.v 0) (.nil))))) [2]))) (.rse x) (.skip))
theorem cw_ok {iT iN x : Nat} {tb : List PyData} {w : List Nat} {u : PyData} (hT : C iT [.tuple tb] = .ok u) (hN : ∀ a : Nat, C iN [nat a] = .ok (.bool true)) (hf : w.length ≤ 16000000) (hw : ∀ a ∈ w, a < tb.length) : ex C wf (cwB iT iN x) [.val (.tuple tb), .val (tupN w), .non] = .next [.val (.tuple tb), .val (tupN w), .non] := by
  have g : genL true (fun d => bindP (.nm 2) d (wipeS [.val (.tuple tb), .val (tupN w), .non] [2])) (ev C (.c (.bool true))) (ev C (.and (.call iN (.cons (.v 2) (.nil))) (.chn .le .lt (.c (.int 0)) (.v 2) (.blt .len (.cons (.v 0) (.nil)))))) (nats w) = rb true := by
    refine gen_all _ fun a m => ?_
    obtain ⟨k, hk, rfl⟩ := List.mem_map.mp m
    refine ⟨[.val (.tuple tb), .val (tupN w), .val (nat k)], rfl, rfl, ?_⟩
    show ((ev C (.call iN (.cons (.v 2) (.nil))) [.val (.tuple tb), .val (tupN w), .val (nat k)]).bind fun x => match x with | .bool true => ev C (.chn .le .lt (.c (.int 0)) (.v 2) (.blt .len (.cons (.v 0) (.nil)))) [.val (.tuple tb), .val (tupN w), .val (nat k)] | .bool false => rb false | _ => .fail) = _
    rw [ev_call1 (x := nat k) rfl, hN]
    show cmpF .lt (nat k) (.int (Int.ofNat (lenF tb))) = _
    rw [ES.lenF_eq]
    show rb (Nat.blt k tb.length) = _
    rw [ES.nblt, decide_eq_true (hw k hk)]; rfl
  have e1 : ex C wf (.expr (.call iT (.cons (.v 0) (.nil)))) [.val (.tuple tb), .val (tupN w), .non] = .next [.val (.tuple tb), .val (tupN w), .non] := ex_expr (d := u) (by rw [ev_call1 (x := .tuple tb) rfl, hT])
  unfold cwB
  rw [ex_seq e1]
  refine (ex_if (k := false) ?_).trans rfl
  have fit : (fitN (lenF (nats w)) && noOwn [.val (.tuple tb), .val (tupN w), .non] [2]) = true := by
    rw [lenF_nats]
    have : fitN w.length = true := by unfold fitN; rw [ES.nble, decide_eq_true_iff]; exact hf
    rw [this]; rfl
  have g2 : ev C (.gen true (.nm 2) (.v 1) (.c (.bool true)) (.and (.call iN (.cons (.v 2) (.nil))) (.chn .le .lt (.c (.int 0)) (.v 2) (.blt .len (.cons (.v 0) (.nil))))) [2]) [.val (.tuple tb), .val (tupN w), .non] = .ok (.bool true) := by
    show (match fitN (lenF (nats w)) && noOwn [.val (.tuple tb), .val (tupN w), .non] [2] with | true => genL true (fun d => bindP (.nm 2) d (wipeS [.val (.tuple tb), .val (tupN w), .non] [2])) (ev C (.c (.bool true))) (ev C (.and (.call iN (.cons (.v 2) (.nil))) (.chn .le .lt (.c (.int 0)) (.v 2) (.blt .len (.cons (.v 0) (.nil)))))) (nats w) | false => .fail) = _
    rw [fit]
    exact g
  show ((ev C (.gen true (.nm 2) (.v 1) (.c (.bool true)) (.and (.call iN (.cons (.v 2) (.nil))) (.chn .le .lt (.c (.int 0)) (.v 2) (.blt .len (.cons (.v 0) (.nil))))) [2]) [.val (.tuple tb), .val (tupN w), .non]).bind fun x => match x with | .bool b => rb (!b) | _ => .fail) = _
  rw [g2]; rfl
/-! ### a weight turned by a word -/
/-- acted_weight's body -/
def awB (iW iR iT : Nat) : S := .seq (.expr (.call iW (.cons (.v 0) (.cons (.v 1) (.nil))))) (.seq (.expr (.call iR (.cons (.v 0) (.cons (.v 2) (.nil))))) (.seq (.for (.nm 3) (.rev (.v 1)) (.set (.nm 2) (.call iT (.cons (.v 0) (.cons (.v 3) (.cons (.v 2) (.nil))))))) (.ret (.v 2))))
theorem aw_loop {iT : Nat} {tb W : PyData} {α : Type} {φ : α → PyData} {f : Nat → α → α} {P : α → Prop} {n : Nat} (hs : ∀ a r, a < n → P r → C iT [tb, nat a, φ r] = .ok (φ (f a r)) ∧ P (f a r)) : ∀ (l : List Nat) (r : α) (k : SV), (∀ a ∈ l, a < n) → P r → ∃ k', forL (.nm 3) (ex C wf (.set (.nm 2) (.call iT (.cons (.v 0) (.cons (.v 3) (.cons (.v 2) (.nil))))))) (nats l) [.val tb, .val W, .val (φ r), k] = .next [.val tb, .val W, .val (φ (l.foldl (fun r a => f a r) r)), k'] ∧ P (l.foldl (fun r a => f a r) r)
  | [], r, k, _, p => ⟨k, rfl, p⟩
  | a :: l, r, k, hl, p => by
    obtain ⟨h1, h2⟩ := hs a r (hl a (List.mem_cons_self ..)) p
    obtain ⟨k', h3, h4⟩ := aw_loop hs l (f a r) (.val (nat a)) (fun b m => hl b (List.mem_cons_of_mem _ m)) h2
    refine ⟨k', ?_, h4⟩
    rw [nats_cons, ES.forL_cons]
    show (match ex C wf (.set (.nm 2) (.call iT (.cons (.v 0) (.cons (.v 3) (.cons (.v 2) (.nil)))))) [.val tb, .val W, .val (φ r), .val (nat a)] with
      | .next env2 => forL (.nm 3) (ex C wf (.set (.nm 2) (.call iT (.cons (.v 0) (.cons (.v 3) (.cons (.v 2) (.nil))))))) (nats l) env2
      | .cont env2 => forL (.nm 3) (ex C wf (.set (.nm 2) (.call iT (.cons (.v 0) (.cons (.v 3) (.cons (.v 2) (.nil))))))) (nats l) env2
      | .brk env2 => .next env2
      | .ret d => .ret d
      | .exc c env2 => .exc c env2
      | .fail => .fail) = _
    rw [ex_set (d := φ (f a r)) (by rw [ev_call3 (x := tb) (y := nat a) (z := φ r) rfl rfl rfl]; exact h1)]
    exact h3
theorem aw_ok {iW iR iT : Nat} {tb : PyData} {α : Type} {φ : α → PyData} {f : Nat → α → α} {P : α → Prop} {n : Nat} {w : List Nat} {r : α} {u u' : PyData} (hW : C iW [tb, tupN w] = .ok u) (hR : C iR [tb, φ r] = .ok u') (hs : ∀ a r, a < n → P r → C iT [tb, nat a, φ r] = .ok (φ (f a r)) ∧ P (f a r)) (hw : ∀ a ∈ w, a < n) (p : P r) :
    ex C wf (awB iW iR iT) [.val tb, .val (tupN w), .val (φ r), .non] = .ret (φ (w.foldr f r)) ∧ P (w.foldr f r) := by
  obtain ⟨k', h1, h2⟩ := aw_loop (C := C) (wf := wf) (W := tupN w) hs w.reverse r .non (fun a m => hw a (List.mem_reverse.mp m)) p
  rw [List.foldl_reverse] at h1 h2
  refine ⟨?_, h2⟩
  unfold awB
  rw [ex_seq (ex_expr (d := u) (by rw [ev_call2 (x := tb) (y := tupN w) rfl rfl, hW])), ex_seq (ex_expr (d := u') (by rw [ev_call2 (x := tb) (y := φ r) rfl rfl, hR]))]
  have e3 : ex C wf (.for (.nm 3) (.rev (.v 1)) (.set (.nm 2) (.call iT (.cons (.v 0) (.cons (.v 3) (.cons (.v 2) (.nil))))))) [.val tb, .val (tupN w), .val (φ r), .non] = .next [.val tb, .val (tupN w), .val (φ (w.foldr f r)), k'] := by
    show forL (.nm 3) (ex C wf (.set (.nm 2) (.call iT (.cons (.v 0) (.cons (.v 3) (.cons (.v 2) (.nil))))))) (revL (nats w) []) [.val tb, .val (tupN w), .val (φ r), .non] = _
    have : revL (nats w) [] = nats w.reverse := by
      rw [ES.revL_eq, List.append_nil]
      exact List.map_reverse.symm
    rw [this]
    exact h1
  rw [ex_seq e3]
  exact ex_ret rfl
/-! ### things changed by a word -/
def swapAt (a : Nat) (r : List Nat) : List Nat := (r.set a (r.getD (a + 1) 0)).set (a + 1) (r.getD a 0)
theorem setL_nats : ∀ (r : List Nat) (k v : Nat), k < r.length → setL (nats r) k (nat v) = some (nats (r.set k v))
  | [], k, v, h => absurd h (Nat.not_lt_zero _)
  | x :: r, 0, v, h => rfl
  | x :: r, k + 1, v, h => by
    show (match setL (nats r) k (nat v) with | some z => some (nat x :: z) | none => none) = _
    rw [setL_nats r k v (Nat.lt_of_succ_lt_succ h)]; rfl
theorem ixL_nats {r : List Nat} {k : Nat} (h : k < r.length) (hl : r.length < 1000000) : ixF (.list (nats r)) (nat k) = .ok (nat (r.getD k 0)) := by
  refine (ixl (by omega) ?_).1
  show (r.map nat)[k]? = _
  rw [List.getElem?_map, List.getElem?_eq_getElem h, List.getD_eq_getElem?_getD, List.getElem?_eq_getElem h]; rfl
theorem swp_step {e : List SV} {i j a : Nat} {r : List Nat} (hij : i ≠ j) (hi : getS e i = .own (.lst (nats r))) (hj : getS e j = .val (nat a)) (h : a + 1 < r.length) (hl : r.length < 1000000) :
    ex C wf (.swp i (.v j) (.bin .add (.v j) (.c (.int 1))) (.ix (.pk i) (.bin .add (.v j) (.c (.int 1)))) (.ix (.pk i) (.v j))) e = .next (setS e i (.own (.lst (nats (swapAt a r))))) := by
  have vj : ∀ e' : List SV, getS e' j = .val (nat a) → ev C (.v j) e' = .ok (nat a) := fun e' q => ev_v q
  have vj1 : ∀ e' : List SV, getS e' j = .val (nat a) → ev C (.bin .add (.v j) (.c (.int 1))) e' = .ok (nat (a + 1)) := fun e' q => by
    rw [ev_bin (vj e' q) (y := .int 1) rfl]; rfl
  have pi : ev C (.pk i) e = .ok (.list (nats r)) := by
    show (match getS e i with | .val d => R.ok d | .own (.lst ds) => .ok (.list ds) | _ => .fail) = _
    rw [hi]
  have x1 : ev C (.ix (.pk i) (.bin .add (.v j) (.c (.int 1)))) e = .ok (nat (r.getD (a + 1) 0)) := by
    rw [ev_ix pi (i := .ofNat (a + 1)) (vj1 e hj)]
    exact ixL_nats h hl
  have x2 : ev C (.ix (.pk i) (.v j)) e = .ok (nat (r.getD a 0)) := by
    rw [ev_ix pi (i := .ofNat a) (vj e hj)]
    exact ixL_nats (by omega) hl
  show (ev C (.ix (.pk i) (.bin .add (.v j) (.c (.int 1)))) e).st e (fun u => (ev C (.ix (.pk i) (.v j)) e).st e fun w => match getS e i with
    | .own (.lst xs) => (ev C (.v j) e).st e fun k => (match k with
      | .int k => (match small k with
        | true => (match setL xs (ixI (lenF xs) k) u with
          | some xs1 => (match ev C (.bin .add (.v j) (.c (.int 1))) (setS e i (.own (.lst xs1))) with
            | .ok (.int l) => (match small l with
              | true => (match setL xs1 (ixI (lenF xs1) l) w with
                | some xs2 => .next (setS e i (.own (.lst xs2)))
                | none => .fail)
              | false => .fail)
            | _ => .fail)
          | none => .fail)
        | false => .fail)
      | _ => .fail)
    | _ => .fail) = _
  rw [x1, x2, hi, vj e hj]
  show (match small (.ofNat a) with
        | true => (match setL (nats r) a (nat (r.getD (a + 1) 0)) with
          | some xs1 => (match ev C (.bin .add (.v j) (.c (.int 1))) (setS e i (.own (.lst xs1))) with
            | .ok (.int l) => (match small l with
              | true => (match setL xs1 (ixI (lenF xs1) l) (nat (r.getD a 0)) with
                | some xs2 => RS.next (setS e i (.own (.lst xs2)))
                | none => .fail)
              | false => .fail)
            | _ => .fail)
          | none => .fail)
        | false => .fail) = _
  rw [small_nat (by omega), setL_nats r a _ (by omega)]
  dsimp only
  rw [vj1 _ (by rw [sl_ne hij]; exact hj)]
  show (match small (.ofNat (a + 1)) with
              | true => (match setL (nats (r.set a (r.getD (a + 1) 0))) (a + 1) (nat (r.getD a 0)) with
                | some xs2 => RS.next (setS e i (.own (.lst xs2)))
                | none => .fail)
              | false => .fail) = _
  rw [small_nat (by omega), setL_nats _ (a + 1) _ (by rw [List.length_set]; exact h)]
  rfl
theorem swapAt_len (a : Nat) (r : List Nat) : (swapAt a r).length = r.length := by unfold swapAt; rw [List.length_set, List.length_set]
theorem swp_loop {i j : Nat} (hij : i ≠ j) : ∀ (w r : List Nat) (e : List SV), i < e.length → j < e.length → getS e i = .own (.lst (nats r)) → (∀ a ∈ w, a + 1 < r.length) → r.length < 1000000 →
    ∃ e', forL (.nm j) (ex C wf (.swp i (.v j) (.bin .add (.v j) (.c (.int 1))) (.ix (.pk i) (.bin .add (.v j) (.c (.int 1)))) (.ix (.pk i) (.v j)))) (nats w) e = .next e' ∧ getS e' i = .own (.lst (nats (w.foldl (fun r a => swapAt a r) r))) ∧ e'.length = e.length ∧ (∀ k, k ≠ i → k ≠ j → getS e' k = getS e k) ∧ (w = [] ∧ e' = e ∨ ∃ a, getS e' j = .val a)
  | [], r, e, li, lj, hi, _, _ => ⟨e, rfl, hi, rfl, fun _ _ _ => rfl, .inl ⟨rfl, rfl⟩⟩
  | a :: w, r, e, li, lj, hi, hw, hl => by
    have h1 := swp_step (C := C) (wf := wf) (e := setS e j (.val (nat a))) (a := a) hij (by rw [sl_ne (fun z => hij z.symm)]; exact hi) (sl_same lj) (hw a (List.mem_cons_self ..)) hl
    obtain ⟨e', h2, h3, h4, h5, h6⟩ := swp_loop hij w (swapAt a r) (setS (setS e j (.val (nat a))) i (.own (.lst (nats (swapAt a r))))) (by rw [sl_len, sl_len]; exact li) (by rw [sl_len, sl_len]; exact lj) (sl_same (by rw [sl_len]; exact li)) (fun b m => by rw [swapAt_len]; exact hw b (List.mem_cons_of_mem _ m)) (by rw [swapAt_len]; exact hl)
    refine ⟨e', ?_, h3, by rw [h4, sl_len, sl_len], fun k hi hj => by rw [h5 k hi hj, sl_ne (fun z => hi z.symm), sl_ne (fun z => hj z.symm)], .inr ?_⟩
    · rw [nats_cons, ES.forL_cons]
      show (match ex C wf (.swp i (.v j) (.bin .add (.v j) (.c (.int 1))) (.ix (.pk i) (.bin .add (.v j) (.c (.int 1)))) (.ix (.pk i) (.v j))) (setS e j (.val (nat a))) with
        | .next env2 => forL (.nm j) (ex C wf (.swp i (.v j) (.bin .add (.v j) (.c (.int 1))) (.ix (.pk i) (.bin .add (.v j) (.c (.int 1)))) (.ix (.pk i) (.v j)))) (nats w) env2
        | .cont env2 => forL (.nm j) (ex C wf (.swp i (.v j) (.bin .add (.v j) (.c (.int 1))) (.ix (.pk i) (.bin .add (.v j) (.c (.int 1)))) (.ix (.pk i) (.v j)))) (nats w) env2
        | .brk env2 => .next env2
        | .ret d => .ret d
        | .exc c env2 => .exc c env2
        | .fail => .fail) = _
      rw [h1]
      exact h2
    · rcases h6 with ⟨_, z⟩ | z
      · exact ⟨nat a, by rw [z, sl_ne hij, sl_same lj]⟩
      · exact z
/-- a change of two numbers -/
def sv (a x : Nat) : Nat := if x = a then a + 1 else if x = a + 1 then a else x
theorem swapAt_map (f : Nat → Nat) {a : Nat} {r : List Nat} (h : a + 1 < r.length) : swapAt a (r.map f) = (swapAt a r).map f := by
  unfold swapAt
  have g : ∀ k, k < r.length → (r.map f).getD k 0 = f (r.getD k 0) := fun k hk => by
    rw [List.getD_eq_getElem?_getD, List.getD_eq_getElem?_getD, List.getElem?_map, List.getElem?_eq_getElem hk]; rfl
  rw [g a (by omega), g (a + 1) h, List.map_set, List.map_set]
theorem fold_map (f : Nat → Nat) : ∀ (w : List Nat) {r : List Nat}, (∀ a ∈ w, a + 1 < r.length) → w.foldl (fun r a => swapAt a r) (r.map f) = (w.foldl (fun r a => swapAt a r) r).map f
  | [], r, _ => rfl
  | a :: w, r, h => by
    show w.foldl (fun r a => swapAt a r) (swapAt a (r.map f)) = _
    rw [swapAt_map f (h a (List.mem_cons_self ..))]
    exact fold_map f w fun b m => by rw [swapAt_len]; exact h b (List.mem_cons_of_mem _ m)
theorem fold_lr {id : List Nat} (hid : ∀ a, a + 1 < id.length → swapAt a id = id.map (sv a)) : ∀ (w : List Nat), (∀ a ∈ w, a + 1 < id.length) → w.foldl (fun r a => swapAt a r) id = w.foldr (fun a r => r.map (sv a)) id
  | [], _ => rfl
  | a :: w, h => by
    show w.foldl (fun r a => swapAt a r) (swapAt a id) = (w.foldr (fun a r => r.map (sv a)) id).map (sv a)
    rw [hid a (h a (List.mem_cons_self ..)), fold_map (sv a) w fun b m => h b (List.mem_cons_of_mem _ m), fold_lr hid w fun b m => h b (List.mem_cons_of_mem _ m)]
/-! ### rows of numbers, compared -/
theorem eqL_nats : ∀ r : List Nat, eqL (eqF 60) (nats r) (nats r) = true
  | [] => rfl
  | a :: r => by
    show (match eqF 60 (nat a) (nat a) with | true => eqL (eqF 60) (nats r) (nats r) | false => false) = true
    have : eqF 60 (nat a) (nat a) = true := by show Nat.beq a a = true; exact Nat.beq_refl a
    rw [this]; exact eqL_nats r
theorem shalL_nats : ∀ r : List Nat, shalL (shal 59) (nats r) = true
  | [] => rfl
  | a :: r => shalL_nats r
theorem ne_self (r : List Nat) : cmpF .ne (tupN r) (tupN r) = rb false := by
  show (match shalL (shal 59) (nats r) with | true => rb (!eqL (eqF 60) (nats r) (nats r)) | false => .fail) = _
  rw [shalL_nats, eqL_nats]; rfl
/-! ### a row of draws -/
theorem compL_rng {e : List SV} {k : Nat} {elt : X} {m N : Nat} (h : ∀ (i : Nat), i < N → ∃ r, r < m ∧ ev C elt (setS e k (.val (nat i))) = .ok (nat r)) : ∀ (j i : Nat), i + j ≤ N → ∃ w : List Nat, w.length = j ∧ (∀ a ∈ w, a < m) ∧ compL (fun d => bindP (.nm k) d e) (ev C (.c (.bool true))) (ev C elt) (rngF j (.ofNat i)) = some (nats w)
  | 0, i, _ => ⟨[], rfl, (fun _ h => by cases h), rfl⟩
  | j + 1, i, hn => by
    obtain ⟨r, hr, h1⟩ := h i (by omega)
    obtain ⟨w, hw, h2, h3⟩ := compL_rng h j (i + 1) (by omega)
    refine ⟨r :: w, congrArg Nat.succ hw, fun a ha => ?_, ?_⟩
    · rcases List.mem_cons.mp ha with z | z
      · rw [z]; exact hr
      · exact h2 a z
    · show (match ev C elt (setS e k (.val (nat i))) with | .ok y => (match compL (fun d => bindP (.nm k) d e) (ev C (.c (.bool true))) (ev C elt) (rngF j (.ofNat (i + 1))) with | some r => some (y :: r) | none => none) | _ => none) = _
      rw [h1, h3]; rfl
/-- tuple([a draw's rest by m for k in range(n)]) -/
theorem word_draw {e : List SV} {L : List Int} {k s0 n : Nat} {Y M : X} {m : Nat} {nn : Nat} (f : Fi nn e) (lk : k < nn) (h1 : getS e 1 = .val (.list (L.map .int))) (hk : 1 ≠ k) (hY : ev C Y e = .ok (nat n)) (hM : ∀ x, ev C M (setS (setS e k .non) k x) = .ok (nat m)) (hm : 0 < m) (hs : s0 + n ≤ L.length) (hn : n < 1000) (hs0 : s0 < 1000) :
    ∃ w : List Nat, w.length = n ∧ (∀ a ∈ w, a < m) ∧ ev C (.blt .tuple (.cons (.comp (.nm k) (.rng (.c (.int 0)) Y) (.c (.bool true)) (.bin .mod (.ix (.v 1) (.bin .add (.c (.int (.ofNat s0))) (.v k))) M) [k]) (.nil))) e = .ok (tupN w) := by
  have lk : k < e.length := by rw [f.len]; exact lk
  have el : ∀ i, i < n → ∃ r, r < m ∧ ev C (.bin .mod (.ix (.v 1) (.bin .add (.c (.int (.ofNat s0))) (.v k))) M) (setS (wipeS e [k]) k (.val (nat i))) = .ok (nat r) := fun i hi => by
    have g1 : getS (setS (setS e k .non) k (.val (nat i))) 1 = .val (.list (L.map .int)) := by rw [sl_ne (fun z => hk z.symm), sl_ne (fun z => hk z.symm)]; exact h1
    have gk : getS (setS (setS e k .non) k (.val (nat i))) k = .val (nat i) := sl_same (by rw [sl_len]; exact lk)
    have ha : ev C (.bin .add (.c (.int (.ofNat s0))) (.v k)) (setS (setS e k .non) k (.val (nat i))) = .ok (.int (.ofNat (s0 + i))) := by
      rw [ev_bin (x := .int (.ofNat s0)) rfl (ev_v gk)]; rfl
    obtain ⟨z, hz⟩ := ev_draw (C := C) g1 ha (by omega) (by omega)
    obtain ⟨r, hr, h⟩ := ev_rest hz (hM _) hm
    exact ⟨r, hr, h⟩
  obtain ⟨w, w1, w2, w3⟩ := compL_rng (e := wipeS e [k]) el n 0 (by omega)
  refine ⟨w, w1, w2, ?_⟩
  have hr : ev C (.rng (.c (.int 0)) Y) e = .ok (.list (rngF n 0)) := by
    show (ev C Y e).bind (fun y => rngR (.int 0) y) = _
    rw [hY]
    show (match small 0 && small (.ofNat n) with | true => R.ok (.list (rngF (Int.sub (.ofNat n) 0).toNat 0)) | false => .fail) = _
    rw [small_nat (by omega)]
    have : (Int.sub (Int.ofNat n) 0).toNat = n := by show ((n : Int) - 0).toNat = n; omega
    rw [this]; rfl
  have hc : ev C (.comp (.nm k) (.rng (.c (.int 0)) Y) (.c (.bool true)) (.bin .mod (.ix (.v 1) (.bin .add (.c (.int (.ofNat s0))) (.v k))) M) [k]) e = .ok (.list (nats w)) := by
    show (ev C (.rng (.c (.int 0)) Y) e).bind (fun x => match itemsF x with | some xs => (match fitN (lenF xs) && noOwn e [k] with | true => lstR (compL (fun d => bindP (.nm k) d (wipeS e [k])) (ev C (.c (.bool true))) (ev C (.bin .mod (.ix (.v 1) (.bin .add (.c (.int (.ofNat s0))) (.v k))) M)) xs) | false => .fail) | none => .fail) = _
    rw [hr]
    show (match fitN (lenF (rngF n 0)) && noOwn e [k] with | true => lstR (compL (fun d => bindP (.nm k) d (wipeS e [k])) (ev C (.c (.bool true))) (ev C (.bin .mod (.ix (.v 1) (.bin .add (.c (.int (.ofNat s0))) (.v k))) M)) (rngF n 0)) | false => .fail) = _
    have l : ∀ (n : Nat) (i : Int), lenF (rngF n i) = n := fun n => by
      induction n with
      | zero => intro i; rfl
      | succ n ih => intro i; show Nat.add (lenF (rngF n (Int.add i 1))) 1 = _; rw [ih]
    have ft : fitN n = true := by unfold fitN; rw [ES.nble, decide_eq_true_iff]; omega
    have no : noOwn e [k] = true := by
      show (match getS e k with | .own _ => false | _ => true) = true
      cases q : getS e k with
      | own ds => exact absurd q (f.no k ds)
      | val d => rfl
      | non => rfl
    rw [l, ft, no]
    have w3 : compL (fun d => bindP (.nm k) d (wipeS e [k])) (ev C (.c (.bool true))) (ev C (.bin .mod (.ix (.v 1) (.bin .add (.c (.int (.ofNat s0))) (.v k))) M)) (rngF n 0) = some (nats w) := w3
    rw [w3]; rfl
  rw [ev_blt1 hc]; rfl
end
end EV
end

set_option autoImplicit false
set_option linter.all false
set_option maxRecDepth 100000
noncomputable section
namespace TB
open EV PySem
def f0 : Fn := ⟨1, 1, .ret (.and (.blt .isInt (.cons (.v 0) (.nil))) (.and (.cmp .isnt (.v 0) (.c (.bool true))) (.cmp .isnt (.v 0) (.c (.bool false)))))⟩
def f1 : Fn := ⟨2, 4, .seq (.set (.nm 2) (.ix (.v 0) (.v 1))) (.seq (.ifS (.or (.no (.blt .isTup (.cons (.v 2) (.nil)))) (.cmp .ne (.blt .len (.cons (.v 2) (.nil))) (.blt .len (.cons (.v 0) (.nil))))) (.ret (.c (.bool false))) (.skip)) (.seq (.for (.nm 3) (.rng (.c (.int 0)) (.blt .len (.cons (.v 2) (.nil)))) (.seq (.ifS (.no (.call 0 (.cons (.ix (.v 2) (.v 3)) (.nil)))) (.ret (.c (.bool false))) (.skip)) (.ifS (.ite (.cmp .eq (.v 3) (.v 1)) (.cmp .ne (.ix (.v 2) (.v 3)) (.c (.int 2))) (.or (.cmp .gt (.ix (.v 2) (.v 3)) (.c (.int 0))) (.cmp .lt (.ix (.v 2) (.v 3)) (.c (.int (-9)))))) (.ret (.c (.bool false))) (.skip)))) (.ret (.c (.bool true)))))⟩
def f2 : Fn := ⟨1, 3, .seq (.ifS (.or (.no (.blt .isTup (.cons (.v 0) (.nil)))) (.or (.cmp .lt (.blt .len (.cons (.v 0) (.nil))) (.c (.int 1))) (.cmp .gt (.blt .len (.cons (.v 0) (.nil))) (.c (.int 8))))) (.rse 0) (.skip)) (.seq (.for (.nm 1) (.rng (.c (.int 0)) (.blt .len (.cons (.v 0) (.nil)))) (.ifS (.no (.call 1 (.cons (.v 0) (.cons (.v 1) (.nil))))) (.rse 0) (.skip))) (.for (.nm 1) (.rng (.c (.int 0)) (.blt .len (.cons (.v 0) (.nil)))) (.for (.nm 2) (.rng (.c (.int 0)) (.v 1)) (.ifS (.cmp .ne (.cmp .eq (.ix (.ix (.v 0) (.v 1)) (.v 2)) (.c (.int 0))) (.cmp .eq (.ix (.ix (.v 0) (.v 2)) (.v 1)) (.c (.int 0)))) (.rse 0) (.skip)))))⟩
def f3 : Fn := ⟨2, 3, .seq (.expr (.call 2 (.cons (.v 0) (.nil)))) (.ifS (.or (.no (.blt .isTup (.cons (.v 1) (.nil)))) (.or (.cmp .ne (.blt .len (.cons (.v 1) (.nil))) (.blt .len (.cons (.v 0) (.nil)))) (.no (.gen true (.nm 2) (.v 1) (.c (.bool true)) (.call 0 (.cons (.v 2) (.nil))) [2])))) (.rse 1) (.skip))⟩
def f4 : Fn := ⟨2, 3, .seq (.expr (.call 2 (.cons (.v 0) (.nil)))) (.ifS (.or (.no (.blt .isTup (.cons (.v 1) (.nil)))) (.no (.gen true (.nm 2) (.v 1) (.c (.bool true)) (.and (.call 0 (.cons (.v 2) (.nil))) (.chn .le .lt (.c (.int 0)) (.v 2) (.blt .len (.cons (.v 0) (.nil))))) [2]))) (.rse 2) (.skip))⟩
def f5 : Fn := ⟨2, 5, .seq (.expr (.call 2 (.cons (.v 0) (.nil)))) (.seq (.expr (.call 2 (.cons (.v 1) (.nil)))) (.seq (.ifS (.cmp .gt (.bin .add (.blt .len (.cons (.v 0) (.nil))) (.blt .len (.cons (.v 1) (.nil)))) (.c (.int 8))) (.rse 0) (.skip)) (.seq (.set (.nm 2) (.comp (.nm 3) (.v 0) (.c (.bool true)) (.bin .add (.v 3) (.blt .tuple (.cons (.comp (.nm 4) (.v 1) (.c (.bool true)) (.c (.int 0)) [4]) (.nil)))) [3])) (.ret (.blt .tuple (.cons (.bin .add (.v 2) (.comp (.nm 3) (.v 1) (.c (.bool true)) (.bin .add (.blt .tuple (.cons (.comp (.nm 4) (.v 0) (.c (.bool true)) (.c (.int 0)) [4]) (.nil))) (.v 3)) [3])) (.nil)))))))⟩
def f6 : Fn := ⟨2, 2, .seq (.ifS (.or (.no (.blt .isStr (.cons (.v 0) (.nil)))) (.or (.kin true [("A", 1), ("B", 2), ("C", 3), ("D", 4), ("E", 6), ("F", 4), ("G", 2)] (.v 0)) (.no (.call 0 (.cons (.v 1) (.nil)))))) (.ret (.c (.bool false))) (.skip)) (.ret (.chn .le .le (.kget [("A", 1), ("B", 2), ("C", 3), ("D", 4), ("E", 6), ("F", 4), ("G", 2)] (.v 0)) (.v 1) (.kget [("A", 8), ("B", 8), ("C", 8), ("D", 8), ("E", 8), ("F", 4), ("G", 2)] (.v 0))))⟩
def f7 : Fn := ⟨2, 3, .seq (.ifS (.cmp .eq (.v 0) (.c (.str "D"))) (.ret (.bin .add (.comp (.nm 2) (.rng (.c (.int 0)) (.bin .sub (.v 1) (.c (.int 2)))) (.c (.bool true)) (.cons (.v 2) (.cons (.bin .add (.v 2) (.c (.int 1))) (.nil))) [2]) (.lst (.cons (.cons (.bin .sub (.v 1) (.c (.int 3))) (.cons (.bin .sub (.v 1) (.c (.int 1))) (.nil))) (.nil))))) (.skip)) (.seq (.ifS (.cmp .eq (.v 0) (.c (.str "E"))) (.ret (.bin .add (.lst (.cons (.cons (.c (.int 0)) (.cons (.c (.int 2)) (.nil))) (.cons (.cons (.c (.int 1)) (.cons (.c (.int 3)) (.nil))) (.cons (.cons (.c (.int 2)) (.cons (.c (.int 3)) (.nil))) (.nil))))) (.comp (.nm 2) (.rng (.c (.int 3)) (.bin .sub (.v 1) (.c (.int 1)))) (.c (.bool true)) (.cons (.v 2) (.cons (.bin .add (.v 2) (.c (.int 1))) (.nil))) [2]))) (.skip)) (.ret (.comp (.nm 2) (.rng (.c (.int 0)) (.bin .sub (.v 1) (.c (.int 1)))) (.c (.bool true)) (.cons (.v 2) (.cons (.bin .add (.v 2) (.c (.int 1))) (.nil))) [2])))⟩
def f8 : Fn := ⟨2, 8, .seq (.ifS (.no (.call 6 (.cons (.v 0) (.cons (.v 1) (.nil))))) (.rse 3) (.skip)) (.seq (.setLL 2 (.comp (.nm 5) (.rng (.c (.int 0)) (.v 1)) (.c (.bool true)) (.comp (.nm 6) (.rng (.c (.int 0)) (.v 1)) (.c (.bool true)) (.ite (.cmp .eq (.v 5) (.v 6)) (.c (.int 2)) (.c (.int 0))) [6]) [5])) (.seq (.for (.cons (.nm 3) (.cons (.nm 4) (.nil))) (.call 7 (.cons (.v 0) (.cons (.v 1) (.nil)))) (.seq (.set2 2 (.v 3) (.v 4) (.neg (.c (.int 1)))) (.set2 2 (.v 4) (.v 3) (.neg (.c (.int 1)))))) (.seq (.ifS (.cmp .eq (.v 0) (.c (.str "B"))) (.set2 2 (.bin .sub (.v 1) (.c (.int 1))) (.bin .sub (.v 1) (.c (.int 2))) (.neg (.c (.int 2)))) (.skip)) (.seq (.ifS (.cmp .eq (.v 0) (.c (.str "C"))) (.set2 2 (.bin .sub (.v 1) (.c (.int 2))) (.bin .sub (.v 1) (.c (.int 1))) (.neg (.c (.int 2)))) (.skip)) (.seq (.ifS (.cmp .eq (.v 0) (.c (.str "F"))) (.set2 2 (.c (.int 2)) (.c (.int 1)) (.neg (.c (.int 2)))) (.skip)) (.seq (.ifS (.cmp .eq (.v 0) (.c (.str "G"))) (.set2 2 (.c (.int 1)) (.c (.int 0)) (.neg (.c (.int 3)))) (.skip)) (.seq (.frz 2) (.ret (.blt .tuple (.cons (.comp (.nm 7) (.v 2) (.c (.bool true)) (.blt .tuple (.cons (.v 7) (.nil))) [7]) (.nil)))))))))))⟩
def f9 : Fn := ⟨1, 4, .seq (.ifS (.no (.blt .isStr (.cons (.v 0) (.nil)))) (.rse 3) (.skip)) (.seq (.set (.nm 1) (.c .none)) (.seq (.for (.nm 2) (.spl (.v 0) (.c (.str "+"))) (.seq (.ifS (.or (.cmp .ne (.blt .len (.cons (.v 2) (.nil))) (.c (.int 2))) (.cmp .notin (.ix (.v 2) (.c (.int 1))) (.c (.str "12345678")))) (.rse 3) (.skip)) (.seq (.set (.nm 3) (.call 8 (.cons (.ix (.v 2) (.c (.int 0))) (.cons (.blt .int (.cons (.ix (.v 2) (.c (.int 1))) (.nil))) (.nil))))) (.seq (.ifS (.and (.cmp .isnt (.v 1) (.c .none)) (.cmp .gt (.bin .add (.blt .len (.cons (.v 1) (.nil))) (.blt .len (.cons (.v 3) (.nil)))) (.c (.int 8)))) (.rse 3) (.skip)) (.set (.nm 1) (.ite (.cmp .is (.v 1) (.c .none)) (.v 3) (.call 5 (.cons (.v 1) (.cons (.v 3) (.nil)))))))))) (.ret (.v 1))))⟩
def f10 : Fn := ⟨3, 4, .ret (.blt .tuple (.cons (.comp (.nm 3) (.rng (.c (.int 0)) (.blt .len (.cons (.v 2) (.nil)))) (.c (.bool true)) (.bin .sub (.ix (.v 2) (.v 3)) (.bin .mul (.ix (.v 2) (.v 1)) (.ix (.ix (.v 0) (.v 3)) (.v 1)))) [3]) (.nil)))⟩
def f11 : Fn := ⟨3, 4, .seq (.expr (.call 4 (.cons (.v 0) (.cons (.v 1) (.nil))))) (.seq (.expr (.call 3 (.cons (.v 0) (.cons (.v 2) (.nil))))) (.seq (.for (.nm 3) (.rev (.v 1)) (.set (.nm 2) (.call 10 (.cons (.v 0) (.cons (.v 3) (.cons (.v 2) (.nil))))))) (.ret (.v 2))))⟩
def f12 : Fn := ⟨1, 2, .ret (.blt .tuple (.cons (.comp (.nm 1) (.v 0) (.c (.bool true)) (.c (.int 1)) [1]) (.nil)))⟩
def f13 : Fn := ⟨1, 2, .ret (.comp (.nm 1) (.rng (.c (.int 0)) (.blt .len (.cons (.v 0) (.nil)))) (.cmp .lt (.ix (.v 0) (.v 1)) (.c (.int 0))) (.v 1) [1])⟩
def f14 : Fn := ⟨2, 5, .seq (.set (.nm 2) (.call 11 (.cons (.v 0) (.cons (.v 1) (.cons (.call 15 (.cons (.v 0) (.cons (.v 1) (.nil)))) (.nil)))))) (.seq (.setO 3 (.lst (.nil))) (.seq (.whl (.cmp .gt (.blt .len (.cons (.call 13 (.cons (.v 2) (.nil))) (.nil))) (.c (.int 0))) (.seq (.set (.nm 4) (.ix (.call 13 (.cons (.v 2) (.nil))) (.c (.int 0)))) (.seq (.app 3 (.v 4)) (.set (.nm 2) (.call 10 (.cons (.v 0) (.cons (.v 4) (.cons (.v 2) (.nil))))))))) (.ret (.blt .tuple (.cons (.pk 3) (.nil))))))⟩
def f15 : Fn := ⟨2, 2, .seq (.expr (.call 4 (.cons (.v 0) (.cons (.v 1) (.nil))))) (.ret (.call 12 (.cons (.v 0) (.nil))))⟩
def f16 : Fn := ⟨1, 2, .seq (.ifS (.or (.no (.blt .isTup (.cons (.v 0) (.nil)))) (.or (.no (.chn .le .le (.c (.int 2)) (.blt .len (.cons (.v 0) (.nil))) (.c (.int 8)))) (.no (.gen true (.nm 1) (.v 0) (.c (.bool true)) (.call 0 (.cons (.v 1) (.nil))) [1])))) (.rse 4) (.skip)) (.ifS (.cmp .ne (.blt .sorted (.cons (.v 0) (.nil))) (.blt .listRng (.cons (.rng (.c (.int 0)) (.blt .len (.cons (.v 0) (.nil)))) .nil))) (.rse 4) (.skip))⟩
def f17 : Fn := ⟨1, 1, .ifS (.or (.no (.call 0 (.cons (.v 0) (.nil)))) (.no (.chn .le .le (.c (.int 2)) (.v 0) (.c (.int 8))))) (.rse 4) (.skip)⟩
def f18 : Fn := ⟨2, 4, .seq (.expr (.call 17 (.cons (.v 0) (.nil)))) (.seq (.expr (.call 4 (.cons (.call 8 (.cons (.c (.str "A")) (.cons (.bin .sub (.v 0) (.c (.int 1))) (.nil)))) (.cons (.v 1) (.nil))))) (.seq (.setO 2 (.blt .listRng (.cons (.rng (.c (.int 0)) (.v 0)) .nil))) (.seq (.for (.nm 3) (.v 1) (.swp 2 (.v 3) (.bin .add (.v 3) (.c (.int 1))) (.ix (.pk 2) (.bin .add (.v 3) (.c (.int 1)))) (.ix (.pk 2) (.v 3)))) (.ret (.blt .tuple (.cons (.pk 2) (.nil)))))))⟩
def f19 : Fn := ⟨1, 5, .seq (.expr (.call 16 (.cons (.v 0) (.nil)))) (.seq (.setO 1 (.blt .list (.cons (.v 0) (.nil)))) (.seq (.setO 2 (.lst (.nil))) (.whl (.c (.bool true)) (.seq (.set (.nm 3) (.comp (.nm 4) (.rng (.c (.int 0)) (.bin .sub (.blt .len (.cons (.pk 1) (.nil))) (.c (.int 1)))) (.cmp .gt (.ix (.pk 1) (.v 4)) (.ix (.pk 1) (.bin .add (.v 4) (.c (.int 1))))) (.v 4) [4])) (.seq (.ifS (.cmp .eq (.blt .len (.cons (.v 3) (.nil))) (.c (.int 0))) (.ret (.call 14 (.cons (.call 8 (.cons (.c (.str "A")) (.cons (.bin .sub (.blt .len (.cons (.v 0) (.nil))) (.c (.int 1))) (.nil)))) (.cons (.blt .tupRev (.cons (.pk 2) (.nil))) (.nil))))) (.skip)) (.seq (.swp 1 (.ix (.v 3) (.c (.int 0))) (.bin .add (.ix (.v 3) (.c (.int 0))) (.c (.int 1))) (.ix (.pk 1) (.bin .add (.ix (.v 3) (.c (.int 0))) (.c (.int 1)))) (.ix (.pk 1) (.ix (.v 3) (.c (.int 0))))) (.app 2 (.ix (.v 3) (.c (.int 0))))))))))⟩
def f20 : Fn := ⟨1, 3, .seq (.expr (.call 16 (.cons (.v 0) (.nil)))) (.ret (.blt .tuple (.cons (.comp (.nm 1) (.rng (.c (.int 0)) (.blt .len (.cons (.v 0) (.nil)))) (.c (.bool true)) (.blt .len (.cons (.comp (.nm 2) (.sl (.v 0) (.bin .add (.bin .add (.v 1) (.c (.int 1))) (.c (.int 0))) (.c .none)) (.cmp .lt (.v 2) (.ix (.v 0) (.v 1))) (.v 2) [2]) (.nil))) [1]) (.nil))))⟩
def f21 : Fn := ⟨1, 6, .seq (.ifS (.or (.no (.blt .isTup (.cons (.v 0) (.nil)))) (.or (.no (.chn .le .le (.c (.int 2)) (.blt .len (.cons (.v 0) (.nil))) (.c (.int 8)))) (.no (.gen true (.nm 5) (.v 0) (.c (.bool true)) (.call 0 (.cons (.v 5) (.nil))) [5])))) (.rse 4) (.skip)) (.seq (.ifS (.gen false (.nm 4) (.rng (.c (.int 0)) (.blt .len (.cons (.v 0) (.nil)))) (.c (.bool true)) (.no (.chn .le .lt (.c (.int 0)) (.ix (.v 0) (.v 4)) (.bin .sub (.blt .len (.cons (.v 0) (.nil))) (.v 4)))) [4]) (.rse 4) (.skip)) (.seq (.setO 1 (.blt .listRng (.cons (.rng (.c (.int 0)) (.blt .len (.cons (.v 0) (.nil)))) .nil))) (.seq (.setO 2 (.lst (.nil))) (.seq (.for (.nm 3) (.v 0) (.appPop 2 1 (.v 3))) (.ret (.blt .tuple (.cons (.pk 2) (.nil))))))))⟩
def f22 : Fn := ⟨1, 2, .seq (.expr (.call 16 (.cons (.v 0) (.nil)))) (.ret (.blt .tuple (.cons (.comp (.nm 1) (.rng (.c (.int 0)) (.bin .sub (.blt .len (.cons (.v 0) (.nil))) (.c (.int 1)))) (.cmp .gt (.ix (.v 0) (.v 1)) (.ix (.v 0) (.bin .add (.v 1) (.c (.int 1))))) (.v 1) [1]) (.nil))))⟩
def f23 : Fn := ⟨1, 1, .ret (.blt .sum (.cons (.call 20 (.cons (.v 0) (.nil))) (.nil)))⟩
def f24 : Fn := ⟨1, 2, .ret (.blt .sum (.cons (.comp (.nm 1) (.call 22 (.cons (.v 0) (.nil))) (.c (.bool true)) (.bin .add (.v 1) (.c (.int 1))) [1]) (.nil)))⟩
def f25 : Fn := ⟨1, 4, .seq (.expr (.call 16 (.cons (.v 0) (.nil)))) (.seq (.setO 1 (.comp (.nm 3) (.v 0) (.c (.bool true)) (.c (.int 0)) [3])) (.seq (.for (.nm 2) (.rng (.c (.int 0)) (.blt .len (.cons (.v 0) (.nil)))) (.setIx 1 (.ix (.v 0) (.v 2)) (.v 2))) (.ret (.blt .tuple (.cons (.pk 1) (.nil))))))⟩
def f26 : Fn := ⟨1, 6, .seq (.expr (.call 16 (.cons (.v 0) (.nil)))) (.seq (.setO 1 (.lst (.nil))) (.seq (.setO 2 (.lst (.nil))) (.seq (.for (.nm 3) (.v 0) (.ifS (.cmp .notin (.v 3) (.pk 1)) (.seq (.set (.nm 4) (.c (.int 0))) (.seq (.set (.nm 5) (.v 3)) (.seq (.whl (.cmp .notin (.v 5) (.pk 1)) (.seq (.app 1 (.v 5)) (.seq (.set (.nm 5) (.ix (.v 0) (.v 5))) (.aug 4 .add (.c (.int 1)))))) (.app 2 (.v 4))))) (.skip))) (.ret (.blt .tuple (.cons (.blt .sortedRev (.cons (.pk 2) (.nil))) (.nil)))))))⟩
def f27 : Fn := ⟨2, 3, .seq (.expr (.call 16 (.cons (.v 0) (.nil)))) (.seq (.expr (.call 16 (.cons (.v 1) (.nil)))) (.ret (.gen false (.nm 2) (.call 28 (.cons (.v 0) (.cons (.blt .len (.cons (.v 1) (.nil))) (.nil)))) (.c (.bool true)) (.call 29 (.cons (.v 2) (.cons (.v 1) (.nil)))) [2])))⟩
def f28 : Fn := ⟨2, 5, .seq (.set (.nm 2) (.lst (.cons (.nil) (.nil)))) (.seq (.for (.nm 3) (.v 0) (.set (.nm 2) (.bin .add (.v 2) (.comp (.nm 4) (.v 2) (.cmp .lt (.blt .len (.cons (.v 4) (.nil))) (.v 1)) (.bin .add (.v 4) (.cons (.v 3) (.nil))) [4])))) (.ret (.comp (.nm 4) (.v 2) (.cmp .eq (.blt .len (.cons (.v 4) (.nil))) (.v 1)) (.v 4) [4])))⟩
def f29 : Fn := ⟨2, 3, .ret (.cmp .eq (.comp (.nm 2) (.v 0) (.c (.bool true)) (.lix (.blt .sorted (.cons (.v 0) (.nil))) (.v 2)) [2]) (.blt .list (.cons (.v 1) (.nil))))⟩
def f30 : Fn := ⟨1, 5, .seq (.expr (.call 17 (.cons (.v 0) (.nil)))) (.seq (.set (.nm 1) (.lst (.cons (.nil) (.nil)))) (.seq (.for (.nm 2) (.rng (.c (.int 0)) (.v 0)) (.set (.nm 1) (.comp2 (.nm 3) (.v 1) (.nm 4) (.rng (.c (.int 0)) (.v 0)) (.cmp .notin (.v 4) (.v 3)) (.bin .add (.v 3) (.cons (.v 4) (.nil))) [3, 4]))) (.ret (.blt .tuple (.cons (.v 1) (.nil))))))⟩
def f31 : Fn := ⟨2, 5, .seq (.expr (.call 17 (.cons (.v 0) (.nil)))) (.seq (.expr (.call 16 (.cons (.v 1) (.nil)))) (.seq (.ifS (.cmp .gt (.v 0) (.c (.int 7))) (.rse 4) (.skip)) (.seq (.set (.nm 2) (.blt .len (.cons (.v 1) (.nil)))) (.ret (.blt .tuple (.cons (.comp (.nm 3) (.call 30 (.cons (.v 0) (.nil))) (.no (.gen false (.nm 4) (.call 28 (.cons (.v 3) (.cons (.v 2) (.nil)))) (.c (.bool true)) (.call 29 (.cons (.v 4) (.cons (.v 1) (.nil)))) [4])) (.v 3) [3]) (.nil)))))))⟩
def f32 : Fn := ⟨2, 2, .seq (.ifS (.cmp .lt (.v 1) (.blt .len (.cons (.v 0) (.nil)))) (.ret (.ix (.v 0) (.v 1))) (.skip)) (.ret (.c (.int 0)))⟩
def f33 : Fn := ⟨2, 6, .seq (.setO 2 (.lst (.nil))) (.seq (.set (.nm 3) (.blt .int (.cons (.v 0) (.nil)))) (.seq (.for (.nm 4) (.rng (.c (.int 0)) (.v 1)) (.seq (.set (.nm 5) (.bin .mod (.blt .int (.cons (.bin .add (.bin .add (.bin .mul (.v 0) (.c (.int 48271))) (.bin .mul (.v 4) (.c (.int 69621)))) (.c (.int 1))) (.nil))) (.c (.int 2147483647)))) (.ifS (.cmp .ge (.v 0) (.bin .pow (.c (.int 10)) (.c (.int 18)))) (.seq (.app 2 (.bin .mod (.v 3) (.c (.int 1009)))) (.set (.nm 3) (.bin .fdiv (.v 3) (.c (.int 1009))))) (.app 2 (.bin .fdiv (.bin .mod (.blt .int (.cons (.bin .add (.bin .mul (.v 5) (.v 5)) (.bin .mul (.v 5) (.c (.int 40692)))) (.nil))) (.c (.int 2147483399))) (.c (.int 7))))))) (.seq (.frz 2) (.ret (.v 2)))))⟩
def f34 : Fn := ⟨1, 6, .seq (.set (.nm 1) (.lst (.cons (.nil) (.nil)))) (.seq (.for (.nm 2) (.rng (.c (.int 0)) (.v 0)) (.seq (.set (.nm 3) (.lst (.nil))) (.seq (.for (.nm 4) (.v 1) (.set (.nm 3) (.bin .add (.v 3) (.comp (.nm 5) (.rng (.c (.int 0)) (.v 0)) (.cmp .notin (.v 5) (.v 4)) (.bin .add (.v 4) (.cons (.v 5) (.nil))) [5])))) (.set (.nm 1) (.v 3))))) (.ret (.v 1)))⟩
def f35 : Fn := ⟨2, 5, .seq (.set (.nm 2) (.lst (.cons (.nil) (.nil)))) (.seq (.for (.nm 3) (.v 0) (.set (.nm 2) (.bin .add (.v 2) (.comp (.nm 4) (.v 2) (.cmp .lt (.blt .len (.cons (.v 4) (.nil))) (.v 1)) (.bin .add (.v 4) (.cons (.v 3) (.nil))) [4])))) (.ret (.comp (.nm 4) (.v 2) (.cmp .eq (.blt .len (.cons (.v 4) (.nil))) (.v 1)) (.v 4) [4])))⟩
def f36 : Fn := ⟨2, 5, .seq (.for (.nm 2) (.call 35 (.cons (.v 0) (.cons (.blt .len (.cons (.v 1) (.nil))) (.nil)))) (.ifS (.cmp .eq (.comp (.nm 3) (.v 2) (.c (.bool true)) (.blt .len (.cons (.comp (.nm 4) (.v 2) (.cmp .lt (.v 4) (.v 3)) (.v 4) [4]) (.nil))) [3]) (.blt .list (.cons (.v 1) (.nil)))) (.ret (.c (.bool true))) (.skip))) (.ret (.c (.bool false)))⟩
def f37 : Fn := ⟨2, 2, .seq (.tryS (.ifS (.cmp .eq (.v 1) (.c (.int 0))) (.expr (.call 20 (.cons (.v 0) (.nil)))) (.ifS (.cmp .eq (.v 1) (.c (.int 1))) (.expr (.call 26 (.cons (.v 0) (.nil)))) (.ifS (.cmp .eq (.v 1) (.c (.int 2))) (.expr (.call 19 (.cons (.v 0) (.nil)))) (.expr (.call 25 (.cons (.v 0) (.nil))))))) 4 5 (.ret (.c (.bool true)))) (.ret (.c (.bool false)))⟩
def f38 : Fn := ⟨1, 20, .seq (.set (.nm 1) (.call 33 (.cons (.call 32 (.cons (.v 0) (.cons (.c (.int 0)) (.nil)))) (.cons (.c (.int 30)) (.nil))))) (.seq (.set (.nm 2) (.bin .add (.bin .mod (.ix (.v 1) (.c (.int 0))) (.c (.int 4))) (.c (.int 2)))) (.seq (.set (.nm 3) (.call 34 (.cons (.v 2) (.nil)))) (.seq (.set (.nm 4) (.ix (.v 3) (.bin .mod (.bin .mul (.ix (.v 1) (.c (.int 1))) (.c (.int 7))) (.blt .len (.cons (.v 3) (.nil)))))) (.seq (.set (.nm 5) (.blt .tuple (.cons (.comp (.nm 18) (.rng (.c (.int 0)) (.bin .mod (.ix (.v 1) (.c (.int 20))) (.c (.int 8)))) (.c (.bool true)) (.bin .mod (.ix (.v 1) (.bin .add (.c (.int 2)) (.v 18))) (.bin .sub (.v 2) (.c (.int 1)))) [18]) (.nil)))) (.seq (.setO 6 (.blt .listRng (.cons (.rng (.c (.int 0)) (.v 2)) .nil))) (.seq (.for (.nm 7) (.v 5) (.swp 6 (.v 7) (.bin .add (.v 7) (.c (.int 1))) (.ix (.pk 6) (.bin .add (.v 7) (.c (.int 1)))) (.ix (.pk 6) (.v 7)))) (.seq (.ifS (.or (.cmp .ne (.call 18 (.cons (.v 2) (.cons (.v 5) (.nil)))) (.blt .tuple (.cons (.pk 6) (.nil)))) (.cmp .ne (.call 19 (.cons (.blt .tuple (.cons (.pk 6) (.nil))) (.nil))) (.call 14 (.cons (.call 9 (.cons (.bin .add (.c (.str "A")) (.blt .str (.cons (.bin .sub (.v 2) (.c (.int 1))) (.nil)))) (.nil))) (.cons (.v 5) (.nil)))))) (.ret (.c (.bool false))) (.skip)) (.seq (.frz 6) (.seq (.ifS (.or (.cmp .ne (.call 18 (.cons (.v 2) (.cons (.call 19 (.cons (.v 4) (.nil))) (.nil)))) (.v 4)) (.cmp .ne (.blt .len (.cons (.call 19 (.cons (.v 4) (.nil))) (.nil))) (.call 23 (.cons (.v 4) (.nil))))) (.ret (.c (.bool false))) (.skip)) (.seq (.set (.nm 8) (.blt .tuple (.cons (.comp (.nm 7) (.rng (.c (.int 0)) (.v 2)) (.c (.bool true)) (.blt .len (.cons (.comp (.nm 19) (.sl (.v 4) (.bin .add (.bin .add (.v 7) (.c (.int 1))) (.c (.int 0))) (.c .none)) (.cmp .lt (.v 19) (.ix (.v 4) (.v 7))) (.v 19) [19]) (.nil))) [7]) (.nil)))) (.seq (.ifS (.or (.cmp .ne (.call 20 (.cons (.v 4) (.nil))) (.v 8)) (.or (.cmp .ne (.call 21 (.cons (.v 8) (.nil))) (.v 4)) (.cmp .ne (.call 23 (.cons (.v 4) (.nil))) (.blt .sum (.cons (.v 8) (.nil)))))) (.ret (.c (.bool false))) (.skip)) (.seq (.set (.nm 9) (.blt .tuple (.cons (.comp (.nm 7) (.rng (.c (.int 0)) (.bin .sub (.v 2) (.c (.int 1)))) (.cmp .gt (.ix (.v 4) (.v 7)) (.ix (.v 4) (.bin .add (.v 7) (.c (.int 1))))) (.v 7) [7]) (.nil)))) (.seq (.ifS (.or (.cmp .ne (.call 22 (.cons (.v 4) (.nil))) (.v 9)) (.cmp .ne (.call 24 (.cons (.v 4) (.nil))) (.bin .add (.blt .sum (.cons (.v 9) (.nil))) (.blt .len (.cons (.v 9) (.nil)))))) (.ret (.c (.bool false))) (.skip)) (.seq (.set (.nm 10) (.call 25 (.cons (.v 4) (.nil)))) (.seq (.ifS (.or (.cmp .ne (.comp (.nm 7) (.rng (.c (.int 0)) (.v 2)) (.c (.bool true)) (.ix (.v 4) (.ix (.v 10) (.v 7))) [7]) (.blt .listRng (.cons (.rng (.c (.int 0)) (.v 2)) .nil))) (.or (.cmp .ne (.call 26 (.cons (.v 10) (.nil))) (.call 26 (.cons (.v 4) (.nil)))) (.cmp .ne (.blt .sum (.cons (.call 26 (.cons (.v 4) (.nil))) (.nil))) (.v 2)))) (.ret (.c (.bool false))) (.skip)) (.seq (.setO 11 (.lst (.nil))) (.seq (.set (.nm 12) (.lst (.nil))) (.seq (.for (.nm 13) (.rng (.c (.int 0)) (.v 2)) (.seq (.set (.nm 16) (.v 13)) (.seq (.set (.nm 17) (.c (.int 0))) (.seq (.whl (.cmp .notin (.v 16) (.pk 11)) (.seq (.app 11 (.v 16)) (.seq (.set (.nm 16) (.ix (.v 4) (.v 16))) (.set (.nm 17) (.bin .add (.v 17) (.c (.int 1))))))) (.set (.nm 12) (.bin .add (.v 12) (.rep (.lst (.cons (.v 17) (.nil))) (.blt .int (.cons (.cmp .gt (.v 17) (.c (.int 0))) (.nil)))))))))) (.seq (.frz 11) (.seq (.ifS (.cmp .ne (.call 26 (.cons (.v 4) (.nil))) (.blt .tuple (.cons (.blt .listRev (.cons (.blt .sorted (.cons (.v 12) (.nil))) (.nil))) (.nil)))) (.ret (.c (.bool false))) (.skip)) (.seq (.ifS (.cmp .ne (.blt .sorted (.cons (.comp (.nm 19) (.v 3) (.c (.bool true)) (.call 23 (.cons (.v 19) (.nil))) [19]) (.nil))) (.blt .sorted (.cons (.comp (.nm 19) (.v 3) (.c (.bool true)) (.call 24 (.cons (.v 19) (.nil))) [19]) (.nil)))) (.ret (.c (.bool false))) (.skip)) (.seq (.set (.nm 14) (.ix (.cons (.cons (.c (.int 0)) (.cons (.c (.int 1)) (.nil))) (.cons (.cons (.c (.int 1)) (.cons (.c (.int 0)) (.nil))) (.cons (.cons (.c (.int 0)) (.cons (.c (.int 1)) (.cons (.c (.int 2)) (.nil)))) (.cons (.cons (.c (.int 1)) (.cons (.c (.int 2)) (.cons (.c (.int 0)) (.nil)))) (.cons (.cons (.c (.int 2)) (.cons (.c (.int 1)) (.cons (.c (.int 0)) (.nil)))) (.cons (.cons (.c (.int 0)) (.cons (.c (.int 2)) (.cons (.c (.int 1)) (.nil)))) (.nil))))))) (.bin .mod (.ix (.v 1) (.c (.int 21))) (.c (.int 6))))) (.seq (.ifS (.cmp .ne (.call 27 (.cons (.v 4) (.cons (.v 14) (.nil)))) (.call 36 (.cons (.v 4) (.cons (.v 14) (.nil))))) (.ret (.c (.bool false))) (.skip)) (.seq (.ifS (.cmp .ne (.call 31 (.cons (.v 2) (.cons (.v 14) (.nil)))) (.blt .tuple (.cons (.comp (.nm 19) (.v 3) (.no (.call 36 (.cons (.v 19) (.cons (.v 14) (.nil))))) (.v 19) [19]) (.nil)))) (.ret (.c (.bool false))) (.skip)) (.seq (.set (.nm 15) (.ix (.cons (.nil) (.cons (.cons (.c (.int 0)) (.nil)) (.cons (.cons (.c (.int 0)) (.cons (.c (.int 0)) (.nil))) (.cons (.cons (.c (.int 1)) (.cons (.c (.int 2)) (.nil))) (.cons (.lst (.cons (.c (.int 0)) (.cons (.c (.int 1)) (.nil)))) (.cons (.c .none) (.cons (.cons (.c (.int 0)) (.cons (.c (.int 2)) (.nil))) (.cons (.cons (.c (.bool true)) (.cons (.c (.int 0)) (.nil))) (.cons (.blt .tuple (.cons (.blt .listRng (.cons (.rng (.c (.int 0)) (.c (.int 9))) .nil)) (.nil))) (.nil)))))))))) (.bin .mod (.ix (.v 1) (.c (.int 22))) (.c (.int 9))))) (.ret (.call 37 (.cons (.v 15) (.cons (.bin .mod (.ix (.v 1) (.c (.int 23))) (.c (.int 4))) (.nil))))))))))))))))))))))))))))))⟩
def Tb (i : Nat) : Option Fn := match i with | 0 => some f0 | 1 => some f1 | 2 => some f2 | 3 => some f3 | 4 => some f4 | 5 => some f5 | 6 => some f6 | 7 => some f7 | 8 => some f8 | 9 => some f9 | 10 => some f10 | 11 => some f11 | 12 => some f12 | 13 => some f13 | 14 => some f14 | 15 => some f15 | 16 => some f16 | 17 => some f17 | 18 => some f18 | 19 => some f19 | 20 => some f20 | 21 => some f21 | 22 => some f22 | 23 => some f23 | 24 => some f24 | 25 => some f25 | 26 => some f26 | 27 => some f27 | 28 => some f28 | 29 => some f29 | 30 => some f30 | 31 => some f31 | 32 => some f32 | 33 => some f33 | 34 => some f34 | 35 => some f35 | 36 => some f36 | 37 => some f37 | 38 => some f38 | _ => none
end TB
end

set_option Elab.async false
set_option linter.all false
set_option autoImplicit false
set_option maxRecDepth 1000000
set_option maxHeartbeats 0
noncomputable section
namespace K79
open EV PySem
def CB : Nat → List PyData → R := callF TB.Tb 100000 30
def B : S := TB.f38.body
def v20 : List Nat := List.range 20
def SB : S := tke 12 (drp 9 B)
def S21 : S := tke 1 (drp 21 B)
def S23 : S := tke 1 (drp 23 B)
def S24 : S := tke 1 (drp 24 B)
def okN (s : S) (ks : List (Nat × PyData)) : Bool := isN v20 (ex CB 100000 s (kn 20 ks))
def o2_0 : List (List Nat) := [[0, 1], [1, 0]]
def g2_0 : List (List Nat) := [[], [0]]
def o3_0 : List (List Nat) := [[0, 1, 2], [0, 2, 1], [1, 0, 2], [1, 2, 0], [2, 0, 1], [2, 1, 0]]
def g3_0 : List (List Nat) := [[], [1], [0], [0, 1], [1, 0], [0, 1, 0]]
def o4_0 : List (List Nat) := [[0, 1, 2, 3], [0, 1, 3, 2], [0, 2, 1, 3], [0, 2, 3, 1], [0, 3, 1, 2], [0, 3, 2, 1], [1, 0, 2, 3], [1, 0, 3, 2], [1, 2, 0, 3], [1, 2, 3, 0], [1, 3, 0, 2], [1, 3, 2, 0], [2, 0, 1, 3], [2, 0, 3, 1], [2, 1, 0, 3], [2, 1, 3, 0], [2, 3, 0, 1], [2, 3, 1, 0], [3, 0, 1, 2], [3, 0, 2, 1]]
def g4_0 : List (List Nat) := [[], [2], [1], [1, 2], [2, 1], [1, 2, 1], [0], [0, 2], [0, 1], [0, 1, 2], [0, 2, 1], [0, 1, 2, 1], [1, 0], [1, 0, 2], [0, 1, 0], [0, 1, 0, 2], [1, 0, 2, 1], [0, 1, 0, 2, 1], [2, 1, 0], [1, 2, 1, 0]]
def o4_1 : List (List Nat) := [[3, 1, 0, 2], [3, 1, 2, 0], [3, 2, 0, 1], [3, 2, 1, 0]]
def g4_1 : List (List Nat) := [[0, 2, 1, 0], [0, 1, 2, 1, 0], [1, 0, 2, 1, 0], [0, 1, 0, 2, 1, 0]]
def o5_0 : List (List Nat) := [[0, 1, 2, 3, 4], [0, 1, 2, 4, 3], [0, 1, 3, 2, 4], [0, 1, 3, 4, 2], [0, 1, 4, 2, 3], [0, 1, 4, 3, 2], [0, 2, 1, 3, 4], [0, 2, 1, 4, 3], [0, 2, 3, 1, 4], [0, 2, 3, 4, 1], [0, 2, 4, 1, 3], [0, 2, 4, 3, 1], [0, 3, 1, 2, 4], [0, 3, 1, 4, 2], [0, 3, 2, 1, 4], [0, 3, 2, 4, 1], [0, 3, 4, 1, 2], [0, 3, 4, 2, 1], [0, 4, 1, 2, 3], [0, 4, 1, 3, 2]]
def g5_0 : List (List Nat) := [[], [3], [2], [2, 3], [3, 2], [2, 3, 2], [1], [1, 3], [1, 2], [1, 2, 3], [1, 3, 2], [1, 2, 3, 2], [2, 1], [2, 1, 3], [1, 2, 1], [1, 2, 1, 3], [2, 1, 3, 2], [1, 2, 1, 3, 2], [3, 2, 1], [2, 3, 2, 1]]
def o5_1 : List (List Nat) := [[0, 4, 2, 1, 3], [0, 4, 2, 3, 1], [0, 4, 3, 1, 2], [0, 4, 3, 2, 1], [1, 0, 2, 3, 4], [1, 0, 2, 4, 3], [1, 0, 3, 2, 4], [1, 0, 3, 4, 2], [1, 0, 4, 2, 3], [1, 0, 4, 3, 2], [1, 2, 0, 3, 4], [1, 2, 0, 4, 3], [1, 2, 3, 0, 4], [1, 2, 3, 4, 0], [1, 2, 4, 0, 3], [1, 2, 4, 3, 0], [1, 3, 0, 2, 4], [1, 3, 0, 4, 2], [1, 3, 2, 0, 4], [1, 3, 2, 4, 0]]
def g5_1 : List (List Nat) := [[1, 3, 2, 1], [1, 2, 3, 2, 1], [2, 1, 3, 2, 1], [1, 2, 1, 3, 2, 1], [0], [0, 3], [0, 2], [0, 2, 3], [0, 3, 2], [0, 2, 3, 2], [0, 1], [0, 1, 3], [0, 1, 2], [0, 1, 2, 3], [0, 1, 3, 2], [0, 1, 2, 3, 2], [0, 2, 1], [0, 2, 1, 3], [0, 1, 2, 1], [0, 1, 2, 1, 3]]
def o5_2 : List (List Nat) := [[1, 3, 4, 0, 2], [1, 3, 4, 2, 0], [1, 4, 0, 2, 3], [1, 4, 0, 3, 2], [1, 4, 2, 0, 3], [1, 4, 2, 3, 0], [1, 4, 3, 0, 2], [1, 4, 3, 2, 0], [2, 0, 1, 3, 4], [2, 0, 1, 4, 3], [2, 0, 3, 1, 4], [2, 0, 3, 4, 1], [2, 0, 4, 1, 3], [2, 0, 4, 3, 1], [2, 1, 0, 3, 4], [2, 1, 0, 4, 3], [2, 1, 3, 0, 4], [2, 1, 3, 4, 0], [2, 1, 4, 0, 3], [2, 1, 4, 3, 0]]
def g5_2 : List (List Nat) := [[0, 2, 1, 3, 2], [0, 1, 2, 1, 3, 2], [0, 3, 2, 1], [0, 2, 3, 2, 1], [0, 1, 3, 2, 1], [0, 1, 2, 3, 2, 1], [0, 2, 1, 3, 2, 1], [0, 1, 2, 1, 3, 2, 1], [1, 0], [1, 0, 3], [1, 0, 2], [1, 0, 2, 3], [1, 0, 3, 2], [1, 0, 2, 3, 2], [0, 1, 0], [0, 1, 0, 3], [0, 1, 0, 2], [0, 1, 0, 2, 3], [0, 1, 0, 3, 2], [0, 1, 0, 2, 3, 2]]
def o5_3 : List (List Nat) := [[2, 3, 0, 1, 4], [2, 3, 0, 4, 1], [2, 3, 1, 0, 4], [2, 3, 1, 4, 0], [2, 3, 4, 0, 1], [2, 3, 4, 1, 0], [2, 4, 0, 1, 3], [2, 4, 0, 3, 1], [2, 4, 1, 0, 3], [2, 4, 1, 3, 0], [2, 4, 3, 0, 1], [2, 4, 3, 1, 0], [3, 0, 1, 2, 4], [3, 0, 1, 4, 2], [3, 0, 2, 1, 4], [3, 0, 2, 4, 1], [3, 0, 4, 1, 2], [3, 0, 4, 2, 1], [3, 1, 0, 2, 4], [3, 1, 0, 4, 2]]
def g5_3 : List (List Nat) := [[1, 0, 2, 1], [1, 0, 2, 1, 3], [0, 1, 0, 2, 1], [0, 1, 0, 2, 1, 3], [1, 0, 2, 1, 3, 2], [0, 1, 0, 2, 1, 3, 2], [1, 0, 3, 2, 1], [1, 0, 2, 3, 2, 1], [0, 1, 0, 3, 2, 1], [0, 1, 0, 2, 3, 2, 1], [1, 0, 2, 1, 3, 2, 1], [0, 1, 0, 2, 1, 3, 2, 1], [2, 1, 0], [2, 1, 0, 3], [1, 2, 1, 0], [1, 2, 1, 0, 3], [2, 1, 0, 3, 2], [1, 2, 1, 0, 3, 2], [0, 2, 1, 0], [0, 2, 1, 0, 3]]
def o5_4 : List (List Nat) := [[3, 1, 2, 0, 4], [3, 1, 2, 4, 0], [3, 1, 4, 0, 2], [3, 1, 4, 2, 0], [3, 2, 0, 1, 4], [3, 2, 0, 4, 1], [3, 2, 1, 0, 4], [3, 2, 1, 4, 0], [3, 2, 4, 0, 1], [3, 2, 4, 1, 0], [3, 4, 0, 1, 2], [3, 4, 0, 2, 1], [3, 4, 1, 0, 2], [3, 4, 1, 2, 0], [3, 4, 2, 0, 1], [3, 4, 2, 1, 0], [4, 0, 1, 2, 3], [4, 0, 1, 3, 2], [4, 0, 2, 1, 3], [4, 0, 2, 3, 1]]
def g5_4 : List (List Nat) := [[0, 1, 2, 1, 0], [0, 1, 2, 1, 0, 3], [0, 2, 1, 0, 3, 2], [0, 1, 2, 1, 0, 3, 2], [1, 0, 2, 1, 0], [1, 0, 2, 1, 0, 3], [0, 1, 0, 2, 1, 0], [0, 1, 0, 2, 1, 0, 3], [1, 0, 2, 1, 0, 3, 2], [0, 1, 0, 2, 1, 0, 3, 2], [2, 1, 0, 3, 2, 1], [1, 2, 1, 0, 3, 2, 1], [0, 2, 1, 0, 3, 2, 1], [0, 1, 2, 1, 0, 3, 2, 1], [1, 0, 2, 1, 0, 3, 2, 1], [0, 1, 0, 2, 1, 0, 3, 2, 1], [3, 2, 1, 0], [2, 3, 2, 1, 0], [1, 3, 2, 1, 0], [1, 2, 3, 2, 1, 0]]
def o5_5 : List (List Nat) := [[4, 0, 3, 1, 2], [4, 0, 3, 2, 1], [4, 1, 0, 2, 3], [4, 1, 0, 3, 2], [4, 1, 2, 0, 3], [4, 1, 2, 3, 0], [4, 1, 3, 0, 2], [4, 1, 3, 2, 0], [4, 2, 0, 1, 3], [4, 2, 0, 3, 1], [4, 2, 1, 0, 3], [4, 2, 1, 3, 0], [4, 2, 3, 0, 1], [4, 2, 3, 1, 0], [4, 3, 0, 1, 2], [4, 3, 0, 2, 1], [4, 3, 1, 0, 2], [4, 3, 1, 2, 0], [4, 3, 2, 0, 1], [4, 3, 2, 1, 0]]
def g5_5 : List (List Nat) := [[2, 1, 3, 2, 1, 0], [1, 2, 1, 3, 2, 1, 0], [0, 3, 2, 1, 0], [0, 2, 3, 2, 1, 0], [0, 1, 3, 2, 1, 0], [0, 1, 2, 3, 2, 1, 0], [0, 2, 1, 3, 2, 1, 0], [0, 1, 2, 1, 3, 2, 1, 0], [1, 0, 3, 2, 1, 0], [1, 0, 2, 3, 2, 1, 0], [0, 1, 0, 3, 2, 1, 0], [0, 1, 0, 2, 3, 2, 1, 0], [1, 0, 2, 1, 3, 2, 1, 0], [0, 1, 0, 2, 1, 3, 2, 1, 0], [2, 1, 0, 3, 2, 1, 0], [1, 2, 1, 0, 3, 2, 1, 0], [0, 2, 1, 0, 3, 2, 1, 0], [0, 1, 2, 1, 0, 3, 2, 1, 0], [1, 0, 2, 1, 0, 3, 2, 1, 0], [0, 1, 0, 2, 1, 0, 3, 2, 1, 0]]
def ords (m : Nat) : List (List Nat) := match m with | 2 => o2_0 | 3 => o3_0 | 4 => o4_0 ++ (o4_1) | 5 => o5_0 ++ (o5_1 ++ (o5_2 ++ (o5_3 ++ (o5_4 ++ (o5_5))))) | _ => []
def pat (r : Nat) : List Nat := match r with | 0 => [0, 1] | 1 => [1, 0] | 2 => [0, 1, 2] | 3 => [1, 2, 0] | 4 => [2, 1, 0] | _ => [0, 2, 1]
def lines (m : Nat) : List PyData := match m with | 2 => [.tuple [.int (2)]] | 3 => [.tuple [.int (2), .int (-1)], .tuple [.int (-1), .int (2)]] | 4 => [.tuple [.int (2), .int (-1), .int (0)], .tuple [.int (-1), .int (2), .int (-1)], .tuple [.int (0), .int (-1), .int (2)]] | 5 => [.tuple [.int (2), .int (-1), .int (0), .int (0)], .tuple [.int (-1), .int (2), .int (-1), .int (0)], .tuple [.int (0), .int (-1), .int (2), .int (-1)], .tuple [.int (0), .int (0), .int (-1), .int (2)]] | _ => []
def orders (m : Nat) : PyData := .list ((ords m).map tupN)
theorem or2 : CB 34 [nat 2] = .ok (orders 2) := by kernel_rfl
theorem or3 : CB 34 [nat 3] = .ok (orders 3) := by kernel_rfl
theorem or4 : CB 34 [nat 4] = .ok (orders 4) := by kernel_rfl
theorem or5 : CB 34 [nat 5] = .ok (orders 5) := by kernel_rfl
/-- a row's weight -/
def posL (x : Nat) (r : List Nat) : Nat := List.rec 0 (fun y _ ih => match Nat.beq x y with | true => 0 | false => Nat.succ ih) r
def phiZ (m : Nat) (r : List Nat) : List Int := (List.range (m - 1)).map fun k => Int.sub (Int.ofNat (posL (k + 1) r)) (Int.ofNat (posL k r))
def phi (m : Nat) (r : List Nat) : PyData := .tuple ((phiZ m r).map .int)
def sameZ (xs : List PyData) : List Int → Bool := List.rec (motive := fun _ => List Int → Bool)
  (fun ns => match ns with | [] => true | _ :: _ => false)
  (fun x _ ih ns => match ns with | [] => false | n :: ns => match x with | .int m => (match iEq m n with | true => ih ns | false => false) | _ => false) xs
theorem iEq_ok {a b : Int} (h : iEq a b = true) : a = b := by
  cases a <;> cases b <;> first | (have h : Nat.beq _ _ = true := h; rw [Nat.eq_of_beq_eq_true h]) | cases h
theorem sameZ_ok : ∀ {xs : List PyData} {ns : List Int}, sameZ xs ns = true → xs = ns.map .int
  | [], [], _ => rfl
  | [], _ :: _, h => by cases h
  | x :: xs, [], h => by cases h
  | x :: xs, n :: ns, h => by
    have h : (match (generalizing := false) x with | .int m => (match iEq m n with | true => sameZ xs ns | false => false) | _ => false) = true := h
    split at h
    · split at h
      · rename_i e
        rw [iEq_ok e, sameZ_ok h]; rfl
      · cases h
    · cases h
def isZ (r : R) (ns : List Int) : Bool := match r with | .ok (.tuple xs) => sameZ xs ns | _ => false
theorem isZ_ok {r : R} {ns : List Int} (h : isZ r ns = true) : r = .ok (.tuple (ns.map .int)) := by
  unfold isZ at h
  split at h
  · rw [sameZ_ok h]
  · cases h
def sameN (r s : List Nat) : Bool := List.rec (motive := fun _ => List Nat → Bool) (fun s => match s with | [] => true | _ :: _ => false) (fun x _ ih s => match s with | [] => false | y :: s => match Nat.beq x y with | true => ih s | false => false) r s
theorem sameN_ok : ∀ {r s : List Nat}, sameN r s = true → r = s
  | [], [], _ => rfl
  | [], _ :: _, h => by cases h
  | _ :: _, [], h => by cases h
  | x :: r, y :: s, h => by
    have h : (match Nat.beq x y with | true => sameN r s | false => false) = true := h
    split at h
    · rename_i e
      rw [Nat.eq_of_beq_eq_true e, sameN_ok h]
    · cases h
def memN' (r : List Nat) (l : List (List Nat)) : Bool := l.any (sameN r)
theorem memN'_ok {r : List Nat} {l : List (List Nat)} (h : memN' r l = true) : r ∈ l := by
  obtain ⟨s, h1, h2⟩ := List.any_eq_true.mp h
  rw [sameN_ok h2]; exact h1
/-- a letter turns a row's weight -/
def turnB (m : Nat) (r : List Nat) : Bool := (List.range (m - 1)).all fun a => isZ (CB 10 [.tuple (lines m), nat a, phi m r]) (phiZ m (r.map (sv a))) && memN' (r.map (sv a)) (ords m)
/-- a row's word, both ways -/
def wordB (m : Nat) (q : List Nat × List Nat) : Bool := (match CB 19 [tupN q.1] with | .ok d => sameT d q.2 | _ => false) && (match ex CB 100000 (drp 1 TB.f14.body) [.val (.tuple (lines m)), .non, .val (phi m q.1), .non, .non] with | .ret d => sameT d q.2 | _ => false)
def patB (o : List Nat) : Bool := (List.range 6).all fun r => okN S23 [(4, tupN o), (14, tupN (pat r))]
end K79
end

set_option Elab.async false
set_option linter.all false
set_option autoImplicit false
set_option maxRecDepth 1000000
set_option maxHeartbeats 0
noncomputable section
namespace K79
open EV PySem
theorem gb2_0 : (o2_0.all fun o => okN SB [(2, nat 2), (4, tupN o)]) = true := by decide +kernel
theorem gt2_0 : (o2_0.all (turnB 2)) = true := by decide +kernel
theorem gw2_0 : ((o2_0.zip g2_0).all (wordB 2)) = true := by decide +kernel
theorem g21_2 : okN S21 [(3, orders 2)] = true := by decide +kernel
theorem gb3_0 : (o3_0.all fun o => okN SB [(2, nat 3), (4, tupN o)]) = true := by decide +kernel
theorem gt3_0 : (o3_0.all (turnB 3)) = true := by decide +kernel
theorem gw3_0 : ((o3_0.zip g3_0).all (wordB 3)) = true := by decide +kernel
theorem g21_3 : okN S21 [(3, orders 3)] = true := by decide +kernel
theorem gb4_0 : (o4_0.all fun o => okN SB [(2, nat 4), (4, tupN o)]) = true := by decide +kernel
theorem gt4_0 : (o4_0.all (turnB 4)) = true := by decide +kernel
theorem gw4_0 : ((o4_0.zip g4_0).all (wordB 4)) = true := by decide +kernel
theorem gb4_1 : (o4_1.all fun o => okN SB [(2, nat 4), (4, tupN o)]) = true := by decide +kernel
theorem gt4_1 : (o4_1.all (turnB 4)) = true := by decide +kernel
theorem gw4_1 : ((o4_1.zip g4_1).all (wordB 4)) = true := by decide +kernel
theorem g21_4 : okN S21 [(3, orders 4)] = true := by decide +kernel
theorem gb5_0 : (o5_0.all fun o => okN SB [(2, nat 5), (4, tupN o)]) = true := by decide +kernel
theorem gt5_0 : (o5_0.all (turnB 5)) = true := by decide +kernel
theorem gw5_0 : ((o5_0.zip g5_0).all (wordB 5)) = true := by decide +kernel
theorem gb5_1 : (o5_1.all fun o => okN SB [(2, nat 5), (4, tupN o)]) = true := by decide +kernel
theorem gt5_1 : (o5_1.all (turnB 5)) = true := by decide +kernel
theorem gw5_1 : ((o5_1.zip g5_1).all (wordB 5)) = true := by decide +kernel
theorem gb5_2 : (o5_2.all fun o => okN SB [(2, nat 5), (4, tupN o)]) = true := by decide +kernel
theorem gt5_2 : (o5_2.all (turnB 5)) = true := by decide +kernel
theorem gw5_2 : ((o5_2.zip g5_2).all (wordB 5)) = true := by decide +kernel
theorem gb5_3 : (o5_3.all fun o => okN SB [(2, nat 5), (4, tupN o)]) = true := by decide +kernel
theorem gt5_3 : (o5_3.all (turnB 5)) = true := by decide +kernel
theorem gw5_3 : ((o5_3.zip g5_3).all (wordB 5)) = true := by decide +kernel
theorem gb5_4 : (o5_4.all fun o => okN SB [(2, nat 5), (4, tupN o)]) = true := by decide +kernel
theorem gt5_4 : (o5_4.all (turnB 5)) = true := by decide +kernel
theorem gw5_4 : ((o5_4.zip g5_4).all (wordB 5)) = true := by decide +kernel
theorem gb5_5 : (o5_5.all fun o => okN SB [(2, nat 5), (4, tupN o)]) = true := by decide +kernel
theorem gt5_5 : (o5_5.all (turnB 5)) = true := by decide +kernel
theorem gw5_5 : ((o5_5.zip g5_5).all (wordB 5)) = true := by decide +kernel
theorem g21_5 : okN S21 [(3, orders 5)] = true := by decide +kernel
end K79
end

set_option Elab.async false
set_option linter.all false
set_option autoImplicit false
set_option maxRecDepth 1000000
set_option maxHeartbeats 0
noncomputable section
namespace K79
open EV PySem
theorem gp2_0 : (o2_0.all patB) = true := by decide +kernel
theorem gp3_0 : (o3_0.all patB) = true := by decide +kernel
theorem gp4_0 : (o4_0.all patB) = true := by decide +kernel
theorem gp4_1 : (o4_1.all patB) = true := by decide +kernel
theorem gp5_0 : (o5_0.all patB) = true := by decide +kernel
theorem gp5_1 : (o5_1.all patB) = true := by decide +kernel
theorem gp5_2 : (o5_2.all patB) = true := by decide +kernel
theorem gp5_3 : (o5_3.all patB) = true := by decide +kernel
theorem gp5_4 : (o5_4.all patB) = true := by decide +kernel
theorem gp5_5 : (o5_5.all patB) = true := by decide +kernel
end K79
end

set_option Elab.async false
set_option linter.all false
set_option autoImplicit false
set_option maxRecDepth 1000000
set_option maxHeartbeats 0
noncomputable section
namespace K79
open EV PySem
theorem g24_2_0 : okN S24 [(2, nat 2), (3, orders 2), (14, tupN (pat 0))] = true := by decide +kernel
theorem g24_2_1 : okN S24 [(2, nat 2), (3, orders 2), (14, tupN (pat 1))] = true := by decide +kernel
theorem g24_2_2 : okN S24 [(2, nat 2), (3, orders 2), (14, tupN (pat 2))] = true := by decide +kernel
theorem g24_2_3 : okN S24 [(2, nat 2), (3, orders 2), (14, tupN (pat 3))] = true := by decide +kernel
theorem g24_2_4 : okN S24 [(2, nat 2), (3, orders 2), (14, tupN (pat 4))] = true := by decide +kernel
theorem g24_2_5 : okN S24 [(2, nat 2), (3, orders 2), (14, tupN (pat 5))] = true := by decide +kernel
theorem g24_3_0 : okN S24 [(2, nat 3), (3, orders 3), (14, tupN (pat 0))] = true := by decide +kernel
theorem g24_3_1 : okN S24 [(2, nat 3), (3, orders 3), (14, tupN (pat 1))] = true := by decide +kernel
theorem g24_3_2 : okN S24 [(2, nat 3), (3, orders 3), (14, tupN (pat 2))] = true := by decide +kernel
theorem g24_3_3 : okN S24 [(2, nat 3), (3, orders 3), (14, tupN (pat 3))] = true := by decide +kernel
theorem g24_3_4 : okN S24 [(2, nat 3), (3, orders 3), (14, tupN (pat 4))] = true := by decide +kernel
theorem g24_3_5 : okN S24 [(2, nat 3), (3, orders 3), (14, tupN (pat 5))] = true := by decide +kernel
theorem g24_4_0 : okN S24 [(2, nat 4), (3, orders 4), (14, tupN (pat 0))] = true := by decide +kernel
theorem g24_4_1 : okN S24 [(2, nat 4), (3, orders 4), (14, tupN (pat 1))] = true := by decide +kernel
theorem g24_4_2 : okN S24 [(2, nat 4), (3, orders 4), (14, tupN (pat 2))] = true := by decide +kernel
theorem g24_4_3 : okN S24 [(2, nat 4), (3, orders 4), (14, tupN (pat 3))] = true := by decide +kernel
theorem g24_4_4 : okN S24 [(2, nat 4), (3, orders 4), (14, tupN (pat 4))] = true := by decide +kernel
theorem g24_4_5 : okN S24 [(2, nat 4), (3, orders 4), (14, tupN (pat 5))] = true := by decide +kernel
theorem g24_5_0 : okN S24 [(2, nat 5), (3, orders 5), (14, tupN (pat 0))] = true := by decide +kernel
theorem g24_5_1 : okN S24 [(2, nat 5), (3, orders 5), (14, tupN (pat 1))] = true := by decide +kernel
theorem g24_5_2 : okN S24 [(2, nat 5), (3, orders 5), (14, tupN (pat 2))] = true := by decide +kernel
theorem g24_5_3 : okN S24 [(2, nat 5), (3, orders 5), (14, tupN (pat 3))] = true := by decide +kernel
theorem g24_5_4 : okN S24 [(2, nat 5), (3, orders 5), (14, tupN (pat 4))] = true := by decide +kernel
theorem g24_5_5 : okN S24 [(2, nat 5), (3, orders 5), (14, tupN (pat 5))] = true := by decide +kernel
end K79
end

set_option Elab.async false
set_option linter.all false
set_option autoImplicit false
set_option maxRecDepth 1000000
set_option maxHeartbeats 4000007
noncomputable section
namespace K79
open EV PySem
abbrev D (k : Nat) : Nat → List PyData → R := callF TB.Tb 100000 k
abbrev idr (m : Nat) : List Nat := List.range m
abbrev rowL (m : Nat) (w : List Nat) : List Nat := w.foldr (fun a r => r.map (sv a)) (idr m)
theorem CBD {k : Nat} (h : 30 ≤ k) : CLe CB (D k) := fun f ds => by
  have e : k = 30 + (k - 30) := by omega
  show RLe _ (callF TB.Tb 100000 k f ds)
  rw [e]
  exact callF_le 30 (k - 30) f ds
theorem up {k f : Nat} {ds : List PyData} {d : PyData} (hk : 30 ≤ k) (h : CB f ds = .ok d) : D k f ds = .ok d := by
  rcases CBD hk f ds with z | z
  · rw [h] at z; cases z
  · rw [z]; exact h
theorem up_ev {k : Nat} {x : X} {p e : List SV} {d : PyData} (hk : 30 ≤ k) (hle : ELe p e) (h : ev CB x p = .ok d) : ev (D k) x e = .ok d := by
  rcases ev_le (CBD hk) x hle with z | z
  · rw [h] at z; cases z
  · rw [z]; exact h
inductive Ok : Nat → Prop | a : Ok 2 | b : Ok 3 | c : Ok 4 | d : Ok 5
def X8 : X := .call 8 (.cons (.c (.str "A")) (.cons (.bin .sub (.v 0) (.c (.int 1))) (.nil)))
def X9 : X := .call 9 (.cons (.bin .add (.c (.str "A")) (.blt .str (.cons (.bin .sub (.v 2) (.c (.int 1))) (.nil)))) (.nil))
structure Tf (m : Nat) : Prop where
  f2 : CB 2 [.tuple (lines m)] = .ok .none
  f8 : ev CB X8 [.val (nat m), .non, .non, .non] = .ok (.tuple (lines m))
  f9 : ∃ s t, bltF .str [nat (m - 1)] = .ok (.str s) ∧ binF .add (.str "A") (.str s) = .ok (.str t) ∧ CB 9 [.str t] = .ok (.tuple (lines m))
  sub : binF .sub (nat m) (.int 1) = .ok (nat (m - 1))
  f3 : CB 3 [.tuple (lines m), phi m (idr m)] = .ok .none
  f12 : CB 12 [.tuple (lines m)] = .ok (phi m (idr m))
  f17 : CB 17 [nat m] = .ok .none
  rng : rngR (.int 0) (nat m) = .ok (.list (nats (idr m)))
  mem : memN' (idr m) (ords m) = true
  hid : ((List.range (m - 1)).all fun a => sameN (swapAt a (idr m)) ((idr m).map (sv a))) = true
  len : (lines m).length = m - 1
theorem tf {m : Nat} (h : Ok m) : Tf m := by
  cases h
  · exact ⟨by kernel_rfl, by kernel_rfl, ⟨_, _, rfl, rfl, by kernel_rfl⟩, rfl, by kernel_rfl, by kernel_rfl, by kernel_rfl, rfl, by decide +kernel, by decide +kernel, rfl⟩
  · exact ⟨by kernel_rfl, by kernel_rfl, ⟨_, _, rfl, rfl, by kernel_rfl⟩, rfl, by kernel_rfl, by kernel_rfl, by kernel_rfl, rfl, by decide +kernel, by decide +kernel, rfl⟩
  · exact ⟨by kernel_rfl, by kernel_rfl, ⟨_, _, rfl, rfl, by kernel_rfl⟩, rfl, by kernel_rfl, by kernel_rfl, by kernel_rfl, rfl, by decide +kernel, by decide +kernel, rfl⟩
  · exact ⟨by kernel_rfl, by kernel_rfl, ⟨_, _, rfl, rfl, by kernel_rfl⟩, rfl, by kernel_rfl, by kernel_rfl, by kernel_rfl, rfl, by decide +kernel, by decide +kernel, rfl⟩
theorem all_app {α : Type} {p : α → Bool} {a b : List α} (h1 : a.all p = true) (h2 : b.all p = true) : (a ++ b).all p = true := by
  rw [List.all_append, h1, h2]; rfl
theorem turns {m : Nat} (h : Ok m) : (ords m).all (turnB m) = true := by
  cases h
  · exact gt2_0
  · exact gt3_0
  · exact all_app gt4_0 gt4_1
  · exact all_app gt5_0 (all_app gt5_1 (all_app gt5_2 (all_app gt5_3 (all_app gt5_4 gt5_5))))
theorem turn {m a : Nat} {r : List Nat} (h : Ok m) (hr : r ∈ ords m) (ha : a < m - 1) : CB 10 [.tuple (lines m), nat a, phi m r] = .ok (phi m (r.map (sv a))) ∧ r.map (sv a) ∈ ords m := by
  have t := List.all_eq_true.mp (turns h) r hr
  have t := List.all_eq_true.mp t a (List.mem_range.mpr ha)
  rw [Bool.and_eq_true] at t
  exact ⟨isZ_ok t.1, memN'_ok t.2⟩
theorem zip_mem {α β : Type} {p : α × β → Bool} : ∀ {a : List α} {b : List β}, a.length = b.length → (a.zip b).all p = true → ∀ x ∈ a, ∃ y, p (x, y) = true
  | [], _, _, _, x, h => by cases h
  | a :: as, [], h, _, _, _ => by cases h
  | a :: as, b :: bs, hl, h, x, hx => by
    have h : (p (a, b) && (as.zip bs).all p) = true := h
    rw [Bool.and_eq_true] at h
    rcases List.mem_cons.mp hx with z | z
    · rw [z]; exact ⟨b, h.1⟩
    · exact zip_mem (Nat.succ.inj hl) h.2 x z
theorem wordsA {m : Nat} (h : Ok m) : ∀ r ∈ ords m, ∃ g, wordB m (r, g) = true := by
  have ap : ∀ {a b : List (List Nat)}, (∀ r ∈ a, ∃ g, wordB m (r, g) = true) → (∀ r ∈ b, ∃ g, wordB m (r, g) = true) → ∀ r ∈ a ++ b, ∃ g, wordB m (r, g) = true := fun h1 h2 r hr => by
    rcases List.mem_append.mp hr with z | z
    · exact h1 r z
    · exact h2 r z
  cases h
  · exact zip_mem (b := g2_0) rfl gw2_0
  · exact zip_mem (b := g3_0) rfl gw3_0
  · exact ap (zip_mem (b := g4_0) rfl gw4_0) (zip_mem (b := g4_1) rfl gw4_1)
  · exact ap (zip_mem (b := g5_0) rfl gw5_0) (ap (zip_mem (b := g5_1) rfl gw5_1) (ap (zip_mem (b := g5_2) rfl gw5_2) (ap (zip_mem (b := g5_3) rfl gw5_3) (ap (zip_mem (b := g5_4) rfl gw5_4) (zip_mem (b := g5_5) rfl gw5_5)))))
theorem words {m : Nat} {r : List Nat} (h : Ok m) (hr : r ∈ ords m) : ∃ g, CB 19 [tupN r] = .ok (tupN g) ∧ ex CB 100000 (drp 1 TB.f14.body) [.val (.tuple (lines m)), .non, .val (phi m r), .non, .non] = .ret (tupN g) := by
  obtain ⟨g, h⟩ := wordsA h r hr
  unfold wordB at h
  rw [Bool.and_eq_true] at h
  obtain ⟨h1, h2⟩ := h
  refine ⟨g, ?_, ?_⟩
  · split at h1
    · rename_i d e
      rw [e, sameT_ok h1]
    · cases h1
  · split at h2
    · rename_i d e
      rw [e, sameT_ok h2]
    · cases h2
section
variable {m : Nat} {w : List Nat} {k : Nat}
theorem num (k a : Nat) : D (k + 1) 0 [nat a] = .ok (.bool true) := call_ret (F := TB.f0) rfl rfl rfl
theorem cw (h : Ok m) (hk : 31 ≤ k) (hw : ∀ a ∈ w, a < m - 1) (hl : w.length ≤ 16000000) : D (k + 1) 4 [.tuple (lines m), tupN w] = .ok .none := by
  obtain ⟨j, rfl⟩ : ∃ j, k = j + 1 := ⟨k - 1, by omega⟩
  exact call_next (F := TB.f4) rfl rfl (cw_ok (iT := 2) (iN := 0) (x := 2) (C := D (j + 1)) (up (by omega) (tf h).f2) (num j) hl (by rw [(tf h).len]; exact hw))
theorem aw (h : Ok m) (hk : 32 ≤ k) (hw : ∀ a ∈ w, a < m - 1) (hl : w.length ≤ 16000000) : D (k + 1) 11 [.tuple (lines m), tupN w, phi m (idr m)] = .ok (phi m (rowL m w)) ∧ rowL m w ∈ ords m := by
  obtain ⟨j, rfl⟩ : ∃ j, k = j + 1 := ⟨k - 1, by omega⟩
  have := aw_ok (C := D (j + 1)) (wf := 100000) (iW := 4) (iR := 3) (iT := 10) (tb := .tuple (lines m)) (φ := phi m) (f := fun a r => r.map (sv a)) (P := fun r => r ∈ ords m) (n := m - 1) (w := w) (r := idr m) (cw h (by omega) hw hl) (up (by omega) (tf h).f3) (fun a r ha hr => by
    obtain ⟨t1, t2⟩ := turn h hr ha
    exact ⟨up (by omega) t1, t2⟩) hw (memN'_ok (tf h).mem)
  exact ⟨call_ret (F := TB.f11) rfl rfl this.1, this.2⟩
theorem ones (h : Ok m) (hk : 32 ≤ k) (hw : ∀ a ∈ w, a < m - 1) (hl : w.length ≤ 16000000) : D (k + 1) 15 [.tuple (lines m), tupN w] = .ok (phi m (idr m)) := by
  obtain ⟨j, rfl⟩ : ∃ j, k = j + 1 := ⟨k - 1, by omega⟩
  refine call_ret (F := TB.f15) rfl rfl ?_
  show ex (D (j + 1)) 100000 (.seq (.expr (.call 4 (.cons (.v 0) (.cons (.v 1) (.nil))))) (.ret (.call 12 (.cons (.v 0) (.nil))))) [.val (.tuple (lines m)), .val (tupN w)] = _
  rw [ex_seq (ex_expr (d := .none) (by rw [ev_call2 (x := .tuple (lines m)) (y := tupN w) rfl rfl]; exact cw h (by omega) hw hl))]
  exact ex_ret (by rw [ev_call1 (x := .tuple (lines m)) rfl]; exact up (by omega) (tf h).f12)
theorem first (h : Ok m) (hk : 33 ≤ k) (hw : ∀ a ∈ w, a < m - 1) (hl : w.length ≤ 16000000) : ∃ g, D (k + 1) 19 [tupN (rowL m w)] = .ok (tupN g) ∧ D (k + 1) 14 [.tuple (lines m), tupN w] = .ok (tupN g) := by
  obtain ⟨j, rfl⟩ : ∃ j, k = j + 1 := ⟨k - 1, by omega⟩
  obtain ⟨a1, a2⟩ := aw (k := j) h (by omega) hw hl
  obtain ⟨g, g1, g2⟩ := words h a2
  refine ⟨g, up (by omega) g1, call_ret (F := TB.f14) rfl rfl ?_⟩
  show ex (D (j + 1)) 100000 (.seq (.set (.nm 2) (.call 11 (.cons (.v 0) (.cons (.v 1) (.cons (.call 15 (.cons (.v 0) (.cons (.v 1) (.nil)))) (.nil)))))) (drp 1 TB.f14.body)) [.val (.tuple (lines m)), .val (tupN w), .non, .non, .non] = _
  rw [ex_seq (ex_set (d := phi m (rowL m w)) (by
    rw [ev_call3 (x := .tuple (lines m)) (y := tupN w) (z := phi m (idr m)) rfl rfl (by rw [ev_call2 (x := .tuple (lines m)) (y := tupN w) rfl rfl]; exact ones h (by omega) hw hl)]
    exact a1))]
  have le : ELe [.val (.tuple (lines m)), .non, .val (phi m (rowL m w)), .non, .non] (setS [.val (.tuple (lines m)), .val (tupN w), .non, .non, .non] 2 (.val (phi m (rowL m w)))) := ⟨rfl, fun i => match i with
    | 0 => .inl rfl
    | 1 => .inr ⟨rfl, fun ds z => by cases z⟩
    | 2 => .inl rfl
    | 3 => .inl rfl
    | 4 => .inl rfl
    | _ + 5 => .inl rfl⟩
  have := ex_le (CBD (k := j + 1) (by omega)) 100000 (drp 1 TB.f14.body) le
  rw [g2] at this
  exact this
theorem hid (h : Ok m) : ∀ a, a + 1 < (idr m).length → swapAt a (idr m) = (idr m).map (sv a) := fun a ha => by
  rw [List.length_range] at ha
  exact sameN_ok (List.all_eq_true.mp (tf h).hid a (List.mem_range.mpr (by omega)))
theorem oow (h : Ok m) (hk : 33 ≤ k) (hw : ∀ a ∈ w, a < m - 1) (hl : w.length ≤ 16000000) : D (k + 1) 18 [nat m, tupN w] = .ok (tupN (rowL m w)) := by
  obtain ⟨j, rfl⟩ : ∃ j, k = j + 1 := ⟨k - 1, by omega⟩
  have hm : m < 1000000 := by cases h <;> decide
  refine call_ret (F := TB.f18) rfl rfl ?_
  show ex (D (j + 1)) 100000 (.seq (.expr (.call 17 (.cons (.v 0) (.nil)))) (.seq (.expr (.call 4 (.cons X8 (.cons (.v 1) (.nil))))) (.seq (.setO 2 (.blt .listRng (.cons (.rng (.c (.int 0)) (.v 0)) .nil))) (.seq (.for (.nm 3) (.v 1) (.swp 2 (.v 3) (.bin .add (.v 3) (.c (.int 1))) (.ix (.pk 2) (.bin .add (.v 3) (.c (.int 1)))) (.ix (.pk 2) (.v 3)))) (.ret (.blt .tuple (.cons (.pk 2) (.nil)))))))) [.val (nat m), .val (tupN w), .non, .non] = _
  have le : ELe [.val (nat m), .non, .non, .non] [.val (nat m), .val (tupN w), .non, .non] := ⟨rfl, fun i => match i with
    | 0 => .inl rfl
    | 1 => .inr ⟨rfl, fun ds z => by cases z⟩
    | 2 => .inl rfl
    | 3 => .inl rfl
    | _ + 4 => .inl rfl⟩
  rw [ex_seq (ex_expr (d := .none) (by rw [ev_call1 (x := nat m) rfl]; exact up (by omega) (tf h).f17)),
    ex_seq (ex_expr (d := .none) (by rw [ev_call2 (x := .tuple (lines m)) (y := tupN w) (up_ev (by omega) le (tf h).f8) rfl]; exact cw h (by omega) hw hl))]
  have e3 : ex (D (j + 1)) 100000 (.setO 2 (.blt .listRng (.cons (.rng (.c (.int 0)) (.v 0)) .nil))) [.val (nat m), .val (tupN w), .non, .non] = .next [.val (nat m), .val (tupN w), .own (.lst (nats (idr m))), .non] := by
    have : ev (D (j + 1)) (.blt .listRng (.cons (.rng (.c (.int 0)) (.v 0)) .nil)) [.val (nat m), .val (tupN w), .non, .non] = .ok (.list (nats (idr m))) := by
      have r : ev (D (j + 1)) (.rng (.c (.int 0)) (.v 0)) [.val (nat m), .val (tupN w), .non, .non] = .ok (.list (nats (idr m))) := (tf h).rng
      rw [ev_blt1 r]
      show (match fitN (lenF (nats (idr m))) with | true => R.ok (.list (nats (idr m))) | false => .fail) = _
      rw [lenF_nats, List.length_range]
      have : fitN m = true := by unfold fitN; rw [ES.nble, decide_eq_true_iff]; omega
      rw [this]
    show (ev (D (j + 1)) (.blt .listRng (.cons (.rng (.c (.int 0)) (.v 0)) .nil)) [.val (nat m), .val (tupN w), .non, .non]).st _ _ = _
    rw [this]; rfl
  rw [ex_seq e3]
  obtain ⟨e', l1, l2, l3, l4, _⟩ := swp_loop (C := D (j + 1)) (wf := 100000) (i := 2) (j := 3) (by decide) w (idr m) [.val (nat m), .val (tupN w), .own (.lst (nats (idr m))), .non] (by show 2 < 4; decide) (by show 3 < 4; decide) rfl (fun a ha => by rw [List.length_range]; have := hw a ha; omega) (by rw [List.length_range]; exact hm)
  have e4 : ex (D (j + 1)) 100000 (.for (.nm 3) (.v 1) (.swp 2 (.v 3) (.bin .add (.v 3) (.c (.int 1))) (.ix (.pk 2) (.bin .add (.v 3) (.c (.int 1)))) (.ix (.pk 2) (.v 3)))) [.val (nat m), .val (tupN w), .own (.lst (nats (idr m))), .non] = .next e' := l1
  rw [ex_seq e4]
  refine ex_ret ?_
  rw [fold_lr (hid h) w (fun a ha => by rw [List.length_range]; have := hw a ha; omega)] at l2
  have : ev (D (j + 1)) (.pk 2) e' = .ok (.list (nats (rowL m w))) := by
    show (match getS e' 2 with | .val d => R.ok d | .own (.lst ds) => .ok (.list ds) | _ => .fail) = _
    rw [l2]
  rw [ev_blt1 this]; rfl
/-- the law's statements about the word -/
theorem wordS {e : List SV} (h : Ok m) (hw : ∀ a ∈ w, a < m - 1) (hl : w.length ≤ 16000000) (f : Fi 20 e) (h2 : getS e 2 = .val (nat m)) (h5 : getS e 5 = .val (tupN w)) : ∃ e', ex (D 59) 100000 (tke 4 (drp 5 B)) e = .next e' ∧ Fi 20 e' := by
  have hm : m < 1000000 := by cases h <;> decide
  have e1 : ex (D 59) 100000 (.setO 6 (.blt .listRng (.cons (.rng (.c (.int 0)) (.v 2)) .nil))) e = .next (setS e 6 (.own (.lst (nats (idr m))))) := by
    have : ev (D 59) (.blt .listRng (.cons (.rng (.c (.int 0)) (.v 2)) .nil)) e = .ok (.list (nats (idr m))) := by
      have r : ev (D 59) (.rng (.c (.int 0)) (.v 2)) e = .ok (.list (nats (idr m))) := by
        show (ev (D 59) (.v 2) e).bind (fun y => rngR (.int 0) y) = _
        rw [ev_v h2]; exact (tf h).rng
      rw [ev_blt1 r]
      show (match fitN (lenF (nats (idr m))) with | true => R.ok (.list (nats (idr m))) | false => .fail) = _
      rw [lenF_nats, List.length_range]
      have : fitN m = true := by unfold fitN; rw [ES.nble, decide_eq_true_iff]; omega
      rw [this]
    show (ev (D 59) (.blt .listRng (.cons (.rng (.c (.int 0)) (.v 2)) .nil)) e).st _ _ = _
    rw [this]; rfl
  have l6 : 6 < e.length := by rw [f.len]; decide
  obtain ⟨e2, l1, l2, l3, l4, l5⟩ := swp_loop (C := D 59) (wf := 100000) (i := 6) (j := 7) (by decide) w (idr m) (setS e 6 (.own (.lst (nats (idr m))))) (by rw [sl_len]; exact l6) (by rw [sl_len, f.len]; decide) (sl_same l6) (fun a ha => by rw [List.length_range]; have := hw a ha; omega) (by rw [List.length_range]; exact hm)
  rw [fold_lr (hid h) w (fun a ha => by rw [List.length_range]; have := hw a ha; omega)] at l2
  have g : ∀ k, k ≠ 6 → k ≠ 7 → getS e2 k = getS e k := fun k h6 h7 => by rw [l4 k h6 h7, sl_ne (fun z => h6 z.symm)]
  have w2 : getS e2 2 = .val (nat m) := (g 2 (by decide) (by decide)).trans h2
  have w5 : getS e2 5 = .val (tupN w) := (g 5 (by decide) (by decide)).trans h5
  have e3 : ex (D 59) 100000 (.for (.nm 7) (.v 5) (.swp 6 (.v 7) (.bin .add (.v 7) (.c (.int 1))) (.ix (.pk 6) (.bin .add (.v 7) (.c (.int 1)))) (.ix (.pk 6) (.v 7)))) (setS e 6 (.own (.lst (nats (idr m))))) = .next e2 := by
    show (ev (D 59) (.v 5) (setS e 6 (.own (.lst (nats (idr m)))))).st _ _ = _
    rw [ev_v (d := tupN w) (by rw [sl_ne (by decide)]; exact h5)]
    exact l1
  obtain ⟨gg, q1, q2⟩ := first (k := 58) h (by omega) hw hl
  have p6 : ev (D 59) (.blt .tuple (.cons (.pk 6) (.nil))) e2 = .ok (tupN (rowL m w)) := by
    have : ev (D 59) (.pk 6) e2 = .ok (.list (nats (rowL m w))) := by
      show (match getS e2 6 with | .val d => R.ok d | .own (.lst ds) => .ok (.list ds) | _ => .fail) = _
      rw [l2]
    rw [ev_blt1 this]; rfl
  have x9 : ev (D 59) X9 e2 = .ok (.tuple (lines m)) := by
    obtain ⟨sm, t, t1, t2, t3⟩ := (tf h).f9
    have y1 : ev (D 59) (.bin .sub (.v 2) (.c (.int 1))) e2 = .ok (nat (m - 1)) := (ev_bin (ev_v w2) (y := .int 1) rfl).trans (tf h).sub
    have y2 : ev (D 59) (.blt .str (.cons (.bin .sub (.v 2) (.c (.int 1))) (.nil))) e2 = .ok (.str sm) := (ev_blt1 y1).trans t1
    have y3 : ev (D 59) (.bin .add (.c (.str "A")) (.blt .str (.cons (.bin .sub (.v 2) (.c (.int 1))) (.nil)))) e2 = .ok (.str t) := (ev_bin (x := .str "A") rfl y2).trans t2
    exact (ev_call1 y3).trans (up (by omega) t3)
  have e4 : ex (D 59) 100000 (.ifS (.or (.cmp .ne (.call 18 (.cons (.v 2) (.cons (.v 5) (.nil)))) (.blt .tuple (.cons (.pk 6) (.nil)))) (.cmp .ne (.call 19 (.cons (.blt .tuple (.cons (.pk 6) (.nil))) (.nil))) (.call 14 (.cons X9 (.cons (.v 5) (.nil)))))) (.ret (.c (.bool false))) (.skip)) e2 = .next e2 := by
    refine (ex_if (k := false) ?_).trans rfl
    have a1 : ev (D 59) (.cmp .ne (.call 18 (.cons (.v 2) (.cons (.v 5) (.nil)))) (.blt .tuple (.cons (.pk 6) (.nil)))) e2 = rb false := by
      rw [ev_cmp (x := tupN (rowL m w)) (by rw [ev_call2 (ev_v w2) (ev_v w5)]; exact oow (k := 58) h (by omega) hw hl) p6]
      exact ne_self _
    have a2 : ev (D 59) (.cmp .ne (.call 19 (.cons (.blt .tuple (.cons (.pk 6) (.nil))) (.nil))) (.call 14 (.cons X9 (.cons (.v 5) (.nil))))) e2 = rb false := by
      rw [ev_cmp (x := tupN gg) (y := tupN gg) (by rw [ev_call1 p6]; exact q1) (by rw [ev_call2 x9 (ev_v w5)]; exact q2)]
      exact ne_self _
    show ((ev (D 59) (.cmp .ne (.call 18 (.cons (.v 2) (.cons (.v 5) (.nil)))) (.blt .tuple (.cons (.pk 6) (.nil)))) e2).bind fun x => match x with | .bool false => ev (D 59) (.cmp .ne (.call 19 (.cons (.blt .tuple (.cons (.pk 6) (.nil))) (.nil))) (.call 14 (.cons X9 (.cons (.v 5) (.nil))))) e2 | .bool true => rb true | _ => .fail) = _
    rw [a1]
    exact a2
  refine ⟨setS e2 6 (.val (.list (nats (rowL m w)))), ?_, ⟨by rw [sl_len, l3, sl_len]; exact f.len, fun i ds q => ?_⟩⟩
  · show ex (D 59) 100000 (.seq (.setO 6 (.blt .listRng (.cons (.rng (.c (.int 0)) (.v 2)) .nil))) (.seq (.for (.nm 7) (.v 5) (.swp 6 (.v 7) (.bin .add (.v 7) (.c (.int 1))) (.ix (.pk 6) (.bin .add (.v 7) (.c (.int 1)))) (.ix (.pk 6) (.v 7)))) (.seq (.ifS (.or (.cmp .ne (.call 18 (.cons (.v 2) (.cons (.v 5) (.nil)))) (.blt .tuple (.cons (.pk 6) (.nil)))) (.cmp .ne (.call 19 (.cons (.blt .tuple (.cons (.pk 6) (.nil))) (.nil))) (.call 14 (.cons X9 (.cons (.v 5) (.nil)))))) (.ret (.c (.bool false))) (.skip)) (.seq (.frz 6) .skip)))) e = _
    rw [ex_seq e1, ex_seq e3, ex_seq e4]
    refine (ex_seq (e1 := setS e2 6 (.val (.list (nats (rowL m w))))) ?_).trans rfl
    show (match getS e2 6 with | .own (.lst xs) => RS.next (setS e2 6 (.val (.list xs))) | .own (.ll xss) => .next (setS e2 6 (.val (.list (xss.map .list)))) | _ => .next e2) = _
    rw [l2]
  · by_cases h6 : i = 6
    · subst h6
      rw [sl_same (by rw [l3, sl_len]; exact l6)] at q; cases q
    · rw [sl_ne (fun z => h6 z.symm)] at q
      by_cases h7 : i = 7
      · subst h7
        rcases l5 with ⟨_, z⟩ | ⟨a, z⟩
        · rw [z, sl_ne (by decide)] at q
          exact f.no 7 ds q
        · rw [z] at q; cases q
      · rw [g i h6 h7] at q
        exact f.no i ds q
end
end K79
end

set_option Elab.async false
set_option linter.all false
set_option autoImplicit false
set_option maxRecDepth 1000000
set_option maxHeartbeats 4000007
noncomputable section
namespace K79
open EV PySem
theorem allB {m : Nat} (h : Ok m) : (ords m).all (fun o => okN SB [(2, nat m), (4, tupN o)]) = true := by
  cases h
  · exact gb2_0
  · exact gb3_0
  · exact all_app gb4_0 gb4_1
  · exact all_app gb5_0 (all_app gb5_1 (all_app gb5_2 (all_app gb5_3 (all_app gb5_4 gb5_5))))
theorem allP {m : Nat} (h : Ok m) : (ords m).all patB = true := by
  cases h
  · exact gp2_0
  · exact gp3_0
  · exact all_app gp4_0 gp4_1
  · exact all_app gp5_0 (all_app gp5_1 (all_app gp5_2 (all_app gp5_3 (all_app gp5_4 gp5_5))))
theorem all21 {m : Nat} (h : Ok m) : okN S21 [(3, orders m)] = true := by
  cases h
  · exact g21_2
  · exact g21_3
  · exact g21_4
  · exact g21_5
theorem all24 {m r : Nat} (h : Ok m) (hr : r < 6) : okN S24 [(2, nat m), (3, orders m), (14, tupN (pat r))] = true := by
  have c : r = 0 ∨ r = 1 ∨ r = 2 ∨ r = 3 ∨ r = 4 ∨ r = 5 := by omega
  cases h
  · rcases c with rfl | rfl | rfl | rfl | rfl | rfl
    · exact g24_2_0
    · exact g24_2_1
    · exact g24_2_2
    · exact g24_2_3
    · exact g24_2_4
    · exact g24_2_5
  · rcases c with rfl | rfl | rfl | rfl | rfl | rfl
    · exact g24_3_0
    · exact g24_3_1
    · exact g24_3_2
    · exact g24_3_3
    · exact g24_3_4
    · exact g24_3_5
  · rcases c with rfl | rfl | rfl | rfl | rfl | rfl
    · exact g24_4_0
    · exact g24_4_1
    · exact g24_4_2
    · exact g24_4_3
    · exact g24_4_4
    · exact g24_4_5
  · rcases c with rfl | rfl | rfl | rfl | rfl | rfl
    · exact g24_5_0
    · exact g24_5_1
    · exact g24_5_2
    · exact g24_5_3
    · exact g24_5_4
    · exact g24_5_5
theorem allO {m : Nat} (h : Ok m) : CB 34 [nat m] = .ok (orders m) := by
  cases h
  · exact or2
  · exact or3
  · exact or4
  · exact or5
theorem szO {m : Nat} (h : Ok m) : 0 < (ords m).length ∧ (ords m).length < 1000 := by
  cases h <;> exact ⟨by decide, by decide⟩
/-! the last two statements -/
def c25 : Ct := .ir (.cons (.nil) (.cons (.cons (.c (.int 0)) (.nil)) (.cons (.cons (.c (.int 0)) (.cons (.c (.int 0)) (.nil))) (.cons (.cons (.c (.int 1)) (.cons (.c (.int 2)) (.nil))) (.cons (.lst (.cons (.c (.int 0)) (.cons (.c (.int 1)) (.nil)))) (.cons (.c .none) (.cons (.cons (.c (.int 0)) (.cons (.c (.int 2)) (.nil))) (.cons (.cons (.c (.bool true)) (.cons (.c (.int 0)) (.nil))) (.cons (.blt .tuple (.cons (.blt .listRng (.cons (.rng (.c (.int 0)) (.c (.int 9))) .nil)) (.nil))) (.nil)))))))))) .h
def c26 : Ct := .ca 37 (.cr (.v 15) (.cl .h .nil))
def endB (r k : Nat) : Bool := match ex CB 100000 (.set (.nm 15) (fil c25 (.c (nat r)))) (kn 20 []) with | .next p => fine v20 p && isT (ex CB 100000 (.ret (fil c26 (.c (nat k)))) p) | _ => false
theorem endA : ((List.range 9).all fun r => (List.range 4).all fun k => endB r k) = true := by decide +kernel
theorem law_ok (L : List Int) (hL : L.length = 30) {e1 : List SV} (f1 : Fi 20 e1) (d1 : getS e1 1 = .val (.list (L.map .int))) : ex (D 59) 100000 (drp 1 B) e1 = .ret (.bool true) := by
  -- many
  obtain ⟨z0, x0⟩ := ev_draw (C := D 59) (a := .c (nat 0)) (k := 0) d1 rfl (by omega) (by omega)
  obtain ⟨r0, hr0, y0⟩ := ev_rest (b := .c (nat 4)) x0 rfl (by omega)
  have ok : Ok (r0 + 2) := by
    have c : r0 = 0 ∨ r0 = 1 ∨ r0 = 2 ∨ r0 = 3 := by omega
    rcases c with rfl | rfl | rfl | rfl
    · exact .a
    · exact .b
    · exact .c
    · exact .d
  have m2 : 2 ≤ r0 + 2 := by omega
  have v0 : ev (D 59) (.bin .add (.bin .mod (.ix (.v 1) (.c (nat 0))) (.c (nat 4))) (.c (nat 2))) e1 = .ok (nat (r0 + 2)) := (ev_bin (y := nat 2) y0 rfl).trans rfl
  generalize r0 + 2 = m at ok v0 m2
  rw [show drp 1 B = .seq (.set (.nm 2) (.bin .add (.bin .mod (.ix (.v 1) (.c (nat 0))) (.c (nat 4))) (.c (nat 2)))) (drp 2 B) from rfl, ex_seq (ex_set v0)]
  have f2 := fi_set f1 2 (nat m)
  have d2 : getS (setS e1 2 (.val (nat m))) 1 = .val (.list (L.map .int)) := (sl_ne (by decide)).trans d1
  have u2 : getS (setS e1 2 (.val (nat m))) 2 = .val (nat m) := sl_same (by rw [f1.len]; decide)
  generalize setS e1 2 (.val (nat m)) = e2 at f2 d2 u2
  -- orders
  have v3 : ev (D 59) (.call 34 (.cons (.v 2) .nil)) e2 = .ok (orders m) := (ev_call1 (ev_v u2)).trans (up (by omega) (allO ok))
  rw [show drp 2 B = .seq (.set (.nm 3) (.call 34 (.cons (.v 2) .nil))) (drp 3 B) from rfl, ex_seq (ex_set v3)]
  have f3 := fi_set f2 3 (orders m)
  have d3 : getS (setS e2 3 (.val (orders m))) 1 = .val (.list (L.map .int)) := (sl_ne (by decide)).trans d2
  have a3 : getS (setS e2 3 (.val (orders m))) 2 = .val (nat m) := (sl_ne (by decide)).trans u2
  have b3 : getS (setS e2 3 (.val (orders m))) 3 = .val (orders m) := sl_same (by rw [f2.len]; decide)
  generalize setS e2 3 (.val (orders m)) = e3 at f3 d3 a3 b3
  -- order
  obtain ⟨s1, s2⟩ := szO ok
  obtain ⟨z1, x1⟩ := ev_draw (C := D 59) (a := .c (nat 1)) (k := 1) d3 rfl (by omega) (by omega)
  obtain ⟨z2, x2⟩ := ev_mul (m := 7) x1 (by omega)
  have hlen : ev (D 59) (.blt .len (.cons (.v 3) .nil)) e3 = .ok (.int (.ofNat (ords m).length)) := by
    rw [ev_blt1 (ev_v b3)]
    show R.ok (.int (Int.ofNat (lenF ((ords m).map tupN)))) = _
    rw [ES.lenF_eq, List.length_map]
  obtain ⟨r1, hr1, y1⟩ := ev_rest x2 hlen s1
  have ho : (ords m)[r1] ∈ ords m := List.getElem_mem hr1
  have v4 : ev (D 59) (.ix (.v 3) (.bin .mod (.bin .mul (.ix (.v 1) (.c (nat 1))) (.c (nat 7))) (.blt .len (.cons (.v 3) .nil)))) e3 = .ok (tupN (ords m)[r1]) := by
    refine (ev_ix (ev_v b3) (i := .ofNat r1) y1).trans ?_
    exact (ixl (by omega) (by rw [List.getElem?_map, List.getElem?_eq_getElem hr1]; rfl)).1
  generalize (ords m)[r1] = o at ho v4
  rw [show drp 3 B = .seq (.set (.nm 4) (.ix (.v 3) (.bin .mod (.bin .mul (.ix (.v 1) (.c (nat 1))) (.c (nat 7))) (.blt .len (.cons (.v 3) .nil))))) (drp 4 B) from rfl, ex_seq (ex_set v4)]
  have f4 := fi_set f3 4 (tupN o)
  have d4 : getS (setS e3 4 (.val (tupN o))) 1 = .val (.list (L.map .int)) := (sl_ne (by decide)).trans d3
  have a4 : getS (setS e3 4 (.val (tupN o))) 2 = .val (nat m) := (sl_ne (by decide)).trans a3
  have b4 : getS (setS e3 4 (.val (tupN o))) 3 = .val (orders m) := (sl_ne (by decide)).trans b3
  have c4 : getS (setS e3 4 (.val (tupN o))) 4 = .val (tupN o) := sl_same (by rw [f3.len]; decide)
  generalize setS e3 4 (.val (tupN o)) = e4 at f4 d4 a4 b4 c4
  -- word
  obtain ⟨z3, x3⟩ := ev_draw (C := D 59) (a := .c (nat 20)) (k := 20) d4 rfl (by omega) (by omega)
  obtain ⟨n, hn, y3⟩ := ev_rest (b := .c (nat 8)) x3 rfl (by omega)
  obtain ⟨w, w1, w2, v5⟩ := word_draw (C := D 59) (k := 18) (s0 := 2) (n := n) (Y := .bin .mod (.ix (.v 1) (.c (nat 20))) (.c (nat 8))) (M := .bin .sub (.v 2) (.c (nat 1))) (m := m - 1) f4 (by decide) d4 (by decide) y3 (fun x => by
    rw [ev_bin (ev_v ((sl_ne (by decide)).trans ((sl_ne (by decide)).trans a4))) (y := nat 1) rfl]
    exact (tf ok).sub) (by omega) (by omega) (by omega) (by omega)
  rw [show drp 4 B = .seq (.set (.nm 5) (.blt .tuple (.cons (.comp (.nm 18) (.rng (.c (.int 0)) (.bin .mod (.ix (.v 1) (.c (nat 20))) (.c (nat 8)))) (.c (.bool true)) (.bin .mod (.ix (.v 1) (.bin .add (.c (nat 2)) (.v 18))) (.bin .sub (.v 2) (.c (nat 1)))) [18]) .nil))) (drp 5 B) from rfl]
  refine (ex_seq (ex_set v5)).trans ?_
  have f5 := fi_set f4 5 (tupN w)
  have d5 : getS (setS e4 5 (.val (tupN w))) 1 = .val (.list (L.map .int)) := (sl_ne (by decide)).trans d4
  have a5 : getS (setS e4 5 (.val (tupN w))) 2 = .val (nat m) := (sl_ne (by decide)).trans a4
  have b5 : getS (setS e4 5 (.val (tupN w))) 3 = .val (orders m) := (sl_ne (by decide)).trans b4
  have c5 : getS (setS e4 5 (.val (tupN w))) 4 = .val (tupN o) := (sl_ne (by decide)).trans c4
  have g5 : getS (setS e4 5 (.val (tupN w))) 5 = .val (tupN w) := sl_same (by rw [f4.len]; decide)
  generalize setS e4 5 (.val (tupN w)) = e5 at f5 d5 a5 b5 c5 g5
  -- the statements about the word
  obtain ⟨e6, q6, f6⟩ := wordS ok w2 (by omega) f5 a5 g5
  rw [tke_drp 4 (drp 5 B) (by decide) q6, show drp 4 (drp 5 B) = drp 9 B from rfl]
  have d6 := (kept (i := 1) q6 (by decide)).trans d5
  have a6 := (kept (i := 2) q6 (by decide)).trans a5
  have b6 := (kept (i := 3) q6 (by decide)).trans b5
  have c6 := (kept (i := 4) q6 (by decide)).trans c5
  -- about the order
  obtain ⟨_, e7, _, q7, _, f7⟩ := grp (wf := 100000) (s := SB) (CBD (k := 59) (by omega)) (kn_ok f6 (ks := [(2, nat m), (4, tupN o)]) (List.forall_mem_cons.mpr ⟨a6, List.forall_mem_cons.mpr ⟨c6, fun _ h => nomatch h⟩⟩)) (List.all_eq_true.mp (allB ok) o ho)
  rw [tke_drp 12 (drp 9 B) (by decide) q7, show drp 12 (drp 9 B) = drp 21 B from rfl]
  have d7 := (kept (i := 1) q7 (by decide)).trans d6
  have a7 := (kept (i := 2) q7 (by decide)).trans a6
  have b7 := (kept (i := 3) q7 (by decide)).trans b6
  have c7 := (kept (i := 4) q7 (by decide)).trans c6
  -- all orders
  obtain ⟨_, e8, _, q8, _, f8⟩ := grp (wf := 100000) (s := S21) (CBD (k := 59) (by omega)) (kn_ok f7 (ks := [(3, orders m)]) (List.forall_mem_cons.mpr ⟨b7, fun _ h => nomatch h⟩)) (all21 ok)
  rw [tke_drp 1 (drp 21 B) (by decide) q8, show drp 1 (drp 21 B) = drp 22 B from rfl]
  have d8 := (kept (i := 1) q8 (by decide)).trans d7
  have a8 := (kept (i := 2) q8 (by decide)).trans a7
  have b8 := (kept (i := 3) q8 (by decide)).trans b7
  have c8 := (kept (i := 4) q8 (by decide)).trans c7
  -- pattern
  obtain ⟨z4, x4⟩ := ev_draw (C := D 59) (a := .c (nat 21)) (k := 21) d8 rfl (by omega) (by omega)
  obtain ⟨r4, hr4, y4⟩ := ev_rest (b := .c (nat 6)) x4 rfl (by omega)
  let P6 : X := .cons (.cons (.c (.int 0)) (.cons (.c (.int 1)) (.nil))) (.cons (.cons (.c (.int 1)) (.cons (.c (.int 0)) (.nil))) (.cons (.cons (.c (.int 0)) (.cons (.c (.int 1)) (.cons (.c (.int 2)) (.nil)))) (.cons (.cons (.c (.int 1)) (.cons (.c (.int 2)) (.cons (.c (.int 0)) (.nil)))) (.cons (.cons (.c (.int 2)) (.cons (.c (.int 1)) (.cons (.c (.int 0)) (.nil)))) (.cons (.cons (.c (.int 0)) (.cons (.c (.int 2)) (.cons (.c (.int 1)) (.nil)))) (.nil))))))
  have v9 : ev (D 59) (.ix P6 (.bin .mod (.ix (.v 1) (.c (nat 21))) (.c (nat 6)))) e8 = .ok (tupN (pat r4)) := by
    have hp : ev (D 59) P6 e8 = .ok (.tuple [tupN [0, 1], tupN [1, 0], tupN [0, 1, 2], tupN [1, 2, 0], tupN [2, 1, 0], tupN [0, 2, 1]]) := rfl
    rw [ev_ix hp (i := .ofNat r4) y4]
    have c : r4 = 0 ∨ r4 = 1 ∨ r4 = 2 ∨ r4 = 3 ∨ r4 = 4 ∨ r4 = 5 := by omega
    rcases c with rfl | rfl | rfl | rfl | rfl | rfl <;> rfl
  rw [show drp 22 B = .seq (.set (.nm 14) (.ix P6 (.bin .mod (.ix (.v 1) (.c (nat 21))) (.c (nat 6))))) (drp 23 B) from rfl, ex_seq (ex_set v9)]
  have f9 := fi_set f8 14 (tupN (pat r4))
  have d9 : getS (setS e8 14 (.val (tupN (pat r4)))) 1 = .val (.list (L.map .int)) := (sl_ne (by decide)).trans d8
  have a9 : getS (setS e8 14 (.val (tupN (pat r4)))) 2 = .val (nat m) := (sl_ne (by decide)).trans a8
  have b9 : getS (setS e8 14 (.val (tupN (pat r4)))) 3 = .val (orders m) := (sl_ne (by decide)).trans b8
  have c9 : getS (setS e8 14 (.val (tupN (pat r4)))) 4 = .val (tupN o) := (sl_ne (by decide)).trans c8
  have g9 : getS (setS e8 14 (.val (tupN (pat r4)))) 14 = .val (tupN (pat r4)) := sl_same (by rw [f8.len]; decide)
  generalize setS e8 14 (.val (tupN (pat r4))) = e9 at f9 d9 a9 b9 c9 g9
  obtain ⟨_, e10, _, q10, _, f10⟩ := grp (wf := 100000) (s := S23) (CBD (k := 59) (by omega)) (kn_ok f9 (ks := [(4, tupN o), (14, tupN (pat r4))]) (List.forall_mem_cons.mpr ⟨c9, List.forall_mem_cons.mpr ⟨g9, fun _ h => nomatch h⟩⟩)) (List.all_eq_true.mp (List.all_eq_true.mp (allP ok) o ho) r4 (List.mem_range.mpr hr4))
  rw [tke_drp 1 (drp 23 B) (by decide) q10, show drp 1 (drp 23 B) = drp 24 B from rfl]
  have d10 := (kept (i := 1) q10 (by decide)).trans d9
  have a10 := (kept (i := 2) q10 (by decide)).trans a9
  have b10 := (kept (i := 3) q10 (by decide)).trans b9
  have g10 := (kept (i := 14) q10 (by decide)).trans g9
  obtain ⟨_, e11, _, q11, _, f11⟩ := grp (wf := 100000) (s := S24) (CBD (k := 59) (by omega)) (kn_ok f10 (ks := [(2, nat m), (3, orders m), (14, tupN (pat r4))]) (List.forall_mem_cons.mpr ⟨a10, List.forall_mem_cons.mpr ⟨b10, List.forall_mem_cons.mpr ⟨g10, fun _ h => nomatch h⟩⟩⟩)) (all24 ok hr4)
  rw [tke_drp 1 (drp 24 B) (by decide) q11, show drp 1 (drp 24 B) = drp 25 B from rfl]
  have d11 := (kept (i := 1) q11 (by decide)).trans d10
  -- what is no order
  obtain ⟨z5, x5⟩ := ev_draw (C := D 59) (a := .c (nat 22)) (k := 22) d11 rfl (by omega) (by omega)
  obtain ⟨r5, hr5, y5⟩ := ev_rest (b := .c (nat 9)) x5 rfl (by omega)
  rw [show drp 25 B = .seq (.set (.nm 15) (fil c25 (.bin .mod (.ix (.v 1) (.c (nat 22))) (.c (nat 9))))) (drp 26 B) from rfl, seq_eq (set_fil (q := .nm 15) (c := c25) y5)]
  have hE : ∀ k, k < 4 → endB r5 k = true := fun k hk => List.all_eq_true.mp (List.all_eq_true.mp endA r5 (List.mem_range.mpr hr5)) k (List.mem_range.mpr hk)
  have h0 := hE 0 (by omega)
  have hN : isN v20 (ex CB 100000 (.set (.nm 15) (fil c25 (.c (nat r5)))) (kn 20 [])) = true := by
    unfold endB at h0
    split at h0
    · rename_i p hp
      rw [Bool.and_eq_true] at h0
      rw [hp]; exact h0.1
    · cases h0
  obtain ⟨p12, e12, p12e, q12, l12, f12⟩ := grp (wf := 100000) (s := .set (.nm 15) (fil c25 (.c (nat r5)))) (CBD (k := 59) (by omega)) (kn_ok f11 (ks := []) (fun _ h => nomatch h)) hN
  refine (ex_seq q12).trans ?_
  have d12 : getS e12 1 = .val (.list (L.map .int)) := (kept (i := 1) q12 rfl).trans d11
  obtain ⟨z6, x6⟩ := ev_draw (C := D 59) (a := .c (nat 23)) (k := 23) d12 rfl (by omega) (by omega)
  obtain ⟨r6, hr6, y6⟩ := ev_rest (b := .c (nat 4)) x6 rfl (by omega)
  rw [show drp 26 B = .ret (fil c26 (.bin .mod (.ix (.v 1) (.c (nat 23))) (.c (nat 4)))) from rfl, ret_fil (c := c26) y6]
  refine grpT (CBD (k := 59) (by omega)) l12 ?_
  have h6 := hE r6 hr6
  unfold endB at h6
  rw [p12e] at h6
  rw [Bool.and_eq_true] at h6
  exact h6.2
theorem evs (ns : List Int) : callF TB.Tb 100000 60 38 [.list (ns.map .int)] = .ok (.bool true) := by
  obtain ⟨x, hx⟩ := cell0 (T := TB.Tb) (wf := 100000) (k := 58) (f := 32) rfl ns
  obtain ⟨L, hL, _, hd⟩ := draws (T := TB.Tb) (wf := 100000) (k := 58) (f := 33) rfl x 30 (by omega)
  refine call_ret (F := TB.f38) rfl rfl ?_
  have f0 : Fi 20 (argS [.list (ns.map .int)] 19) := ⟨by show (argS [] 19).length + 1 = 20; rw [argS_len0], fun i ds q => by
    cases i with
    | zero => cases q
    | succ i =>
      have q : getS (argS [] 19) i = .own ds := q
      rw [argS_non] at q; cases q⟩
  have v : ev (D 59) (.call 33 (.cons (.call 32 (.cons (.v 0) (.cons (.c (.int 0)) .nil))) (.cons (.c (.int 30)) .nil))) (argS [.list (ns.map .int)] 19) = .ok (.list (L.map .int)) := by
    rw [ev_call2 (x := .int x) (y := .int 30) (by rw [ev_call2 (x := .list (ns.map .int)) (y := .int 0) rfl rfl]; exact hx) rfl]
    exact hd
  show ex (D 59) 100000 (.seq (.set (.nm 1) (.call 33 (.cons (.call 32 (.cons (.v 0) (.cons (.c (.int 0)) .nil))) (.cons (.c (.int 30)) .nil)))) (drp 1 B)) (argS [.list (ns.map .int)] 19) = _
  rw [ex_seq (ex_set v)]
  exact law_ok L hL (fi_set f0 1 _) (sl_same (by rw [f0.len]; decide))
end K79
end

set_option Elab.async false
set_option linter.all false
set_option maxRecDepth 100000
set_option maxHeartbeats 0
namespace HK
open PySem PySem.Spec
open PyProof.Rows L2
def top (i : Nat) : Stmt := PySem.Challenge.pw_rootworks_k79_orders_of_things.main.body.getD i (.Pass ⟨0, 0, 0, 0⟩)
def dd (x : Str) (i : Nat) : He.DefD := ⟨(x, none), x, x, defArgs (top i), defBody (top i), defScope (top i), [], []⟩
def fn : List He.DefD := [dd "is_number" 10, dd "is_line" 11, dd "check_table" 12, dd "check_row" 13, dd "check_word" 14, dd "beside" 15, dd "is_kind_name" 19, dd "links" 20, dd "standard" 21, dd "named" 22, dd "weight_turn" 24, dd "acted_weight" 25, dd "ones" 26, dd "begins" 27, dd "first_word" 28, dd "ones_of" 29, dd "check_order" 32, dd "check_many" 33, dd "order_of_word" 34, dd "word_of_order" 35, dd "code" 36, dd "order_of_code" 37, dd "falls" 38, dd "crossings" 39, dd "major" 40, dd "undone" 41, dd "rounds" 42, dd "has_pattern" 43, dd "picks" 44, dd "alike" 45, dd "all_orders" 46, dd "avoiding" 47, dd "_law_cell" 49, dd "_law_draws" 50, dd "_law_orders" 51, dd "_law_rows" 52, dd "_law_has" 53, dd "_law_refuses" 54, dd "law" 55]
def fa : List He.Fa := [.glo "is_number", .glo "is_line", .glo "check_table", .glo "check_row", .glo "check_word", .glo "beside", .glo "is_kind_name", .glo "links", .glo "standard", .glo "named", .glo "weight_turn", .glo "acted_weight", .glo "ones", .glo "begins", .glo "first_word", .glo "ones_of", .glo "check_order", .glo "check_many", .glo "order_of_word", .glo "word_of_order", .glo "code", .glo "order_of_code", .glo "falls", .glo "crossings", .glo "major", .glo "undone", .glo "rounds", .glo "has_pattern", .glo "picks", .glo "alike", .glo "all_orders", .glo "avoiding", .glo "_law_cell", .glo "_law_draws", .glo "_law_orders", .glo "_law_rows", .glo "_law_has", .glo "_law_refuses", .glo "law", .free "abs", .free "all", .free "any", .free "int", .free "isinstance", .free "len", .free "list", .free "max", .free "min", .free "range", .free "reversed", .free "sorted", .free "str", .free "sum", .free "tuple", .glo "BadTable", .exc "BadTable", .glo "BadRow", .exc "BadRow", .glo "BadWord", .exc "BadWord", .glo "BadName", .exc "BadName", .glo "BadShape", .exc "BadShape", .exm "BadTable" "BadTable" true, .exm "BadRow" "BadTable" false, .exm "BadWord" "BadTable" false, .exm "BadName" "BadTable" false, .exm "BadShape" "BadTable" false, .exm "BadTable" "BadRow" false, .exm "BadRow" "BadRow" true, .exm "BadWord" "BadRow" false, .exm "BadName" "BadRow" false, .exm "BadShape" "BadRow" false, .exm "BadTable" "BadWord" false, .exm "BadRow" "BadWord" false, .exm "BadWord" "BadWord" true, .exm "BadName" "BadWord" false, .exm "BadShape" "BadWord" false, .exm "BadTable" "BadName" false, .exm "BadRow" "BadName" false, .exm "BadWord" "BadName" false, .exm "BadName" "BadName" true, .exm "BadShape" "BadName" false, .exm "BadTable" "BadShape" false, .exm "BadRow" "BadShape" false, .exm "BadWord" "BadShape" false, .exm "BadName" "BadShape" false, .exm "BadShape" "BadShape" true, .int "MOST_SIZE" 8, .int "LEAST" (-9), .int "MOST_THINGS" 8, .glo "LEAST_SIZE", .glo "GREATEST_SIZE"]
def tf : List He.Defn := [("check_row", none), ("check_word", none), ("check_order", none), ("order_of_code", none), ("has_pattern", none), ("avoiding", none)]
abbrev R : PySem.W.OpenRow := PySem.W.OpenLaw.row PySem.Challenge.rw_rootworks_k79_orders_of_things
def ts : List He.Tab := [((fun K => He.ga K "LEAST_SIZE"), ["A", "B", "C", "D", "E", "F", "G"]), ((fun K => He.ga K "GREATEST_SIZE"), ["A", "B", "C", "D", "E", "F", "G"])]
def ex : PySem.W.Frag → Bool := fun K => He.valsB K (He.ga K "LEAST_SIZE") [("A", .int 1), ("B", .int 2), ("C", .int 3), ("D", .int 4), ("E", .int 6), ("F", .int 4), ("G", .int 2)] && He.valsB K (He.ga K "GREATEST_SIZE") [("A", .int 8), ("B", .int 8), ("C", .int 8), ("D", .int 8), ("E", .int 8), ("F", .int 4), ("G", .int 2)]
abbrev hk : PySem.W.Hook := He.hookX 4 fa fn ts tf ex
def ob (s : PySem.W.SharedT) : He.AlX := He.obsX 4 fa fn ts tf ex (HandSHeadRun.getT s)
theorem ob_eq (s : PySem.W.SharedT) : ob s = hk.obs s.abs := He.obsX_eq (HandSHeadRun.getT_eq s)
def names : List PySem.Str := [("RootError" : PySem.Str), ("BadTable" : PySem.Str), ("BadRow" : PySem.Str), ("BadWord" : PySem.Str), ("BadName" : PySem.Str), ("BadShape" : PySem.Str), ("MOST_SIZE" : PySem.Str), ("LEAST" : PySem.Str), ("is_number" : PySem.Str), ("is_line" : PySem.Str), ("check_table" : PySem.Str), ("check_row" : PySem.Str), ("check_word" : PySem.Str), ("beside" : PySem.Str), ("LEAST_SIZE" : PySem.Str), ("GREATEST_SIZE" : PySem.Str), ("is_kind_name" : PySem.Str), ("links" : PySem.Str), ("standard" : PySem.Str), ("named" : PySem.Str), ("weight_turn" : PySem.Str), ("acted_weight" : PySem.Str), ("ones" : PySem.Str), ("begins" : PySem.Str), ("first_word" : PySem.Str), ("ones_of" : PySem.Str), ("MOST_THINGS" : PySem.Str), ("check_order" : PySem.Str), ("check_many" : PySem.Str), ("order_of_word" : PySem.Str), ("word_of_order" : PySem.Str), ("code" : PySem.Str), ("order_of_code" : PySem.Str), ("falls" : PySem.Str), ("crossings" : PySem.Str), ("major" : PySem.Str), ("undone" : PySem.Str), ("rounds" : PySem.Str), ("has_pattern" : PySem.Str), ("picks" : PySem.Str), ("alike" : PySem.Str), ("all_orders" : PySem.Str), ("avoiding" : PySem.Str), ("_law_cell" : PySem.Str), ("_law_draws" : PySem.Str), ("_law_orders" : PySem.Str), ("_law_rows" : PySem.Str), ("_law_has" : PySem.Str), ("_law_refuses" : PySem.Str)]
end HK

noncomputable section
namespace HK
open PySem PySem.Spec PyProof.Rows L2 ES
def Gm : Gs := ⟨[(("is_number" : PySem.Str), 1), (("is_line" : PySem.Str), 2), (("check_table" : PySem.Str), 1), (("check_row" : PySem.Str), 2), (("check_word" : PySem.Str), 2), (("beside" : PySem.Str), 2), (("is_kind_name" : PySem.Str), 2), (("links" : PySem.Str), 2), (("standard" : PySem.Str), 2), (("named" : PySem.Str), 1), (("weight_turn" : PySem.Str), 3), (("acted_weight" : PySem.Str), 3), (("ones" : PySem.Str), 1), (("begins" : PySem.Str), 1), (("first_word" : PySem.Str), 2), (("ones_of" : PySem.Str), 2), (("check_order" : PySem.Str), 1), (("check_many" : PySem.Str), 1), (("order_of_word" : PySem.Str), 2), (("word_of_order" : PySem.Str), 1), (("code" : PySem.Str), 1), (("order_of_code" : PySem.Str), 1), (("falls" : PySem.Str), 1), (("crossings" : PySem.Str), 1), (("major" : PySem.Str), 1), (("undone" : PySem.Str), 1), (("rounds" : PySem.Str), 1), (("has_pattern" : PySem.Str), 2), (("picks" : PySem.Str), 2), (("alike" : PySem.Str), 2), (("all_orders" : PySem.Str), 1), (("avoiding" : PySem.Str), 2), (("_law_cell" : PySem.Str), 2), (("_law_draws" : PySem.Str), 2), (("_law_orders" : PySem.Str), 1), (("_law_rows" : PySem.Str), 2), (("_law_has" : PySem.Str), 2), (("_law_refuses" : PySem.Str), 2), (("law" : PySem.Str), 1)], [("MOST_SIZE", .int (8)), ("MOST_THINGS", .int (8)), ("LEAST", .int (-9))], ["BadTable", "BadRow", "BadWord", "BadName", "BadShape"], [("LEAST_SIZE", [("A", 1), ("B", 2), ("C", 3), ("D", 4), ("E", 6), ("F", 4), ("G", 2)]), ("GREATEST_SIZE", [("A", 8), ("B", 8), ("C", 8), ("D", 8), ("E", 8), ("F", 4), ("G", 2)])]⟩
def D0 : Df := ⟨dd "is_number" 10, ["value"], ["value"], false⟩
def D1 : Df := ⟨dd "is_line" 11, ["table", "at", "line", "k"], ["table", "at"], false⟩
def D2 : Df := ⟨dd "check_table" 12, ["table", "at", "k"], ["table"], false⟩
def D3 : Df := ⟨dd "check_row" 13, ["table", "row", "number"], ["table", "row"], true⟩
def D4 : Df := ⟨dd "check_word" 14, ["table", "word", "at"], ["table", "word"], true⟩
def D5 : Df := ⟨dd "beside" 15, ["first", "second", "upper", "line", "k"], ["first", "second"], false⟩
def D6 : Df := ⟨dd "is_kind_name" 19, ["letter", "size"], ["letter", "size"], false⟩
def D7 : Df := ⟨dd "links" 20, ["letter", "size", "at"], ["letter", "size"], false⟩
def D8 : Df := ⟨dd "standard" 21, ["letter", "size", "lines", "first", "second", "at", "k", "line"], ["letter", "size"], false⟩
def D9 : Df := ⟨dd "named" 22, ["text", "result", "word", "table"], ["text"], false⟩
def D10 : Df := ⟨dd "weight_turn" 24, ["table", "at", "weight", "k"], ["table", "at", "weight"], false⟩
def D11 : Df := ⟨dd "acted_weight" 25, ["table", "word", "weight", "at"], ["table", "word", "weight"], false⟩
def D12 : Df := ⟨dd "ones" 26, ["table", "line"], ["table"], false⟩
def D13 : Df := ⟨dd "begins" 27, ["weight", "at"], ["weight"], false⟩
def D14 : Df := ⟨dd "first_word" 28, ["table", "word", "weight", "result", "at"], ["table", "word"], false⟩
def D15 : Df := ⟨dd "ones_of" 29, ["table", "word"], ["table", "word"], false⟩
def D16 : Df := ⟨dd "check_order" 32, ["order", "one"], ["order"], true⟩
def D17 : Df := ⟨dd "check_many" 33, ["many"], ["many"], false⟩
def D18 : Df := ⟨dd "order_of_word" 34, ["many", "word", "order", "at"], ["many", "word"], false⟩
def D19 : Df := ⟨dd "word_of_order" 35, ["order", "row", "word", "found", "at"], ["order"], false⟩
def D20 : Df := ⟨dd "code" 36, ["order", "at", "one"], ["order"], false⟩
def D21 : Df := ⟨dd "order_of_code" 37, ["row", "left", "order", "number", "at", "one"], ["row"], true⟩
def D22 : Df := ⟨dd "falls" 38, ["order", "at"], ["order"], false⟩
def D23 : Df := ⟨dd "crossings" 39, ["order"], ["order"], false⟩
def D24 : Df := ⟨dd "major" 40, ["order", "at"], ["order"], false⟩
def D25 : Df := ⟨dd "undone" 41, ["order", "result", "at", "one"], ["order"], false⟩
def D26 : Df := ⟨dd "rounds" 42, ["order", "seen", "found", "start", "size", "here"], ["order"], false⟩
def D27 : Df := ⟨dd "has_pattern" 43, ["order", "pattern", "own"], ["order", "pattern"], true⟩
def D28 : Df := ⟨dd "picks" 44, ["order", "many", "found", "one", "row"], ["order", "many"], false⟩
def D29 : Df := ⟨dd "alike" 45, ["row", "pattern", "one"], ["row", "pattern"], false⟩
def D30 : Df := ⟨dd "all_orders" 46, ["many", "found", "step", "row", "one"], ["many"], false⟩
def D31 : Df := ⟨dd "avoiding" 47, ["many", "pattern", "size", "order", "row"], ["many", "pattern"], true⟩
def D32 : Df := ⟨dd "_law_cell" 49, ["script", "k"], ["script", "k"], false⟩
def D33 : Df := ⟨dd "_law_draws" 50, ["cell", "count", "result", "rest", "k", "mixed"], ["cell", "count"], false⟩
def D34 : Df := ⟨dd "_law_orders" 51, ["many", "found", "turn", "longer", "row", "at"], ["many"], false⟩
def D35 : Df := ⟨dd "_law_rows" 52, ["order", "size", "found", "one", "row"], ["order", "size"], false⟩
def D36 : Df := ⟨dd "_law_has" 53, ["order", "pattern", "row", "other", "one"], ["order", "pattern"], false⟩
def D37 : Df := ⟨dd "_law_refuses" 54, ["order", "k"], ["order", "k"], false⟩
def D38 : Df := ⟨dd "law" 55, ["script", "n", "many", "orders", "order", "word", "row", "at", "numbers", "down", "back", "seen", "sizes", "start", "pattern", "wrong", "here", "size", "k", "one"], ["script"], false⟩
def Ds : List Df := [D0, D1, D2, D3, D4, D5, D6, D7, D8, D9, D10, D11, D12, D13, D14, D15, D16, D17, D18, D19, D20, D21, D22, D23, D24, D25, D26, D27, D28, D29, D30, D31, D32, D33, D34, D35, D36, D37, D38]
theorem ck0 : allB Gm 40 TB.Tb Ds 0 = true := by decide +kernel -- is_number
theorem ck1 : allB Gm 40 TB.Tb Ds 1 = true := by decide +kernel -- is_line
theorem ck2 : allB Gm 40 TB.Tb Ds 2 = true := by decide +kernel -- check_table
theorem ck3 : allB Gm 40 TB.Tb Ds 3 = true := by decide +kernel -- check_row
theorem ck4 : allB Gm 40 TB.Tb Ds 4 = true := by decide +kernel -- check_word
theorem ck5 : allB Gm 40 TB.Tb Ds 5 = true := by decide +kernel -- beside
theorem ck6 : allB Gm 40 TB.Tb Ds 6 = true := by decide +kernel -- is_kind_name
theorem ck7 : allB Gm 40 TB.Tb Ds 7 = true := by decide +kernel -- links
theorem ck8 : allB Gm 40 TB.Tb Ds 8 = true := by decide +kernel -- standard
theorem ck9 : allB Gm 40 TB.Tb Ds 9 = true := by decide +kernel -- named
theorem ck10 : allB Gm 40 TB.Tb Ds 10 = true := by decide +kernel -- weight_turn
theorem ck11 : allB Gm 40 TB.Tb Ds 11 = true := by decide +kernel -- acted_weight
theorem ck12 : allB Gm 40 TB.Tb Ds 12 = true := by decide +kernel -- ones
theorem ck13 : allB Gm 40 TB.Tb Ds 13 = true := by decide +kernel -- begins
theorem ck14 : allB Gm 40 TB.Tb Ds 14 = true := by decide +kernel -- first_word
theorem ck15 : allB Gm 40 TB.Tb Ds 15 = true := by decide +kernel -- ones_of
theorem ck16 : allB Gm 40 TB.Tb Ds 16 = true := by decide +kernel -- check_order
theorem ck17 : allB Gm 40 TB.Tb Ds 17 = true := by decide +kernel -- check_many
theorem ck18 : allB Gm 40 TB.Tb Ds 18 = true := by decide +kernel -- order_of_word
theorem ck19 : allB Gm 40 TB.Tb Ds 19 = true := by decide +kernel -- word_of_order
theorem ck20 : allB Gm 40 TB.Tb Ds 20 = true := by decide +kernel -- code
theorem ck21 : allB Gm 40 TB.Tb Ds 21 = true := by decide +kernel -- order_of_code
theorem ck22 : allB Gm 40 TB.Tb Ds 22 = true := by decide +kernel -- falls
theorem ck23 : allB Gm 40 TB.Tb Ds 23 = true := by decide +kernel -- crossings
theorem ck24 : allB Gm 40 TB.Tb Ds 24 = true := by decide +kernel -- major
theorem ck25 : allB Gm 40 TB.Tb Ds 25 = true := by decide +kernel -- undone
theorem ck26 : allB Gm 40 TB.Tb Ds 26 = true := by decide +kernel -- rounds
theorem ck27 : allB Gm 40 TB.Tb Ds 27 = true := by decide +kernel -- has_pattern
theorem ck28 : allB Gm 40 TB.Tb Ds 28 = true := by decide +kernel -- picks
theorem ck29 : allB Gm 40 TB.Tb Ds 29 = true := by decide +kernel -- alike
theorem ck30 : allB Gm 40 TB.Tb Ds 30 = true := by decide +kernel -- all_orders
theorem ck31 : allB Gm 40 TB.Tb Ds 31 = true := by decide +kernel -- avoiding
theorem ck32 : allB Gm 40 TB.Tb Ds 32 = true := by decide +kernel -- _law_cell
theorem ck33 : allB Gm 40 TB.Tb Ds 33 = true := by decide +kernel -- _law_draws
theorem ck34 : allB Gm 40 TB.Tb Ds 34 = true := by decide +kernel -- _law_orders
theorem ck35 : allB Gm 40 TB.Tb Ds 35 = true := by decide +kernel -- _law_rows
theorem ck36 : allB Gm 40 TB.Tb Ds 36 = true := by decide +kernel -- _law_has
theorem ck37 : allB Gm 40 TB.Tb Ds 37 = true := by decide +kernel -- _law_refuses
theorem ck38 : allB Gm 40 TB.Tb Ds 38 = true := by decide +kernel -- law
end HK
end

set_option Elab.async false
set_option linter.all false
set_option maxRecDepth 100000
set_option maxHeartbeats 0
namespace HK
open PySem PySem.Spec
open PyProof.Rows L2
def wb (w : World) (b : Bool) : World := { w with params := { w.params with followText := fun r => if r = "special-get-raises" then b else w.params.followText r } }
theorem wb_eq (w : World) : wb w (w.params.followText "special-get-raises") = w := by
  obtain ⟨d, p⟩ := w
  have e : (fun r => if r = "special-get-raises" then p.followText "special-get-raises" else p.followText r) = p.followText := by
    funext r
    by_cases h : r = "special-get-raises"
    · rw [if_pos h, h]
    · rw [if_neg h]
  show World.mk d { p with followText := fun r => if r = "special-get-raises" then p.followText "special-get-raises" else p.followText r } = _
  rw [e]
theorem run (w : World) : HandSHeadRun.RunEq R (PySem.W.view R.prog [55]) hk ob 6000 names w := by
  rw [← wb_eq w]
  cases w.params.followText "special-get-raises" with
  | true =>
    intro os
    kernel_rfl
  | false =>
    intro os
    kernel_rfl
end HK

set_option Elab.async false
set_option linter.all false
set_option maxRecDepth 100000
set_option maxHeartbeats 0
noncomputable section
namespace HK
open PySem PySem.Spec PyProof.Rows L2 ES
theorem bn0 (kV doc pm : Value) (an : Option Addr) (cdv ct : Value) (us : List Value) (hl : us.length = 1) : bindArgs (PySem.W.fnOf D0.d.name D0.d.qual D0.d.params D0.d.body D0.d.scope .none kV doc pm an cdv ct) ⟨us, []⟩ = pure (D0.ps.zip us) := match us, hl with | [_], _ => rfl
theorem bn1 (kV doc pm : Value) (an : Option Addr) (cdv ct : Value) (us : List Value) (hl : us.length = 2) : bindArgs (PySem.W.fnOf D1.d.name D1.d.qual D1.d.params D1.d.body D1.d.scope .none kV doc pm an cdv ct) ⟨us, []⟩ = pure (D1.ps.zip us) := match us, hl with | [_, _], _ => rfl
theorem bn2 (kV doc pm : Value) (an : Option Addr) (cdv ct : Value) (us : List Value) (hl : us.length = 1) : bindArgs (PySem.W.fnOf D2.d.name D2.d.qual D2.d.params D2.d.body D2.d.scope .none kV doc pm an cdv ct) ⟨us, []⟩ = pure (D2.ps.zip us) := match us, hl with | [_], _ => rfl
theorem bn3 (kV doc pm : Value) (an : Option Addr) (cdv ct : Value) (us : List Value) (hl : us.length = 2) : bindArgs (PySem.W.fnOf D3.d.name D3.d.qual D3.d.params D3.d.body D3.d.scope .none kV doc pm an cdv ct) ⟨us, []⟩ = pure (D3.ps.zip us) := match us, hl with | [_, _], _ => rfl
theorem bn4 (kV doc pm : Value) (an : Option Addr) (cdv ct : Value) (us : List Value) (hl : us.length = 2) : bindArgs (PySem.W.fnOf D4.d.name D4.d.qual D4.d.params D4.d.body D4.d.scope .none kV doc pm an cdv ct) ⟨us, []⟩ = pure (D4.ps.zip us) := match us, hl with | [_, _], _ => rfl
theorem bn5 (kV doc pm : Value) (an : Option Addr) (cdv ct : Value) (us : List Value) (hl : us.length = 2) : bindArgs (PySem.W.fnOf D5.d.name D5.d.qual D5.d.params D5.d.body D5.d.scope .none kV doc pm an cdv ct) ⟨us, []⟩ = pure (D5.ps.zip us) := match us, hl with | [_, _], _ => rfl
theorem bn6 (kV doc pm : Value) (an : Option Addr) (cdv ct : Value) (us : List Value) (hl : us.length = 2) : bindArgs (PySem.W.fnOf D6.d.name D6.d.qual D6.d.params D6.d.body D6.d.scope .none kV doc pm an cdv ct) ⟨us, []⟩ = pure (D6.ps.zip us) := match us, hl with | [_, _], _ => rfl
theorem bn7 (kV doc pm : Value) (an : Option Addr) (cdv ct : Value) (us : List Value) (hl : us.length = 2) : bindArgs (PySem.W.fnOf D7.d.name D7.d.qual D7.d.params D7.d.body D7.d.scope .none kV doc pm an cdv ct) ⟨us, []⟩ = pure (D7.ps.zip us) := match us, hl with | [_, _], _ => rfl
theorem bn8 (kV doc pm : Value) (an : Option Addr) (cdv ct : Value) (us : List Value) (hl : us.length = 2) : bindArgs (PySem.W.fnOf D8.d.name D8.d.qual D8.d.params D8.d.body D8.d.scope .none kV doc pm an cdv ct) ⟨us, []⟩ = pure (D8.ps.zip us) := match us, hl with | [_, _], _ => rfl
theorem bn9 (kV doc pm : Value) (an : Option Addr) (cdv ct : Value) (us : List Value) (hl : us.length = 1) : bindArgs (PySem.W.fnOf D9.d.name D9.d.qual D9.d.params D9.d.body D9.d.scope .none kV doc pm an cdv ct) ⟨us, []⟩ = pure (D9.ps.zip us) := match us, hl with | [_], _ => rfl
theorem bn10 (kV doc pm : Value) (an : Option Addr) (cdv ct : Value) (us : List Value) (hl : us.length = 3) : bindArgs (PySem.W.fnOf D10.d.name D10.d.qual D10.d.params D10.d.body D10.d.scope .none kV doc pm an cdv ct) ⟨us, []⟩ = pure (D10.ps.zip us) := match us, hl with | [_, _, _], _ => rfl
theorem bn11 (kV doc pm : Value) (an : Option Addr) (cdv ct : Value) (us : List Value) (hl : us.length = 3) : bindArgs (PySem.W.fnOf D11.d.name D11.d.qual D11.d.params D11.d.body D11.d.scope .none kV doc pm an cdv ct) ⟨us, []⟩ = pure (D11.ps.zip us) := match us, hl with | [_, _, _], _ => rfl
theorem bn12 (kV doc pm : Value) (an : Option Addr) (cdv ct : Value) (us : List Value) (hl : us.length = 1) : bindArgs (PySem.W.fnOf D12.d.name D12.d.qual D12.d.params D12.d.body D12.d.scope .none kV doc pm an cdv ct) ⟨us, []⟩ = pure (D12.ps.zip us) := match us, hl with | [_], _ => rfl
theorem bn13 (kV doc pm : Value) (an : Option Addr) (cdv ct : Value) (us : List Value) (hl : us.length = 1) : bindArgs (PySem.W.fnOf D13.d.name D13.d.qual D13.d.params D13.d.body D13.d.scope .none kV doc pm an cdv ct) ⟨us, []⟩ = pure (D13.ps.zip us) := match us, hl with | [_], _ => rfl
theorem bn14 (kV doc pm : Value) (an : Option Addr) (cdv ct : Value) (us : List Value) (hl : us.length = 2) : bindArgs (PySem.W.fnOf D14.d.name D14.d.qual D14.d.params D14.d.body D14.d.scope .none kV doc pm an cdv ct) ⟨us, []⟩ = pure (D14.ps.zip us) := match us, hl with | [_, _], _ => rfl
theorem bn15 (kV doc pm : Value) (an : Option Addr) (cdv ct : Value) (us : List Value) (hl : us.length = 2) : bindArgs (PySem.W.fnOf D15.d.name D15.d.qual D15.d.params D15.d.body D15.d.scope .none kV doc pm an cdv ct) ⟨us, []⟩ = pure (D15.ps.zip us) := match us, hl with | [_, _], _ => rfl
theorem bn16 (kV doc pm : Value) (an : Option Addr) (cdv ct : Value) (us : List Value) (hl : us.length = 1) : bindArgs (PySem.W.fnOf D16.d.name D16.d.qual D16.d.params D16.d.body D16.d.scope .none kV doc pm an cdv ct) ⟨us, []⟩ = pure (D16.ps.zip us) := match us, hl with | [_], _ => rfl
theorem bn17 (kV doc pm : Value) (an : Option Addr) (cdv ct : Value) (us : List Value) (hl : us.length = 1) : bindArgs (PySem.W.fnOf D17.d.name D17.d.qual D17.d.params D17.d.body D17.d.scope .none kV doc pm an cdv ct) ⟨us, []⟩ = pure (D17.ps.zip us) := match us, hl with | [_], _ => rfl
theorem bn18 (kV doc pm : Value) (an : Option Addr) (cdv ct : Value) (us : List Value) (hl : us.length = 2) : bindArgs (PySem.W.fnOf D18.d.name D18.d.qual D18.d.params D18.d.body D18.d.scope .none kV doc pm an cdv ct) ⟨us, []⟩ = pure (D18.ps.zip us) := match us, hl with | [_, _], _ => rfl
theorem bn19 (kV doc pm : Value) (an : Option Addr) (cdv ct : Value) (us : List Value) (hl : us.length = 1) : bindArgs (PySem.W.fnOf D19.d.name D19.d.qual D19.d.params D19.d.body D19.d.scope .none kV doc pm an cdv ct) ⟨us, []⟩ = pure (D19.ps.zip us) := match us, hl with | [_], _ => rfl
theorem bn20 (kV doc pm : Value) (an : Option Addr) (cdv ct : Value) (us : List Value) (hl : us.length = 1) : bindArgs (PySem.W.fnOf D20.d.name D20.d.qual D20.d.params D20.d.body D20.d.scope .none kV doc pm an cdv ct) ⟨us, []⟩ = pure (D20.ps.zip us) := match us, hl with | [_], _ => rfl
theorem bn21 (kV doc pm : Value) (an : Option Addr) (cdv ct : Value) (us : List Value) (hl : us.length = 1) : bindArgs (PySem.W.fnOf D21.d.name D21.d.qual D21.d.params D21.d.body D21.d.scope .none kV doc pm an cdv ct) ⟨us, []⟩ = pure (D21.ps.zip us) := match us, hl with | [_], _ => rfl
theorem bn22 (kV doc pm : Value) (an : Option Addr) (cdv ct : Value) (us : List Value) (hl : us.length = 1) : bindArgs (PySem.W.fnOf D22.d.name D22.d.qual D22.d.params D22.d.body D22.d.scope .none kV doc pm an cdv ct) ⟨us, []⟩ = pure (D22.ps.zip us) := match us, hl with | [_], _ => rfl
theorem bn23 (kV doc pm : Value) (an : Option Addr) (cdv ct : Value) (us : List Value) (hl : us.length = 1) : bindArgs (PySem.W.fnOf D23.d.name D23.d.qual D23.d.params D23.d.body D23.d.scope .none kV doc pm an cdv ct) ⟨us, []⟩ = pure (D23.ps.zip us) := match us, hl with | [_], _ => rfl
theorem bn24 (kV doc pm : Value) (an : Option Addr) (cdv ct : Value) (us : List Value) (hl : us.length = 1) : bindArgs (PySem.W.fnOf D24.d.name D24.d.qual D24.d.params D24.d.body D24.d.scope .none kV doc pm an cdv ct) ⟨us, []⟩ = pure (D24.ps.zip us) := match us, hl with | [_], _ => rfl
theorem bn25 (kV doc pm : Value) (an : Option Addr) (cdv ct : Value) (us : List Value) (hl : us.length = 1) : bindArgs (PySem.W.fnOf D25.d.name D25.d.qual D25.d.params D25.d.body D25.d.scope .none kV doc pm an cdv ct) ⟨us, []⟩ = pure (D25.ps.zip us) := match us, hl with | [_], _ => rfl
theorem bn26 (kV doc pm : Value) (an : Option Addr) (cdv ct : Value) (us : List Value) (hl : us.length = 1) : bindArgs (PySem.W.fnOf D26.d.name D26.d.qual D26.d.params D26.d.body D26.d.scope .none kV doc pm an cdv ct) ⟨us, []⟩ = pure (D26.ps.zip us) := match us, hl with | [_], _ => rfl
theorem bn27 (kV doc pm : Value) (an : Option Addr) (cdv ct : Value) (us : List Value) (hl : us.length = 2) : bindArgs (PySem.W.fnOf D27.d.name D27.d.qual D27.d.params D27.d.body D27.d.scope .none kV doc pm an cdv ct) ⟨us, []⟩ = pure (D27.ps.zip us) := match us, hl with | [_, _], _ => rfl
theorem bn28 (kV doc pm : Value) (an : Option Addr) (cdv ct : Value) (us : List Value) (hl : us.length = 2) : bindArgs (PySem.W.fnOf D28.d.name D28.d.qual D28.d.params D28.d.body D28.d.scope .none kV doc pm an cdv ct) ⟨us, []⟩ = pure (D28.ps.zip us) := match us, hl with | [_, _], _ => rfl
theorem bn29 (kV doc pm : Value) (an : Option Addr) (cdv ct : Value) (us : List Value) (hl : us.length = 2) : bindArgs (PySem.W.fnOf D29.d.name D29.d.qual D29.d.params D29.d.body D29.d.scope .none kV doc pm an cdv ct) ⟨us, []⟩ = pure (D29.ps.zip us) := match us, hl with | [_, _], _ => rfl
theorem bn30 (kV doc pm : Value) (an : Option Addr) (cdv ct : Value) (us : List Value) (hl : us.length = 1) : bindArgs (PySem.W.fnOf D30.d.name D30.d.qual D30.d.params D30.d.body D30.d.scope .none kV doc pm an cdv ct) ⟨us, []⟩ = pure (D30.ps.zip us) := match us, hl with | [_], _ => rfl
theorem bn31 (kV doc pm : Value) (an : Option Addr) (cdv ct : Value) (us : List Value) (hl : us.length = 2) : bindArgs (PySem.W.fnOf D31.d.name D31.d.qual D31.d.params D31.d.body D31.d.scope .none kV doc pm an cdv ct) ⟨us, []⟩ = pure (D31.ps.zip us) := match us, hl with | [_, _], _ => rfl
theorem bn32 (kV doc pm : Value) (an : Option Addr) (cdv ct : Value) (us : List Value) (hl : us.length = 2) : bindArgs (PySem.W.fnOf D32.d.name D32.d.qual D32.d.params D32.d.body D32.d.scope .none kV doc pm an cdv ct) ⟨us, []⟩ = pure (D32.ps.zip us) := match us, hl with | [_, _], _ => rfl
theorem bn33 (kV doc pm : Value) (an : Option Addr) (cdv ct : Value) (us : List Value) (hl : us.length = 2) : bindArgs (PySem.W.fnOf D33.d.name D33.d.qual D33.d.params D33.d.body D33.d.scope .none kV doc pm an cdv ct) ⟨us, []⟩ = pure (D33.ps.zip us) := match us, hl with | [_, _], _ => rfl
theorem bn34 (kV doc pm : Value) (an : Option Addr) (cdv ct : Value) (us : List Value) (hl : us.length = 1) : bindArgs (PySem.W.fnOf D34.d.name D34.d.qual D34.d.params D34.d.body D34.d.scope .none kV doc pm an cdv ct) ⟨us, []⟩ = pure (D34.ps.zip us) := match us, hl with | [_], _ => rfl
theorem bn35 (kV doc pm : Value) (an : Option Addr) (cdv ct : Value) (us : List Value) (hl : us.length = 2) : bindArgs (PySem.W.fnOf D35.d.name D35.d.qual D35.d.params D35.d.body D35.d.scope .none kV doc pm an cdv ct) ⟨us, []⟩ = pure (D35.ps.zip us) := match us, hl with | [_, _], _ => rfl
theorem bn36 (kV doc pm : Value) (an : Option Addr) (cdv ct : Value) (us : List Value) (hl : us.length = 2) : bindArgs (PySem.W.fnOf D36.d.name D36.d.qual D36.d.params D36.d.body D36.d.scope .none kV doc pm an cdv ct) ⟨us, []⟩ = pure (D36.ps.zip us) := match us, hl with | [_, _], _ => rfl
theorem bn37 (kV doc pm : Value) (an : Option Addr) (cdv ct : Value) (us : List Value) (hl : us.length = 2) : bindArgs (PySem.W.fnOf D37.d.name D37.d.qual D37.d.params D37.d.body D37.d.scope .none kV doc pm an cdv ct) ⟨us, []⟩ = pure (D37.ps.zip us) := match us, hl with | [_, _], _ => rfl
theorem bn38 (kV doc pm : Value) (an : Option Addr) (cdv ct : Value) (us : List Value) (hl : us.length = 1) : bindArgs (PySem.W.fnOf D38.d.name D38.d.qual D38.d.params D38.d.body D38.d.scope .none kV doc pm an cdv ct) ⟨us, []⟩ = pure (D38.ps.zip us) := match us, hl with | [_], _ => rfl
theorem lawF (ev : ∀ ns : List Int, ns.length ≤ 63 → (∀ z ∈ ns, Builtin.Int.intBits z ≤ 1048576) → EV.callF TB.Tb 100000 60 38 [.list (ns.map .int)] = .ok (.bool true)) : LawF Gm 40 TB.Tb Ds fa fn ts tf ex 100000 60 38 "script" 63 where
  len := rfl
  all := fun i hi => match i, hi with
    | 0, _ => ck0
    | 1, _ => ck1
    | 2, _ => ck2
    | 3, _ => ck3
    | 4, _ => ck4
    | 5, _ => ck5
    | 6, _ => ck6
    | 7, _ => ck7
    | 8, _ => ck8
    | 9, _ => ck9
    | 10, _ => ck10
    | 11, _ => ck11
    | 12, _ => ck12
    | 13, _ => ck13
    | 14, _ => ck14
    | 15, _ => ck15
    | 16, _ => ck16
    | 17, _ => ck17
    | 18, _ => ck18
    | 19, _ => ck19
    | 20, _ => ck20
    | 21, _ => ck21
    | 22, _ => ck22
    | 23, _ => ck23
    | 24, _ => ck24
    | 25, _ => ck25
    | 26, _ => ck26
    | 27, _ => ck27
    | 28, _ => ck28
    | 29, _ => ck29
    | 30, _ => ck30
    | 31, _ => ck31
    | 32, _ => ck32
    | 33, _ => ck33
    | 34, _ => ck34
    | 35, _ => ck35
    | 36, _ => ck36
    | 37, _ => ck37
    | 38, _ => ck38
    | i + 39, hi => absurd hi (Nat.not_lt.mpr (Nat.le_add_left 39 i))
  mem := (List.forall_mem_cons.mpr ⟨⟨List.mem_of_getElem? (i := 0) rfl, List.mem_of_getElem? (i := 0) rfl, by decide +kernel⟩,
    (List.forall_mem_cons.mpr ⟨⟨List.mem_of_getElem? (i := 1) rfl, List.mem_of_getElem? (i := 1) rfl, by decide +kernel⟩,
    (List.forall_mem_cons.mpr ⟨⟨List.mem_of_getElem? (i := 2) rfl, List.mem_of_getElem? (i := 2) rfl, by decide +kernel⟩,
    (List.forall_mem_cons.mpr ⟨⟨List.mem_of_getElem? (i := 3) rfl, List.mem_of_getElem? (i := 3) rfl, by decide +kernel⟩,
    (List.forall_mem_cons.mpr ⟨⟨List.mem_of_getElem? (i := 4) rfl, List.mem_of_getElem? (i := 4) rfl, by decide +kernel⟩,
    (List.forall_mem_cons.mpr ⟨⟨List.mem_of_getElem? (i := 5) rfl, List.mem_of_getElem? (i := 5) rfl, by decide +kernel⟩,
    (List.forall_mem_cons.mpr ⟨⟨List.mem_of_getElem? (i := 6) rfl, List.mem_of_getElem? (i := 6) rfl, by decide +kernel⟩,
    (List.forall_mem_cons.mpr ⟨⟨List.mem_of_getElem? (i := 7) rfl, List.mem_of_getElem? (i := 7) rfl, by decide +kernel⟩,
    (List.forall_mem_cons.mpr ⟨⟨List.mem_of_getElem? (i := 8) rfl, List.mem_of_getElem? (i := 8) rfl, by decide +kernel⟩,
    (List.forall_mem_cons.mpr ⟨⟨List.mem_of_getElem? (i := 9) rfl, List.mem_of_getElem? (i := 9) rfl, by decide +kernel⟩,
    (List.forall_mem_cons.mpr ⟨⟨List.mem_of_getElem? (i := 10) rfl, List.mem_of_getElem? (i := 10) rfl, by decide +kernel⟩,
    (List.forall_mem_cons.mpr ⟨⟨List.mem_of_getElem? (i := 11) rfl, List.mem_of_getElem? (i := 11) rfl, by decide +kernel⟩,
    (List.forall_mem_cons.mpr ⟨⟨List.mem_of_getElem? (i := 12) rfl, List.mem_of_getElem? (i := 12) rfl, by decide +kernel⟩,
    (List.forall_mem_cons.mpr ⟨⟨List.mem_of_getElem? (i := 13) rfl, List.mem_of_getElem? (i := 13) rfl, by decide +kernel⟩,
    (List.forall_mem_cons.mpr ⟨⟨List.mem_of_getElem? (i := 14) rfl, List.mem_of_getElem? (i := 14) rfl, by decide +kernel⟩,
    (List.forall_mem_cons.mpr ⟨⟨List.mem_of_getElem? (i := 15) rfl, List.mem_of_getElem? (i := 15) rfl, by decide +kernel⟩,
    (List.forall_mem_cons.mpr ⟨⟨List.mem_of_getElem? (i := 16) rfl, List.mem_of_getElem? (i := 16) rfl, by decide +kernel⟩,
    (List.forall_mem_cons.mpr ⟨⟨List.mem_of_getElem? (i := 17) rfl, List.mem_of_getElem? (i := 17) rfl, by decide +kernel⟩,
    (List.forall_mem_cons.mpr ⟨⟨List.mem_of_getElem? (i := 18) rfl, List.mem_of_getElem? (i := 18) rfl, by decide +kernel⟩,
    (List.forall_mem_cons.mpr ⟨⟨List.mem_of_getElem? (i := 19) rfl, List.mem_of_getElem? (i := 19) rfl, by decide +kernel⟩,
    (List.forall_mem_cons.mpr ⟨⟨List.mem_of_getElem? (i := 20) rfl, List.mem_of_getElem? (i := 20) rfl, by decide +kernel⟩,
    (List.forall_mem_cons.mpr ⟨⟨List.mem_of_getElem? (i := 21) rfl, List.mem_of_getElem? (i := 21) rfl, by decide +kernel⟩,
    (List.forall_mem_cons.mpr ⟨⟨List.mem_of_getElem? (i := 22) rfl, List.mem_of_getElem? (i := 22) rfl, by decide +kernel⟩,
    (List.forall_mem_cons.mpr ⟨⟨List.mem_of_getElem? (i := 23) rfl, List.mem_of_getElem? (i := 23) rfl, by decide +kernel⟩,
    (List.forall_mem_cons.mpr ⟨⟨List.mem_of_getElem? (i := 24) rfl, List.mem_of_getElem? (i := 24) rfl, by decide +kernel⟩,
    (List.forall_mem_cons.mpr ⟨⟨List.mem_of_getElem? (i := 25) rfl, List.mem_of_getElem? (i := 25) rfl, by decide +kernel⟩,
    (List.forall_mem_cons.mpr ⟨⟨List.mem_of_getElem? (i := 26) rfl, List.mem_of_getElem? (i := 26) rfl, by decide +kernel⟩,
    (List.forall_mem_cons.mpr ⟨⟨List.mem_of_getElem? (i := 27) rfl, List.mem_of_getElem? (i := 27) rfl, by decide +kernel⟩,
    (List.forall_mem_cons.mpr ⟨⟨List.mem_of_getElem? (i := 28) rfl, List.mem_of_getElem? (i := 28) rfl, by decide +kernel⟩,
    (List.forall_mem_cons.mpr ⟨⟨List.mem_of_getElem? (i := 29) rfl, List.mem_of_getElem? (i := 29) rfl, by decide +kernel⟩,
    (List.forall_mem_cons.mpr ⟨⟨List.mem_of_getElem? (i := 30) rfl, List.mem_of_getElem? (i := 30) rfl, by decide +kernel⟩,
    (List.forall_mem_cons.mpr ⟨⟨List.mem_of_getElem? (i := 31) rfl, List.mem_of_getElem? (i := 31) rfl, by decide +kernel⟩,
    (List.forall_mem_cons.mpr ⟨⟨List.mem_of_getElem? (i := 32) rfl, List.mem_of_getElem? (i := 32) rfl, by decide +kernel⟩,
    (List.forall_mem_cons.mpr ⟨⟨List.mem_of_getElem? (i := 33) rfl, List.mem_of_getElem? (i := 33) rfl, by decide +kernel⟩,
    (List.forall_mem_cons.mpr ⟨⟨List.mem_of_getElem? (i := 34) rfl, List.mem_of_getElem? (i := 34) rfl, by decide +kernel⟩,
    (List.forall_mem_cons.mpr ⟨⟨List.mem_of_getElem? (i := 35) rfl, List.mem_of_getElem? (i := 35) rfl, by decide +kernel⟩,
    (List.forall_mem_cons.mpr ⟨⟨List.mem_of_getElem? (i := 36) rfl, List.mem_of_getElem? (i := 36) rfl, by decide +kernel⟩,
    (List.forall_mem_cons.mpr ⟨⟨List.mem_of_getElem? (i := 37) rfl, List.mem_of_getElem? (i := 37) rfl, by decide +kernel⟩,
    (List.forall_mem_cons.mpr ⟨⟨List.mem_of_getElem? (i := 38) rfl, List.mem_of_getElem? (i := 38) rfl, by decide +kernel⟩,
    (fun _ h => nomatch h)⟩)⟩)⟩)⟩)⟩)⟩)⟩)⟩)⟩)⟩)⟩)⟩)⟩)⟩)⟩)⟩)⟩)⟩)⟩)⟩)⟩)⟩)⟩)⟩)⟩)⟩)⟩)⟩)⟩)⟩)⟩)⟩)⟩)⟩)⟩)⟩)⟩)⟩)⟩)
  free := (List.forall_mem_cons.mpr ⟨List.mem_of_getElem? (i := 44) rfl,
    (List.forall_mem_cons.mpr ⟨List.mem_of_getElem? (i := 53) rfl,
    (List.forall_mem_cons.mpr ⟨List.mem_of_getElem? (i := 45) rfl,
    (List.forall_mem_cons.mpr ⟨List.mem_of_getElem? (i := 52) rfl,
    (List.forall_mem_cons.mpr ⟨List.mem_of_getElem? (i := 42) rfl,
    (List.forall_mem_cons.mpr ⟨List.mem_of_getElem? (i := 39) rfl,
    (List.forall_mem_cons.mpr ⟨List.mem_of_getElem? (i := 47) rfl,
    (List.forall_mem_cons.mpr ⟨List.mem_of_getElem? (i := 46) rfl,
    (List.forall_mem_cons.mpr ⟨List.mem_of_getElem? (i := 50) rfl,
    (List.forall_mem_cons.mpr ⟨List.mem_of_getElem? (i := 43) rfl,
    (List.forall_mem_cons.mpr ⟨List.mem_of_getElem? (i := 48) rfl,
    (List.forall_mem_cons.mpr ⟨List.mem_of_getElem? (i := 49) rfl,
    (List.forall_mem_cons.mpr ⟨List.mem_of_getElem? (i := 41) rfl,
    (List.forall_mem_cons.mpr ⟨List.mem_of_getElem? (i := 40) rfl,
    (List.forall_mem_cons.mpr ⟨List.mem_of_getElem? (i := 51) rfl,
    (fun _ h => nomatch h)⟩)⟩)⟩)⟩)⟩)⟩)⟩)⟩)⟩)⟩)⟩)⟩)⟩)⟩)⟩)
  con := fun n d h => ((List.forall_mem_cons.mpr ⟨.inl ⟨8, rfl, List.mem_of_getElem? (i := 89) rfl⟩,
    (List.forall_mem_cons.mpr ⟨.inl ⟨8, rfl, List.mem_of_getElem? (i := 91) rfl⟩,
    (List.forall_mem_cons.mpr ⟨.inl ⟨-9, rfl, List.mem_of_getElem? (i := 90) rfl⟩,
    (fun _ h => nomatch h)⟩)⟩)⟩) : ∀ q ∈ Gm.cons, (∃ i, q.2 = .int i ∧ He.Fa.int q.1 i ∈ fa) ∨ ∃ z, q.2 = .str z ∧ He.Fa.str q.1 z ∈ fa) (n, d) (PySem.mem_of_lookup h)
  tabs := fun g kvs h => ((List.forall_mem_cons.mpr ⟨⟨List.mem_of_getElem? (i := 92) rfl, ⟨0, _, rfl⟩, fun K h => (He.ba h).1⟩,
    (List.forall_mem_cons.mpr ⟨⟨List.mem_of_getElem? (i := 93) rfl, ⟨1, _, rfl⟩, fun K h => (He.ba h).2⟩,
    (fun _ h => nomatch h)⟩)⟩) : ∀ q ∈ Gm.tabs, He.Fa.glo q.1 ∈ fa ∧ (∃ (i : Nat) (ks : List PySem.Str), ts[i]? = some ((fun K => He.ga K q.1), ks)) ∧ ∀ K, ex K = true → He.valsB K (He.ga K q.1) (q.2.map fun z => (z.1, .int z.2)) = true) (g, kvs) (PySem.mem_of_lookup h)
  exc := (List.forall_mem_cons.mpr ⟨⟨List.mem_of_getElem? (i := 55) rfl, List.mem_of_getElem? (i := 54) rfl⟩,
    (List.forall_mem_cons.mpr ⟨⟨List.mem_of_getElem? (i := 57) rfl, List.mem_of_getElem? (i := 56) rfl⟩,
    (List.forall_mem_cons.mpr ⟨⟨List.mem_of_getElem? (i := 59) rfl, List.mem_of_getElem? (i := 58) rfl⟩,
    (List.forall_mem_cons.mpr ⟨⟨List.mem_of_getElem? (i := 61) rfl, List.mem_of_getElem? (i := 60) rfl⟩,
    (List.forall_mem_cons.mpr ⟨⟨List.mem_of_getElem? (i := 63) rfl, List.mem_of_getElem? (i := 62) rfl⟩,
    (fun _ h => nomatch h)⟩)⟩)⟩)⟩)⟩)
  exm := fun i j a b h1 h2 => match i, j, h1, h2 with
    | 0, 0, h1, h2 => by cases h1; cases h2; exact List.mem_of_getElem? (i := 64) rfl
    | 0, 1, h1, h2 => by cases h1; cases h2; exact List.mem_of_getElem? (i := 65) rfl
    | 0, 2, h1, h2 => by cases h1; cases h2; exact List.mem_of_getElem? (i := 66) rfl
    | 0, 3, h1, h2 => by cases h1; cases h2; exact List.mem_of_getElem? (i := 67) rfl
    | 0, 4, h1, h2 => by cases h1; cases h2; exact List.mem_of_getElem? (i := 68) rfl
    | 1, 0, h1, h2 => by cases h1; cases h2; exact List.mem_of_getElem? (i := 69) rfl
    | 1, 1, h1, h2 => by cases h1; cases h2; exact List.mem_of_getElem? (i := 70) rfl
    | 1, 2, h1, h2 => by cases h1; cases h2; exact List.mem_of_getElem? (i := 71) rfl
    | 1, 3, h1, h2 => by cases h1; cases h2; exact List.mem_of_getElem? (i := 72) rfl
    | 1, 4, h1, h2 => by cases h1; cases h2; exact List.mem_of_getElem? (i := 73) rfl
    | 2, 0, h1, h2 => by cases h1; cases h2; exact List.mem_of_getElem? (i := 74) rfl
    | 2, 1, h1, h2 => by cases h1; cases h2; exact List.mem_of_getElem? (i := 75) rfl
    | 2, 2, h1, h2 => by cases h1; cases h2; exact List.mem_of_getElem? (i := 76) rfl
    | 2, 3, h1, h2 => by cases h1; cases h2; exact List.mem_of_getElem? (i := 77) rfl
    | 2, 4, h1, h2 => by cases h1; cases h2; exact List.mem_of_getElem? (i := 78) rfl
    | 3, 0, h1, h2 => by cases h1; cases h2; exact List.mem_of_getElem? (i := 79) rfl
    | 3, 1, h1, h2 => by cases h1; cases h2; exact List.mem_of_getElem? (i := 80) rfl
    | 3, 2, h1, h2 => by cases h1; cases h2; exact List.mem_of_getElem? (i := 81) rfl
    | 3, 3, h1, h2 => by cases h1; cases h2; exact List.mem_of_getElem? (i := 82) rfl
    | 3, 4, h1, h2 => by cases h1; cases h2; exact List.mem_of_getElem? (i := 83) rfl
    | 4, 0, h1, h2 => by cases h1; cases h2; exact List.mem_of_getElem? (i := 84) rfl
    | 4, 1, h1, h2 => by cases h1; cases h2; exact List.mem_of_getElem? (i := 85) rfl
    | 4, 2, h1, h2 => by cases h1; cases h2; exact List.mem_of_getElem? (i := 86) rfl
    | 4, 3, h1, h2 => by cases h1; cases h2; exact List.mem_of_getElem? (i := 87) rfl
    | 4, 4, h1, h2 => by cases h1; cases h2; exact List.mem_of_getElem? (i := 88) rfl
    | i + 5, _, h1, _ => absurd h1 (by simp [Gm])
    | 0, j + 5, _, h2 => absurd h2 (by simp [Gm])
    | 1, j + 5, _, h2 => absurd h2 (by simp [Gm])
    | 2, j + 5, _, h2 => absurd h2 (by simp [Gm])
    | 3, j + 5, _, h2 => absurd h2 (by simp [Gm])
    | 4, j + 5, _, h2 => absurd h2 (by simp [Gm])
  gen := (List.forall_mem_cons.mpr ⟨fun h => absurd h Bool.false_ne_true,
    (List.forall_mem_cons.mpr ⟨fun h => absurd h Bool.false_ne_true,
    (List.forall_mem_cons.mpr ⟨fun h => absurd h Bool.false_ne_true,
    (List.forall_mem_cons.mpr ⟨fun _ => List.mem_of_getElem? (i := 0) rfl,
    (List.forall_mem_cons.mpr ⟨fun _ => List.mem_of_getElem? (i := 1) rfl,
    (List.forall_mem_cons.mpr ⟨fun h => absurd h Bool.false_ne_true,
    (List.forall_mem_cons.mpr ⟨fun h => absurd h Bool.false_ne_true,
    (List.forall_mem_cons.mpr ⟨fun h => absurd h Bool.false_ne_true,
    (List.forall_mem_cons.mpr ⟨fun h => absurd h Bool.false_ne_true,
    (List.forall_mem_cons.mpr ⟨fun h => absurd h Bool.false_ne_true,
    (List.forall_mem_cons.mpr ⟨fun h => absurd h Bool.false_ne_true,
    (List.forall_mem_cons.mpr ⟨fun h => absurd h Bool.false_ne_true,
    (List.forall_mem_cons.mpr ⟨fun h => absurd h Bool.false_ne_true,
    (List.forall_mem_cons.mpr ⟨fun h => absurd h Bool.false_ne_true,
    (List.forall_mem_cons.mpr ⟨fun h => absurd h Bool.false_ne_true,
    (List.forall_mem_cons.mpr ⟨fun h => absurd h Bool.false_ne_true,
    (List.forall_mem_cons.mpr ⟨fun _ => List.mem_of_getElem? (i := 2) rfl,
    (List.forall_mem_cons.mpr ⟨fun h => absurd h Bool.false_ne_true,
    (List.forall_mem_cons.mpr ⟨fun h => absurd h Bool.false_ne_true,
    (List.forall_mem_cons.mpr ⟨fun h => absurd h Bool.false_ne_true,
    (List.forall_mem_cons.mpr ⟨fun h => absurd h Bool.false_ne_true,
    (List.forall_mem_cons.mpr ⟨fun _ => List.mem_of_getElem? (i := 3) rfl,
    (List.forall_mem_cons.mpr ⟨fun h => absurd h Bool.false_ne_true,
    (List.forall_mem_cons.mpr ⟨fun h => absurd h Bool.false_ne_true,
    (List.forall_mem_cons.mpr ⟨fun h => absurd h Bool.false_ne_true,
    (List.forall_mem_cons.mpr ⟨fun h => absurd h Bool.false_ne_true,
    (List.forall_mem_cons.mpr ⟨fun h => absurd h Bool.false_ne_true,
    (List.forall_mem_cons.mpr ⟨fun _ => List.mem_of_getElem? (i := 4) rfl,
    (List.forall_mem_cons.mpr ⟨fun h => absurd h Bool.false_ne_true,
    (List.forall_mem_cons.mpr ⟨fun h => absurd h Bool.false_ne_true,
    (List.forall_mem_cons.mpr ⟨fun h => absurd h Bool.false_ne_true,
    (List.forall_mem_cons.mpr ⟨fun _ => List.mem_of_getElem? (i := 5) rfl,
    (List.forall_mem_cons.mpr ⟨fun h => absurd h Bool.false_ne_true,
    (List.forall_mem_cons.mpr ⟨fun h => absurd h Bool.false_ne_true,
    (List.forall_mem_cons.mpr ⟨fun h => absurd h Bool.false_ne_true,
    (List.forall_mem_cons.mpr ⟨fun h => absurd h Bool.false_ne_true,
    (List.forall_mem_cons.mpr ⟨fun h => absurd h Bool.false_ne_true,
    (List.forall_mem_cons.mpr ⟨fun h => absurd h Bool.false_ne_true,
    (List.forall_mem_cons.mpr ⟨fun h => absurd h Bool.false_ne_true,
    (fun _ h => nomatch h)⟩)⟩)⟩)⟩)⟩)⟩)⟩)⟩)⟩)⟩)⟩)⟩)⟩)⟩)⟩)⟩)⟩)⟩)⟩)⟩)⟩)⟩)⟩)⟩)⟩)⟩)⟩)⟩)⟩)⟩)⟩)⟩)⟩)⟩)⟩)⟩)⟩)⟩)⟩)
  bnd := (List.forall_mem_cons.mpr ⟨bn0,
    (List.forall_mem_cons.mpr ⟨bn1,
    (List.forall_mem_cons.mpr ⟨bn2,
    (List.forall_mem_cons.mpr ⟨bn3,
    (List.forall_mem_cons.mpr ⟨bn4,
    (List.forall_mem_cons.mpr ⟨bn5,
    (List.forall_mem_cons.mpr ⟨bn6,
    (List.forall_mem_cons.mpr ⟨bn7,
    (List.forall_mem_cons.mpr ⟨bn8,
    (List.forall_mem_cons.mpr ⟨bn9,
    (List.forall_mem_cons.mpr ⟨bn10,
    (List.forall_mem_cons.mpr ⟨bn11,
    (List.forall_mem_cons.mpr ⟨bn12,
    (List.forall_mem_cons.mpr ⟨bn13,
    (List.forall_mem_cons.mpr ⟨bn14,
    (List.forall_mem_cons.mpr ⟨bn15,
    (List.forall_mem_cons.mpr ⟨bn16,
    (List.forall_mem_cons.mpr ⟨bn17,
    (List.forall_mem_cons.mpr ⟨bn18,
    (List.forall_mem_cons.mpr ⟨bn19,
    (List.forall_mem_cons.mpr ⟨bn20,
    (List.forall_mem_cons.mpr ⟨bn21,
    (List.forall_mem_cons.mpr ⟨bn22,
    (List.forall_mem_cons.mpr ⟨bn23,
    (List.forall_mem_cons.mpr ⟨bn24,
    (List.forall_mem_cons.mpr ⟨bn25,
    (List.forall_mem_cons.mpr ⟨bn26,
    (List.forall_mem_cons.mpr ⟨bn27,
    (List.forall_mem_cons.mpr ⟨bn28,
    (List.forall_mem_cons.mpr ⟨bn29,
    (List.forall_mem_cons.mpr ⟨bn30,
    (List.forall_mem_cons.mpr ⟨bn31,
    (List.forall_mem_cons.mpr ⟨bn32,
    (List.forall_mem_cons.mpr ⟨bn33,
    (List.forall_mem_cons.mpr ⟨bn34,
    (List.forall_mem_cons.mpr ⟨bn35,
    (List.forall_mem_cons.mpr ⟨bn36,
    (List.forall_mem_cons.mpr ⟨bn37,
    (List.forall_mem_cons.mpr ⟨bn38,
    (fun _ h => nomatch h)⟩)⟩)⟩)⟩)⟩)⟩)⟩)⟩)⟩)⟩)⟩)⟩)⟩)⟩)⟩)⟩)⟩)⟩)⟩)⟩)⟩)⟩)⟩)⟩)⟩)⟩)⟩)⟩)⟩)⟩)⟩)⟩)⟩)⟩)⟩)⟩)⟩)⟩)⟩)
  law := ⟨D38, rfl, rfl⟩
  ev := ev
end HK
end
open PySem PySem.W
open PySem.Calls PyProof.Rows
theorem PySem.Challenge.rest_rootworks_k79_orders_of_things (ev : ∀ ns : List Int, ns.length ≤ 63 → (∀ z ∈ ns, Builtin.Int.intBits z ≤ 1048576) → EV.callF TB.Tb 100000 60 38 [.list (ns.map .int)] = .ok (.bool true)) : PySem.Challenge.rw_rootworks_k79_orders_of_things.Holds := by
  w_on; o_law
  refine HandSHeadRun.head_any (r := OpenLaw.row PySem.Challenge.rw_rootworks_k79_orders_of_things) (q := view (OpenLaw.row PySem.Challenge.rw_rootworks_k79_orders_of_things).prog [55]) (H := HK.hk) (ob := HK.ob) (M := 6000) (loose := HK.names) (d := HandSHeadRun.topDef (OpenLaw.row PySem.Challenge.rw_rootworks_k79_orders_of_things).prog 55) (kwd := []) HK.ob_eq
    (by kernel_rfl) (fun s => by kernel_rfl) HK.run (by kernel_rfl) (by kernel_rfl) (by kernel_rfl) (by rfl) (by first | assumption | decide +kernel) (by decide +kernel) ⟨rfl, rfl, rfl, rfl, rfl, by decide +kernel⟩ ?hw ?hc
  case hw => w_witness2
  case hc =>
    refine LamX.walk_ofTsE (l := PySem.Challenge.rw_rootworks_k79_orders_of_things) (n := 63) (k := 2 * 60) (x := "script") (CX := fun w => L2.CX (PySem.Challenge.rw_rootworks_k79_orders_of_things).prog w) rfl (by decide) (by kernel_rfl) ⟨rfl, by decide, by decide⟩ ?F (fun _ _ _ _ _ z => ES.cx_no z)
    intro w mg fa h Y G hmg0
    obtain ⟨K, KX, c⟩ := Y
    refine ⟨K, KX, ES.law_at (HK.lawF ev) KX c G fun D hD => ?_⟩
    have e : (HandSHeadRun.topDef (OpenLaw.row PySem.Challenge.rw_rootworks_k79_orders_of_things).prog 55).name = ("law" : PySem.Str) := by kernel_rfl
    cases hD
    have e2 : HK.D38.d.name = ("law" : PySem.Str) := rfl
    rw [e2, ← e]
    exact hmg0

theorem PySem.Challenge.cw_rootworks_k79_orders_of_things_holds : PySem.Challenge.rw_rootworks_k79_orders_of_things.Holds := by
  exact PySem.Challenge.rest_rootworks_k79_orders_of_things fun ns _ _ => K79.evs ns
